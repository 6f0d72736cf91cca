/-
  What the proof stands on, part 6.
-/
import Derived.Test.YtmomhohmknlmkaaGreatKS5
namespace Go.Proofs.YtmomhohmknlmkaaGreat
open Go Go.RowKit
set_option linter.unusedVariables false
set_option linter.unusedSimpArgs false
theorem Eo (A_l:Option Addr) (n_l c_l:Nat) (l:List Bool) (w:World) (f_l:bN mV w A_l n_l l) (hn:n_l≤5) :
    Calls Tryz.prog 152 #[.slice A_l n_l c_l] w fun e w'=>e = .returned (.int .i64 (gz l))∧St w [] [] w':=by
 have hl:=f_l.len
 refine enter 21 Tryz.func152 rfl Tryz.ntmps152 rfl rfl ?_
 have G:=St.init w
 refine WC.r1 G [] rfl (WC.r1 G [] rfl (WC.seq (fun K2 O=>WC.r1 G [] rfl (WC.block ?_))))
 refine WC.lS [0,2] rfl G (fun k_ f w'=>∃ (i:Nat),k_=i+i∧(i≤l.length)∧cC [(4,.int .i64 ((i:Int)-1)),(3,.int .i64 (gz (l.drop i)))] f) ((fun (i:Nat)=>i+i) (l.length)) ?_ ?_
 ·refine ⟨l.length,rfl,?_,⟨?_,?_,trivial⟩⟩
  · exact Nat.le_refl _
  · (refine congrArg some (congrArg (Value.int _) ?_);omega)
  · (refine congrArg some (congrArg (Value.int _) ?_);rw [List.drop_length];rfl)
 clear G
 rintro _ f w ⟨i,rfl,p0,hG⟩ hF E
 refine WC.sub _ (hG.app hF) ?_
 clear hG hF
 have a2:=yn (l:=l.drop i) (by rw [List.length_drop];omega)
 refine WC.seq (fun K4 U=>WC.r1 E [] rfl ?_)
 refine WC.cq rfl (fun V Z=>?_) (fun V Z=>?_)
 ·have M:gz (l.drop (i-1))=gz (l.drop i)*2+dL (bO mV l (i-1)) 1:=by have h9:=vX (l:=l) (i:=i-1) (by omega);rwa [show i-1+1=i by omega] at h9
  refine WC.skip (U _ _ (WC.seq (fun K6 N=>WC.block (WC.r1 E [] rfl (WC.sr (WL.r 2 E [] rfl ?_))))))
  refine WL.val rfl rfl rfl (bP.idxK (i-1) bB ap rfl rfl rfl ?_ ?_ ?_) ?_
  · exact bN.some_ (bN.st0 f_l E)
  · omega
  · omega
  refine WL.val rfl rfl rfl (bP.load aw rfl rfl (bN.one1 (bN.st0 f_l E) ?_ rfl)) ?_
  · omega
  refine WL.nil (WC.cq rfl (fun I ag=>?_) (fun I ag=>?_))
  ·have J:dL (bO mV l (i-1)) 1=1:=by unfold dL;rw [I];rfl
   refine WC.region (WL.r 3 E [] rfl (WL.nil (N _ _ (WC.region (WL.r 3 E [] rfl (WL.nil (cQ ?_)))))))
   refine ⟨cR rfl,E,_,?_,i-1,rfl,?_,⟨?_,?_,trivial⟩⟩
   · omega
   · omega
   · (refine congrArg some (congrArg (Value.int _) ?_);omega)
   · (refine congrArg some (congrArg (Value.int _) ?_);rw [M,J];try omega)
  have J:dL (bO mV l (i-1)) 1=0:=by unfold dL;rw [I];rfl
  refine WC.skip (N _ _ (WC.region (WL.r 3 E [] rfl (WL.nil (cQ ?_)))))
  refine ⟨cR rfl,E,_,?_,i-1,rfl,?_,⟨?_,?_,trivial⟩⟩
  · omega
  · omega
  · (refine congrArg some (congrArg (Value.int _) ?_);omega)
  · (refine congrArg some (congrArg (Value.int _) ?_);rw [M,J];try omega)
 refine WC.exit (O _ _ (WC.r1 E [] rfl (WC.ret (rtv rfl rfl E ?_))))
 rw [show i=0 by omega,List.drop_zero]
theorem uq (v_b:Value) (b:List UInt8) (L_b:Hp) (A_l:Option Addr) (n_l c_l:Nat) (l:List Int) (w:World) (o_b:bS cj 5 v_b b L_b) (h_b:Hh w L_b) (f_l:bN cf w A_l n_l l) (s_l:0<n_l→(eq A_l).block∉L_b.map (·.1)) (hl:∀ x,x∈l→0≤x∧x≤4294967295) (hx:b.length+5*n_l≤268435400) :
    Calls Tryz.prog 86 #[v_b,.slice A_l n_l c_l] w fun e w'=>∃ A c L1,e = .returned (.slice A (b++cg l.length++cm l).length c)∧St w (L_b.map (·.1)) L1 w'∧bS cj 5 (.slice A (b++cg l.length++cm l).length c) (b++cg l.length++cm l) L1:=by
 obtain ⟨A_b,c_b,rfl⟩:=o_b.shape
 have M:=f_l.len
 have ad:=cS ((n_l:Int)).toNat (by omega)
 refine enter 15 Tryz.func86 rfl Tryz.ntmps86 rfl rfl ?_
 have I:=St.lent1 w L_b o_b h_b
 refine WC.r1 I [] rfl (WC.sr (WL.r 3 I [] rfl (WL.x3 I Tryz.call83 rfl (kT _ _ _ _ _ _ (bN.ofOwn o_b (I.ow L_b)) ?_ ?_ ?_) (fun _ A3 c4 N O E=>?_))))
 iterate 3 omega
 refine WL.r 4 E [] rfl (WL.nil (WC.sr (WL.r 2 E [] rfl (WL.l3 E Tryz.call81 rfl (te _ _ _ _ _ _ _ _ O (E.ow N) (bN.st f_l E s_l) (St.sepT E f_l s_l) ?_ ?_) (fun _ U V aB G J=>?_)))))
 · exact hl
 · (simp only [List.length_append];omega)
 refine WL.r 1 J [] rfl (WL.nil (WC.ret (cO rfl (cb.tmp rfl) ?_)))
 have Z:=bS.eqOf (xs:=b++cg l.length++cm l) G (by rw [← M] at *;first | rfl | simp)
 rw [← Z]
 first | exact ⟨_,_,_,rfl,(St.keep1 J),G⟩ | exact ⟨U,V,_,by rw [bS.len_ G],(St.keep1 J),by rw [bS.len_ G];exact G⟩
theorem Cl (t:eL) (w:World) (f_t:dU 549755813888 w t) (hsm:eC 1048576 t.dat) :
    Calls Tryz.prog 82 #[.agg (kX t).toArray] w fun e w'=>∃ A c L1,e = .returned (.tuple #[.slice A (df t.dat).length c,.bool (dh t.dat)])∧St w [] L1 w'∧bS cj 5 (.slice A (df t.dat).length c) (df t.dat) L1:=by
 have hv:=f_t.P.Args_n
 have hw:=f_t.P.Args.len
 have hA:=f_t.P.Part_n
 have hB:=f_t.P.Part.len
 have hC:=f_t.S.Main.Cells_n
 have hD:=f_t.S.Main.Cells.len
 have hE:=f_t.S.Alt.Cells_n
 have hH:=f_t.S.Alt.Cells.len
 have hK:=f_t.S.Tabs_n
 have hL:=f_t.S.Tabs.len
 have hM:=f_t.S.Back_n
 have eA:=f_t.S.Back.sl.len
 refine enter 147 Tryz.func82 rfl Tryz.ntmps82 rfl rfl ?_
 have eO:=St.init w
 refine WC.sr (WL.bx eO rfl (fun b2 _ b3=>WL.r 2 b3 [] rfl (WL.nil (WC.seq (fun K4 d2=>WC.sr (WL.r 1 b3 [0] rfl (WL.c0 b3 Tryz.call151 rfl (Cv t _ (dU.st0 f_t b3)) (fun _ bb=>?_))))))))
 refine WL.r 1 bb [] rfl (WL.nil (WC.cq rfl (fun h6 e0=>?_) (fun h6 e0=>?_)))
 ·have J:dh t.dat=false:=by unfold dh;rw [show eR t.dat=false from by have U:=h6;simpa using U];rfl
  refine WC.r1 bb [] rfl (WC.ret (cd ?_))
  clear d2
  refine di rfl (cb.tmp rfl) (cb.tmp rfl) ?_
  rw [J]
  have bc:=bS.eqOf (xs:=df t.dat) (bS.nil cj 5) (by simp [df,J])
  rw [← bc]
  exact ⟨_,_,_,rfl,bb.nil,(bS.nil cj 5)⟩
 have b4:eR t.dat=true:=by have U:=h6;simpa using U
 have bd:=kG b4
 obtain ⟨hQ,e1,b5⟩:=mL bd.1
 obtain ⟨hgm,hga⟩:=lb bd.2
 obtain ⟨c2,d3⟩:=fR hgm
 obtain ⟨c3,d4⟩:=fR hga
 have hh:=nJ b4
 have b6:=mr bd.2
 have d6:=mB bd.2
 obtain ⟨_,_,_,_,e2,e3⟩:=kO bd.2
 have hR:t.P.Part.xs.length≤1048576:=hsm.1.2
 have hS:t.S.Tabs.xs.length≤1048576:=hsm.2.2.2.1
 have hT:t.P.Args.xs.length≤8:=e1
 have hV:t.S.Main.Cells.xs.length≤4000:=c2
 have hW:t.S.Alt.Cells.xs.length≤4000:=c3
 have h0:t.S.Back.xs.length≤100:=by have U:((t.S.Back.xs.map dq.dat).length:Int)≤t.S.Limit:=e3;have h8:t.S.Limit≤100:=e2.2;rw [List.length_map] at U;omega
 have q1:=dM (l:=dQ t.dat) (fun x hx=>by have:=(hh x hx).2;omega)
 have q2:=dM (l:=t.P.Args.xs) (fun x hx=>by have:=(b5 x hx).2;omega)
 have q3:=dM (l:=fm t.P.Part.xs) (fun x hx=>by have:=(iQ x hx).2;omega)
 rw [cP] at q3
 have q4:=dM (l:=t.S.Tabs.xs) (fun x hx=>by have:=(b6 x hx).2;omega)
 have q5:(cY t.S.Main.Cells.xs).length≤15*t.S.Main.Cells.xs.length:=jo c2 d3
 have q6:(cY t.S.Alt.Cells.xs).length≤15*t.S.Alt.Cells.xs.length:=jo c3 d4
 have w4:=cS ((t.S.Back.n:Int)).toNat (by omega)
 have ib:(dQ t.dat).length=13:=rfl
 have b8:[t.S.W,t.S.H,gz [t.S.OnAlt,t.S.Wrap,t.S.NoWrap,t.S.Hide,t.P.Mark],t.S.X,t.S.Y,cU ⟨t.S.A.Fg,t.S.A.Bg,t.S.A.Bold,t.S.A.Under,t.S.A.Turn⟩,t.S.Top,t.S.Bot,t.S.SaveX,t.S.SaveY,cU ⟨t.S.SaveA.Fg,t.S.SaveA.Bg,t.S.SaveA.Bold,t.S.SaveA.Under,t.S.SaveA.Turn⟩,t.S.Limit,t.P.State]=dQ t.dat:=by rw [AW];rfl
 have w1:=cS t.P.Args.xs.length (by omega)
 have w2:=cS t.P.Part.xs.length (by omega)
 have w3:=cS t.S.Tabs.xs.length (by omega)
 have z1:=ls t.S.Main.Cells.xs
 have z2:=ls t.S.Alt.Cells.xs
 have z5:(cm ([t.S.W,t.S.H,gz [t.S.OnAlt,t.S.Wrap,t.S.NoWrap,t.S.Hide,t.P.Mark],t.S.X,t.S.Y,cU ⟨t.S.A.Fg,t.S.A.Bg,t.S.A.Bold,t.S.A.Under,t.S.A.Turn⟩,t.S.Top,t.S.Bot,t.S.SaveX,t.S.SaveY,cU ⟨t.S.SaveA.Fg,t.S.SaveA.Bg,t.S.SaveA.Bold,t.S.SaveA.Under,t.S.SaveA.Turn⟩,t.S.Limit,t.P.State])).length≤65:=by rw [b8];omega
 have e5:eT t.S.Main.Cells.xs=cY t.S.Main.Cells.xs:=nP c2 d3
 have e6:eT t.S.Alt.Cells.xs=cY t.S.Alt.Cells.xs:=nP c3 d4
 refine WC.skip (d2 _ _ (WC.sr (WL.r 2 bb [0] rfl (WL.al bb bE rfl rfl (fun b7 _ e7=>WL.st bX e7 0 rfl rfl (fun _ e8=>WL.nil (WC.sr ?_)))))))
 refine WL.buildF (F:=cf) e8 ([]) ae aa an rfl rfl rfl rfl rfl rfl rfl rfl rfl rfl rfl rfl (fun i3 j1 e9 j2 ad fb=>?_)
 replace ad:=St.back [_,_] ad
 refine WL.r 1 ad [] rfl (WL.nil (WC.seq (fun ka fd=>WC.r1 ad [1] rfl (WC.block ?_))))
 refine WC.lO [1,2,3,4,19,25,26] rfl (ad.fr e9) (fun k_ f L_=>∃ (zs:List Int) (i:Nat) (c4:Option Addr) (c5:Nat),k_=t.P.Part.n-i∧(i≤t.P.Part.n)∧(zs=fm (t.P.Part.xs.take i))∧bS cf 3 (.slice c4 (zs.length) c5) (zs) L_∧cC [(5,.slice c4 (zs.length) c5),(27,.int .i64 i)] f) (t.P.Part.n) ?_ ?_
 ·refine ⟨[],0,_,_,rfl,?_,?_,fb,⟨rfl,rfl,trivial⟩⟩
  · exact Nat.zero_le _
  · rfl
 clear ad
 rintro _ f w d7 ⟨zs,i,c4,c5,rfl,p0,p1,c7,hG⟩ hF I
 refine WC.sub _ (hG.app hF) ?_
 clear hG hF
 replace I:=St.back [_,_] I
 have kc:zs.length≤1048576:=by rw [p1,cP,List.length_take];omega
 refine WC.r1 I [] rfl (WC.seq (fun kd fg=>?_))
 refine WC.cq rfl (fun fl fo=>?_) (fun fl fo=>?_)
 ·refine WC.skip (fg _ _ (WC.seq (fun kk f1=>WC.block (WC.sr ?_))))
  refine WL.ix aj ai rfl rfl rfl rfl rfl rfl (bN.st0 f_t.P.Part I) ?_
  refine WL.val rfl rfl rfl (bP.load az rfl rfl (bN.one1 (bN.st0 f_t.P.Part I) ?_ rfl)) ?_
  · omega
  refine WL.r 1 I [] rfl (WL.nil (WC.region (WL.r 3 I [] rfl (WL.buildSlice I ae aa an rfl rfl rfl rfl rfl rfl rfl rfl rfl rfl (fun ks kt d8=>?_)))))
  refine WL.appendG (d8.fr d7) c7 (kR ao (d8.own _ (cH (i:=0) rfl)).1) ao jF rfl rfl rfl rfl rfl rfl rfl rfl rfl rfl ?_ (fun kv k0 f2 k1 V f3=>?_)
  · first | omega | (simp only [List.length_append,List.length_nil,List.length_singleton,cP];omega)
  replace V:=St.back [_,_,_] V
  refine WL.r 1 V [] rfl (WL.nil (f1 _ _ (WC.region (WL.r 2 V [] rfl (WL.nil (cQ ?_))))))
  replace V:=V.d1
  refine ⟨cR rfl,_,(V.fr f2),_,?_,_,i+1,_,_,rfl,?_,?_,f3,⟨rfl,rfl,trivial⟩⟩
  · omega
  · omega
  · rw [p1,pp (by omega)]
 have f4:i=t.P.Part.n:=by omega
 have f5:zs=fm t.P.Part.xs:=by rw [p1,f4,List.take_of_length_le (by omega)]
 subst f5
 refine WC.exit (fd _ _ (WC.seq (fun k2 ga=>WC.rH I I (fun _ d9=>?_))))
 refine WH.rn [0,1,2,3,4,5,6,7,8,9,10,11,12,13,14,17,18,19,20,21,22,24,25,26,27,28,29,30,31,32,33,35,36,37,38,39] d9 [0,0,0,0,0,0,1,0,0,0,0,0,0,0,0,0,1] rfl rfl (WH.o1 15 rfl (WL.buildF (F:=mV) d9 ([t.S.OnAlt,t.S.Wrap,t.S.NoWrap,t.S.Hide,t.P.Mark]) bB ap bu rfl rfl rfl rfl rfl rfl rfl rfl rfl rfl rfl rfl (fun k3 k4 M k5 bg gb=>?_)))
 replace bg:=St.back [_,_] bg
 refine WL.nil ⟨(bg.rm M),WH.o1 16 rfl (WL.c0 bg Tryz.call152 rfl (Eo _ _ _ _ _ (bN.ofOwn gb (bg.ow M)) ?_) (fun _ ea=>?_))⟩
 · first | assumption | rfl | omega | exact Nat.le_refl 5
 refine WL.nil ⟨(ea.rm M),WH.o1 23 rfl (WL.c0 ea Tryz.call153 rfl (xq _ _ _ _ _ _) (fun _ ec=>?_))⟩
 refine WL.nil ⟨(ec.rm M),WH.o1 34 rfl (WL.c0 ec Tryz.call153 rfl (xq _ _ _ _ _ _) (fun _ el=>?_))⟩
 refine WL.nil ⟨(el.rm M),WH.o1 40 rfl (WL.buildF (F:=cf) el (([t.S.W,t.S.H,gz [t.S.OnAlt,t.S.Wrap,t.S.NoWrap,t.S.Hide,t.P.Mark],t.S.X,t.S.Y,cU ⟨t.S.A.Fg,t.S.A.Bg,t.S.A.Bold,t.S.A.Under,t.S.A.Turn⟩,t.S.Top,t.S.Bot,t.S.SaveX,t.S.SaveY,cU ⟨t.S.SaveA.Fg,t.S.SaveA.Bg,t.S.SaveA.Bold,t.S.SaveA.Under,t.S.SaveA.Turn⟩,t.S.Limit,t.P.State])) ae aa an rfl rfl rfl rfl rfl rfl rfl rfl rfl rfl rfl rfl (fun k6 la b9 lm bo gc=>?_))⟩
 replace bo:=St.back [_,_] bo
 refine WL.nil ⟨((bo.rm b9).rm M),WH.o1 41 rfl (WL.cl Tryz.call81 rfl (te _ _ _ _ _ _ _ _ (bS.nil _ _) (by simp) (bN.ofOwn gc (bo.ow b9)) od ?_ ?_) ?_)⟩
 · first | (exact fun x hx=>(by have:=hh x (b8 ▸ hx);omega)) | assumption | omega | exact Nat.le_refl 5
 · first | (simp only [List.length_cons,List.length_nil];omega) | assumption | omega | exact Nat.le_refl 5
 rintro _ lt ⟨lS,lV,b0,rfl,G,gm⟩
 replace G:=St.lend (A:=[]) bo G
 refine ⟨_,rfl,?_⟩
 replace G:=St.back [_,_] G
 refine WL.nil ⟨(((G.rm b0).rm b9).rm M),WH.rn [42] (((G.rm b0).rm b9).rm M) [] rfl rfl (WH.dn (ga _ _ (WC.sr (WL.r 4 G [1] rfl ?_))))⟩
 refine WL.l3 (G.fr b0) Tryz.call86 rfl (uq _ _ _ _ _ _ _ _ gm (G.ow b0) (bN.st0 f_t.P.Args G) (St.sep (G.fr b0) f_t.P.Args) ?_ ?_) (fun _ l0 l1 c8 gs N=>?_)
 · first | exact fun x hx=>(by have:=b5 x hx;omega) | exact fun x hx=>(by have:=iQ x hx;omega) | exact fun x hx=>(by have:=b6 x hx;omega) | assumption | omega | exact Nat.le_refl 5
 · first | omega | (simp only [List.length_append,List.length_nil,cP];omega) | assumption | exact Nat.le_refl 5
 replace N:=St.back [_,_] N
 refine WL.r 1 N [] rfl (WL.nil (WC.sr (WL.r 2 N [] rfl (WL.l3 (N.fr c8) Tryz.call86 rfl (uq _ _ _ _ _ _ _ _ gs (N.ow c8) (bN.ofOwn c7 (N.ow d7)) (bS.sep (N.fr c8) (fun p_ hp_=>(List.mem_append_right [_,_] (List.mem_append_right _ (List.mem_append_right _ (List.mem_append_left _ hp_))))) c7) ?_ ?_) (fun _ l2 m1 c9 gL O=>?_)))))
 · first | exact fun x hx=>(by have:=b5 x hx;omega) | exact fun x hx=>(by have:=iQ x hx;omega) | exact fun x hx=>(by have:=b6 x hx;omega) | assumption | omega | exact Nat.le_refl 5
 · first | omega | (simp only [List.length_append,List.length_nil,cP];omega) | assumption | exact Nat.le_refl 5
 replace O:=St.back [_,_] O
 refine WL.r 1 O [] rfl (WL.nil (WC.sr (WL.r 3 O [0] rfl (WL.l3 (O.fr c9) Tryz.call86 rfl (uq _ _ _ _ _ _ _ _ gL (O.ow c9) (bN.st0 f_t.S.Tabs O) (St.sep (O.fr c9) f_t.S.Tabs) ?_ ?_) (fun _ m2 m3 gO g0 ag=>?_)))))
 · first | exact fun x hx=>(by have:=b5 x hx;omega) | exact fun x hx=>(by have:=iQ x hx;omega) | exact fun x hx=>(by have:=b6 x hx;omega) | assumption | omega | exact Nat.le_refl 5
 · first | omega | (simp only [List.length_append,List.length_nil,cP];omega) | assumption | exact Nat.le_refl 5
 replace ag:=St.back [_,_] ag
 refine WL.r 1 ag [] rfl (WL.nil (WC.sr (WL.r 3 ag [0] rfl (WL.x3 ag Tryz.call154 rfl (ur _ _ _ _ _ (bN.st0 f_t.S.Main.Cells ag) ?_) (fun _ m4 m5 g1 g2 aB=>?_)))))
 · first | assumption | rfl | omega | exact Nat.le_refl 5
 replace aB:=St.back [_,_] aB
 refine WL.r 5 aB [] rfl (WL.nil (WC.sr (WL.r 3 aB [0] rfl (WL.x3 aB Tryz.call154 rfl (ur _ _ _ _ _ (bN.st0 f_t.S.Alt.Cells aB) ?_) (fun _ m6 m7 g3 g4 a1=>?_)))))
 · first | assumption | rfl | omega | exact Nat.le_refl 5
 replace a1:=St.back [_,_] a1
 refine WL.r 5 a1 [] rfl (WL.nil (WC.sr (WL.r 2 a1 [] rfl (WL.appendG (a1.fr gO) g0 (bN.src (bN.ofOwn g2 (a1.ow g1)) ah) ah iH rfl rfl rfl rfl rfl rfl rfl rfl rfl rfl ?_ (fun m8 n1 g5 n2 b1 g6=>?_)))))
 · first | omega | (simp only [List.length_append,List.length_nil,List.length_singleton,cP];omega)
 replace b1:=St.back [_,_] b1
 refine WL.r 1 b1 [] rfl (WL.appendG (b1.fr g5) g6 (bN.src (bN.ofOwn g4 (b1.ow g3)) ah) ah iH rfl rfl rfl rfl rfl rfl rfl rfl rfl rfl ?_ (fun n3 n4 g7 n5 a2 g8=>?_))
 · first | omega | (simp only [List.length_append,List.length_nil,List.length_singleton,cP];omega)
 replace a2:=St.back [_,_] a2
 refine WL.r 1 a2 [] rfl (WL.nil (WC.sr (WL.r 4 a2 [0] rfl (WL.x3 a2 Tryz.call83 rfl (kT _ _ _ _ _ _ (bN.ofOwn g8 (a2.ow g7)) ?_ ?_ ?_) (fun _ n6 oc g9 ha a6=>?_)))))
 iterate 2 first | omega | assumption | exact Nat.le_refl 5
 · first | omega | (simp only [List.length_append,List.length_nil,cP,List.length_take];omega) | assumption | exact Nat.le_refl 5
 replace a6:=St.back [_,_] a6
 refine WL.r 4 a6 [] rfl (WL.nil (WC.seq (fun oi hb=>WC.r1 a6 [0] rfl (WC.block ?_))))
 refine WC.lO [2,3,19,28,119,120] rfl (a6.fr g9) (fun k_ f L_=>∃ (zs:List UInt8) (i:Nat) (ck:Option Addr) (cD:Nat),k_=t.S.Back.n-i∧(i≤t.S.Back.n)∧(zs=[]++cm ([t.S.W,t.S.H,gz [t.S.OnAlt,t.S.Wrap,t.S.NoWrap,t.S.Hide,t.P.Mark],t.S.X,t.S.Y,cU ⟨t.S.A.Fg,t.S.A.Bg,t.S.A.Bold,t.S.A.Under,t.S.A.Turn⟩,t.S.Top,t.S.Bot,t.S.SaveX,t.S.SaveY,cU ⟨t.S.SaveA.Fg,t.S.SaveA.Bg,t.S.SaveA.Bold,t.S.SaveA.Under,t.S.SaveA.Turn⟩,t.S.Limit,t.P.State])++cg t.P.Args.xs.length++cm t.P.Args.xs++cg (fm t.P.Part.xs).length++cm (fm t.P.Part.xs)++cg t.S.Tabs.xs.length++cm t.S.Tabs.xs++eT t.S.Main.Cells.xs++eT t.S.Alt.Cells.xs++cg ((t.S.Back.n:Int)).toNat++fQ ((t.S.Back.xs.take i).map dq.dat))∧bS cj 5 (.slice ck (zs.length) cD) (zs) L_∧cC [(8,.slice ck (zs.length) cD),(121,.int .i64 i)] f) (t.S.Back.n) ?_ ?_
 ·refine ⟨[]++cm ([t.S.W,t.S.H,gz [t.S.OnAlt,t.S.Wrap,t.S.NoWrap,t.S.Hide,t.P.Mark],t.S.X,t.S.Y,cU ⟨t.S.A.Fg,t.S.A.Bg,t.S.A.Bold,t.S.A.Under,t.S.A.Turn⟩,t.S.Top,t.S.Bot,t.S.SaveX,t.S.SaveY,cU ⟨t.S.SaveA.Fg,t.S.SaveA.Bg,t.S.SaveA.Bold,t.S.SaveA.Under,t.S.SaveA.Turn⟩,t.S.Limit,t.P.State])++cg t.P.Args.xs.length++cm t.P.Args.xs++cg (fm t.P.Part.xs).length++cm (fm t.P.Part.xs)++cg t.S.Tabs.xs.length++cm t.S.Tabs.xs++eT t.S.Main.Cells.xs++eT t.S.Alt.Cells.xs++cg ((t.S.Back.n:Int)).toNat,0,_,_,rfl,?_,?_,ha,⟨rfl,rfl,trivial⟩⟩
  · exact Nat.zero_le _
  · simp [fQ]
 clear a6
 rintro _ f w cN ⟨zs,i,ck,cD,rfl,r0,r1,a7,hG⟩ hF E
 refine WC.sub _ (hG.app hF) ?_
 clear hG hF
 replace E:=St.back [_,_] E
 have op:zs.length≤20000000:=by rw [r1];have q8:=p7 (b:=(t.S.Back.xs.take i).map dq.dat) (fun r hr=>d6 r (by obtain ⟨y,hy,rfl⟩:=List.mem_map.1 hr;exact List.mem_map_of_mem (List.mem_of_mem_take hy)));rw [List.length_map,List.length_take] at q8;rw [b8];simp only [List.length_append,List.length_nil,cP];omega
 refine WC.r1 E [] rfl (WC.seq (fun oq hd=>?_))
 refine WC.cq rfl (fun he hg=>?_) (fun he hg=>?_)
 ·have em:=ky (d6 (dq.dat (bO cB t.S.Back.xs i)) (List.mem_map_of_mem (dg (by omega))))
  have oK:(bO cB t.S.Back.xs i).Cells.xs.length≤120:=em.1
  have hj:=(cT.nth f_t.S.Back (show i<t.S.Back.n by omega)).Cells.len
  have hk:eT (bO cB t.S.Back.xs i).Cells.xs=cY (bO cB t.S.Back.xs i).Cells.xs:=nP (by omega) em.2
  have w5:=cS (((bO cB t.S.Back.xs i).Cells.n:Int)).toNat (by omega)
  have z6:=ls (bO cB t.S.Back.xs i).Cells.xs
  refine WC.skip (hd _ _ (WC.seq (fun o3 hl=>WC.block (WC.sr ?_))))
  refine WL.ix aN aD rfl rfl rfl rfl rfl rfl (bN.st0 f_t.S.Back.sl E) ?_
  refine WL.val rfl rfl rfl (bP.loadA bh aD rfl rfl (bN.whole (bN.st0 f_t.S.Back.sl E) ?_)) ?_
  · omega
  refine WL.al E bv rfl rfl (fun o4 _ hm=>WL.st bX hm 0 rfl rfl (fun _ dj=>WL.nil (WC.sr (WL.r 2 dj [0] rfl ?_))))
  refine WL.x3 dj Tryz.call154 rfl (ur _ _ _ _ _ (bN.st0 (cT.nth f_t.S.Back (by omega)).Cells dj) ?_) (fun _ o5 o6 es hn a8=>?_)
  · first | assumption | rfl | omega | exact Nat.le_refl 5
  replace a8:=St.back [_,_,_] a8
  refine WL.r 5 a8 [] rfl (WL.nil (WC.sr (WL.r 4 a8 [0] rfl (WL.x3 a8 Tryz.call83 rfl (kT _ _ _ _ _ _ (bN.ofOwn a7 (a8.ow cN)) ?_ ?_ ?_) (fun _ ps pA ho hp ba=>?_)))))
  iterate 2 first | omega | assumption | exact Nat.le_refl 5
  · first | omega | (simp only [List.length_append,List.length_nil,cP,List.length_take];omega) | assumption | exact Nat.le_refl 5
  replace ba:=St.back [_,_,_] ba
  refine WL.r 4 ba [] rfl (WL.nil (WC.region (WL.r 2 ba [] rfl (WL.appendG (ba.fr ho) hp (bN.src (bN.ofOwn hn (ba.ow es)) ah) ah iH rfl rfl rfl rfl rfl rfl rfl rfl rfl rfl ?_ (fun pO p2 hq p3 Z hs=>?_)))))
  · first | omega | (simp only [List.length_append,List.length_nil,List.length_singleton,cP];omega)
  replace Z:=St.back [_,_,_] Z
  refine WL.r 1 Z [] rfl (WL.nil (hl _ _ (WC.region (WL.r 2 Z [] rfl (WL.nil (cQ ?_))))))
  replace Z:=((Z.d1.rm es).rm cN)
  refine ⟨cR rfl,_,(Z.fr hq),_,?_,_,i+1,_,_,rfl,?_,?_,hs,⟨rfl,rfl,trivial⟩⟩
  · omega
  · omega
  · rw [r1,pw (by omega),hk,hj];simp only [List.append_assoc,Int.toNat_natCast,List.nil_append];try rfl
 have ds:zs=ff t.dat:=by rw [r1,List.take_of_length_le (by omega),b8,e5,e6];unfold ff;simp only [Int.toNat_natCast,List.append_assoc,List.nil_append,cP];have e_:t.dat.S.Back.length=t.S.Back.n:=(List.length_map _).trans eA;rw [e_];rfl
 refine WC.exit (hb _ _ (WC.seq (fun p4 et=>WC.r1 E [] rfl ?_)))
 refine WC.cq rfl (fun hu d0=>?_) (fun hu d0=>?_)
 ·have J:dh t.dat=false:=by unfold dh;rw [b4,Bool.true_and,decide_eq_false_iff_not];rw [← ds];have U:=d0;omega
  refine WC.r1 E [] rfl (WC.ret (cd ?_))
  clear et
  refine di rfl (cb.tmp rfl) (cb.tmp rfl) ?_
  rw [J]
  have bc:=bS.eqOf (xs:=df t.dat) (bS.nil cj 5) (by simp [df,J])
  rw [← bc]
  exact ⟨_,_,_,rfl,E.nil,(bS.nil cj 5)⟩
 have J:dh t.dat=true:=by unfold dh;rw [b4,Bool.true_and,decide_eq_true_eq];rw [← ds];have U:=d0;omega
 refine WC.skip (et _ _ (WC.r1 E [] rfl (WC.ret (di rfl (cb.tmp rfl) (cb.tmp rfl) ?_))))
 rw [J]
 have bc:=bS.eqOf (xs:=df t.dat) a7 (by unfold df;rw [J,ds];rfl)
 rw [← bc]
 first | exact ⟨_,_,_,rfl,(St.keep1 (E.fr cN)),a7⟩ | exact ⟨ck,cD,_,by rw [bS.len_ a7],(St.keep1 (E.fr cN)),by rw [bS.len_ a7];exact a7⟩
theorem qv (x0:Option Addr) (x1:Nat) (x2:Nat) (x3:Bool):Tryz.prog.built 65 [(0,.slice x0 x1 x2),(2,.bool x3)]=some (List.toArray [.slice x0 x1 x2,.int .i64 0,.bool x3]):=by kernel_rfl
theorem iD (x0:Int) (x1:Int) (x2:Bool) (x3:Bool) (x4:Bool) (E:Bool) (G:Int) (I:Int) (J:Value) (M:Value) (N:Value) (O:Value) (U:Value) (V:Int) (Z:Int) (ad:Int) (ag:Int) (al:Value) (aB:Value) (a1:Value) (a2:Value) (a6:Value) (a7:Int) (a8:Option Addr) (ba:Nat) (bb:Nat):Tryz.prog.built 51 [(0,.int .i64 x0),(1,.int .i64 x1),(4,.bool x2),(7,.bool x3),(11,.bool x4),(12,.bool E),(5,.int .i64 G),(6,.int .i64 I),(8,.agg [J,M,N,O,U].toArray),(9,.int .i64 V),(10,.int .i64 Z),(13,.int .i64 ad),(14,.int .i64 ag),(15,.agg [al,aB,a1,a2,a6].toArray),(17,.int .i64 a7),(16,.slice a8 ba bb)]=some (List.toArray [.int .i64 x0,.int .i64 x1,.int .i64 0,.int .i64 0,.slice none 0 0,.int .i64 0,.int .i64 0,.slice none 0 0,.bool x2,.int .i64 G,.int .i64 I,.bool x3,J,M,N,O,U,.int .i64 V,.int .i64 Z,.bool x4,.bool E,.int .i64 ad,.int .i64 ag,al,aB,a1,a2,a6,.slice a8 ba bb,.int .i64 a7,.slice none 0 0]):=by kernel_rfl
theorem sX (x0:Int) (x1:Bool) (x2:Option Addr) (x3:Nat) (x4:Nat):Tryz.prog.built 43 [(0,.int .i64 x0),(1,.bool x1),(2,.slice x2 x3 x4)]=some (List.toArray [.int .i64 x0,.bool x1,.slice x2 x3 x4,.slice none 0 0]):=by kernel_rfl
set_option maxHeartbeats 8000000 in
theorem BR (A_s:Option Addr) (n_s c_s:Nat) (s:List UInt8) (w:World) (f_s:bN cj w A_s n_s s) (hc:n_s≤c_s) (hn:n_s≤1048576) :
    Calls Tryz.prog 78 #[.slice A_s n_s c_s] w fun e w'=>∃ r L1,e = .returned (.tuple #[.agg (kX r).toArray,.bool (dB s)])∧St w [] L1 w'∧dH r L1∧r.dat=fw s:=by
 have hl:=f_s.len
 have m1:=hl.symm
 refine enter 222 Tryz.func78 rfl Tryz.ntmps78 rfl rfl ?_
 have m2:=St.init w
 refine WC.sr (WL.al m2 aZ rfl rfl (fun Z _ gs=>WL.r 1 gs [] rfl (WL.nil (WC.sr (WL.r 4 gs [] rfl ?_)))))
 refine WL.val rfl rfl rfl (bP.build rfl rfl rfl rfl (qv _ _ _ _)) (WL.bx gs rfl (fun M _ d9=>?_))
 have m3:bV 0 (decide ((40000:Int)<(n_s:Int)))=wj s:=by
   unfold wj bV
   rw [← m1]
   by_cases G:n_s>40000
   · rw [if_pos (decide_eq_true (by omega)),if_pos G]
   · rw [if_neg (by rw [decide_eq_true_eq];omega),if_neg G]
 refine WL.r 1 d9 [] rfl (WL.nil (WC.sr (WL.r 1 d9 [] rfl ?_)))
 have g0:St _ _ ([(M,_)]++_) _:=d9
 refine WL.call rfl rfl rfl (bP.call Tryz.call25 rfl rfl rfl) (rL _ _ _ _ _ _ _ _ _ (g0.own _ List.mem_cons_self).1 (bN.st0 f_s d9) (St.sep g0 f_s) ?_ ?_ ?_ ?_) ?_
 · omega
 · first | assumption | exact bS.cap (by assumption) | omega
 · omega
 · first | omega | decide
 rintro _ GD ⟨q7,bad8,GE,GF,O,rfl,c4,U,hst9,GG⟩
 replace c4:=St.lend g0 c4
 refine ⟨_,rfl,?_⟩
 replace c4:=St.assoc (L1:=[_]) c4
 have ea:=((c4.fb Z).fb M)
 have a2:vS s=(co s (13:Int).toNat (bV 0 (decide ((40000:Int)<(n_s:Int))))):=by unfold vS;rw [← m3];rfl
 have m4:(bV q7 bad8)=(vS s).2:=by rw [a2];exact hst9
 refine WL.r 1 ea [] rfl (WL.nil (WC.sr (WL.r 2 ea [] rfl ?_)))
 have g1:St _ _ ([(M,_)]++_) _:=ea
 refine WL.call rfl rfl rfl (bP.call Tryz.call26 rfl rfl rfl) (jr _ _ _ _ _ _ _ _ (g1.own _ List.mem_cons_self).1 (bN.st0 f_s ea) (St.sep g1 f_s) ?_ ?_ ?_) ?_
 · omega
 · first | assumption | exact bS.cap (by assumption) | omega
 · omega
 rintro _ GH ⟨ec,bad19,rfl,el,hst20,GI⟩
 replace el:=St.lend g1 el
 refine ⟨_,rfl,?_⟩
 have GJ:=fW s (bV q7 bad8)
 have g2:St _ _ ([(M,_)]++_) _:=el
 refine WL.call rfl rfl rfl (bP.call Tryz.call25 rfl rfl rfl) (rL _ _ _ _ _ _ _ _ _ (g2.own _ List.mem_cons_self).1 (bN.st0 f_s el) (St.sep g2 f_s) ?_ ?_ ?_ ?_) ?_
 · omega
 · first | assumption | exact bS.cap (by assumption) | omega
 · omega
 · first | omega | decide
 rintro _ GK ⟨a6,bad25,GL,GM,GN,rfl,c5,hP,hst26,GO⟩
 replace c5:=St.lend g2 c5
 refine ⟨_,rfl,?_⟩
 replace c5:=St.assoc (L1:=[_]) c5
 have em:=((c5.fb Z).fb M)
 have hQ:aS s=(co s (rdN s (bV q7 bad8)).toNat (bV ec bad19)):=by unfold aS;rw [← m4,← hst20]
 have m5:(bV a6 bad25)=(aS s).2:=by rw [hQ];exact hst26
 have GP:(co s (rdN s (bV q7 bad8)).toNat (bV ec bad19)).1.length≤n_s+1:=by rw [hst20];have G:=iV (s:=s) (m:=(rdN s (bV q7 bad8)).toNat) (o:=(bV q7 bad8));omega
 refine WL.r 1 em [] rfl (WL.nil (WC.sr (WL.r 2 em [] rfl ?_)))
 have g3:St _ _ ([(M,_)]++_) _:=em
 refine WL.call rfl rfl rfl (bP.call Tryz.call26 rfl rfl rfl) (jr _ _ _ _ _ _ _ _ (g3.own _ List.mem_cons_self).1 (bN.st0 f_s em) (St.sep g3 f_s) ?_ ?_ ?_) ?_
 · omega
 · first | assumption | exact bS.cap (by assumption) | omega
 · omega
 rintro _ GQ ⟨bb,bad36,rfl,es,hst37,GR⟩
 replace es:=St.lend g3 es
 refine ⟨_,rfl,?_⟩
 have GS:=fW s (bV a6 bad25)
 have g4:St _ _ ([(M,_)]++_) _:=es
 refine WL.call rfl rfl rfl (bP.call Tryz.call25 rfl rfl rfl) (rL _ _ _ _ _ _ _ _ _ (g4.own _ List.mem_cons_self).1 (bN.st0 f_s es) (St.sep g4 f_s) ?_ ?_ ?_ ?_) ?_
 · omega
 · first | assumption | exact bS.cap (by assumption) | omega
 · omega
 · first | omega | decide
 rintro _ GT ⟨ck,bad42,GU,GV,cD,rfl,c6,hR,hst43,GW⟩
 replace c6:=St.lend g4 c6
 refine ⟨_,rfl,?_⟩
 replace c6:=St.assoc (L1:=[_]) c6
 have et:=((c6.fb Z).fb M)
 have hS:pS s=(co s (rdN s (bV a6 bad25)).toNat (bV bb bad36)):=by unfold pS;rw [← m5,← hst37]
 have m6:(bV ck bad42)=(pS s).2:=by rw [hS];exact hst43
 have GX:(co s (rdN s (bV a6 bad25)).toNat (bV bb bad36)).1.length≤n_s+1:=by rw [hst37];have G:=iV (s:=s) (m:=(rdN s (bV a6 bad25)).toNat) (o:=(bV a6 bad25));omega
 refine WL.r 1 et [] rfl (WL.nil (WC.sr (WL.r 2 et [] rfl ?_)))
 have g5:St _ _ ([(M,_)]++_) _:=et
 refine WL.call rfl rfl rfl (bP.call Tryz.call26 rfl rfl rfl) (jr _ _ _ _ _ _ _ _ (g5.own _ List.mem_cons_self).1 (bN.st0 f_s et) (St.sep g5 f_s) ?_ ?_ ?_) ?_
 · omega
 · first | assumption | exact bS.cap (by assumption) | omega
 · omega
 rintro _ GY ⟨hT,bad53,rfl,eA,hst54,GZ⟩
 replace eA:=St.lend g5 eA
 refine ⟨_,rfl,?_⟩
 have G0:=fW s (bV ck bad42)
 have g6:St _ _ ([(M,_)]++_) _:=eA
 refine WL.call rfl rfl rfl (bP.call Tryz.call25 rfl rfl rfl) (rL _ _ _ _ _ _ _ _ _ (g6.own _ List.mem_cons_self).1 (bN.st0 f_s eA) (St.sep g6 f_s) ?_ ?_ ?_ ?_) ?_
 · omega
 · first | assumption | exact bS.cap (by assumption) | omega
 · omega
 · first | omega | decide
 rintro _ G1 ⟨m7,bad59,G2,G3,hV,rfl,c7,hW,hst60,G4⟩
 replace c7:=St.lend g6 c7
 refine ⟨_,rfl,?_⟩
 replace c7:=St.assoc (L1:=[_]) c7
 have bo:=((c7.fb Z).fb M)
 have h0:tS s=(co s (rdN s (bV ck bad42)).toNat (bV hT bad53)):=by unfold tS;rw [← m6,← hst54]
 have e0:(bV m7 bad59)=(tS s).2:=by rw [h0];exact hst60
 have G5:(co s (rdN s (bV ck bad42)).toNat (bV hT bad53)).1.length≤n_s+1:=by rw [hst54];have G:=iV (s:=s) (m:=(rdN s (bV ck bad42)).toNat) (o:=(bV ck bad42));omega
 have h2:bad59=false→(tS s).2.isSome=true:=fun h=>by rw [← e0,h];rfl
 have I:bad59=false→(co s (13:Int).toNat (bV 0 (decide ((40000:Int)<(n_s:Int))))).1.length=13:=fun h=>by rw [← a2];exact (tG (h2 h)).2
 have J:∀ x,(bad59||x)=false→(co s (13:Int).toNat (bV 0 (decide ((40000:Int)<(n_s:Int))))).1.length=13:=fun x h=>I (by rw [Bool.or_eq_false_iff] at h;exact h.1)
 refine WL.r 1 bo [] rfl (WL.nil (WC.seq (fun G6 h3=>WC.sr (WL.r 5 bo [0] rfl ?_))))
 apply WL.gO 4 bU.nil bo rfl
 ·intro cN m8
  have n1:=cN
  try simp only [bf,bZ,ca] at n1
  refine WL.runA bX 1 (bU.nil.cons (j:=4) rfl cN) bo [] rfl trivial (WL.val (cX rfl cN) rfl rfl (bP.idxK (0) ae aa rfl rfl rfl ?_ ?_ ?_) ?_)
  · exact bN.some_ (bN.ofOwn U (bo.ow O))
  · first | (have E:=I (by assumption);omega) | (have E:=J _ (by assumption);omega) | omega
  · first | (have E:=I (by assumption);omega) | (have E:=J _ (by assumption);omega) | omega
  refine WL.val (cX rfl cN) rfl rfl (bP.load ac rfl rfl (bN.one1 (bN.ofOwn U (bo.ow O)) ?_ rfl)) ?_
  · first | (have E:=I (by assumption);omega) | (have E:=J _ (by assumption);omega) | omega
  refine WL.runA bX 1 (bU.nil.cons (j:=4) rfl cN) bo [] rfl trivial (WL.eO 4 bU.nil m8 bo cN rfl rfl)
 intro _ b3
 refine WL.r 1 b3 [] rfl ?_
 apply WL.gO 4 bU.nil b3 rfl
 ·intro c1 n2
  have n3:=c1
  try simp only [bf,bZ,ca] at n3
  refine WL.runA bX 1 (bU.nil.cons (j:=10) rfl c1) b3 [] rfl trivial (WL.val (cX rfl c1) rfl rfl (bP.idxK (1) ae aa rfl rfl rfl ?_ ?_ ?_) ?_)
  · exact bN.some_ (bN.ofOwn U (b3.ow O))
  · first | (have E:=I (by assumption);omega) | (have E:=J _ (by assumption);omega) | omega
  · first | (have E:=I (by assumption);omega) | (have E:=J _ (by assumption);omega) | omega
  refine WL.val (cX rfl c1) rfl rfl (bP.load ac rfl rfl (bN.one1 (bN.ofOwn U (b3.ow O)) ?_ rfl)) ?_
  · first | (have E:=I (by assumption);omega) | (have E:=J _ (by assumption);omega) | omega
  refine WL.runA bX 1 (bU.nil.cons (j:=10) rfl c1) b3 [] rfl trivial (WL.eO 4 bU.nil n2 b3 c1 rfl rfl)
 intro _ c8
 refine WL.nil (WC.cq rfl (fun g7 n4=>?_) (fun g7 n4=>?_))
 ·have e1:pC s=false:=by
    cases hq:pC s with
    | false=>rfl
    | true=>
      exfalso;have h8:=g7;unfold pC at hq;simp only [Bool.and_eq_true,decide_eq_true_eq] at hq
      have e2:bad59=false:=by rw [← e0] at hq;cases hb:bad59 with
        | false=>rfl
        | true=>rw [hb] at hq;exact absurd hq.1 (by simp [bV])
      unfold dY at hq;rw [a2] at hq;unfold dx at hq
      rw [e2,Bool.false_or,Bool.or_eq_true,decide_eq_true_eq,decide_eq_true_eq] at h8
      omega
  have hg:dB s=false:=xn e1
  refine WC.sr ?_
  refine WL.val rfl rfl rfl (bP.build rfl rfl rfl rfl (pa)) (WL.st bX c8 1 rfl rfl (fun _ g8=>WL.r 1 g8 [] rfl (WL.nil (WC.ret (cd ?_)))))
  clear h3
  refine di rfl (cb.cellA bX g8 1 rfl rfl rfl rfl) (cb.tmp rfl) ?_
  rw [hg]
  obtain ⟨n6,oc,oi⟩:=dH.fl g8 (bS.nil _ _) (bS.nil _ _) (bS.nil _ _) (bS.nil _ _) (bS.nil _ _) (cv.nil _ _ _)
  have oj:=((oc.fb Z).fb M)
  refine ⟨⟨⟨0,false,⟨none,0,0,[]⟩,⟨none,0,0,[]⟩⟩,⟨0,0,⟨0,0,⟨none,0,0,[]⟩⟩,⟨0,0,⟨none,0,0,[]⟩⟩,false,0,0,false,⟨0,0,false,false,false⟩,0,0,false,false,0,0,⟨0,0,false,false,false⟩,⟨none,0,0,[]⟩,0,⟨none,0,0,[]⟩⟩⟩,_,rfl,(St.keep1 (oj.fr n6)),?_,?_⟩
  · exact (by exact oi)
  · unfold fw;rw [hg];rfl
 have G:=g7
 simp only [Bool.or_eq_false_iff,decide_eq_false_iff_not] at G
 obtain ⟨⟨e2,hW9⟩,hH9⟩:=G
 have c9:=I e2
 have oq:=gg s 13 (bV 0 (decide ((40000:Int)<(n_s:Int)))) (bO cf (co s (13:Int).toNat (bV 0 (decide ((40000:Int)<(n_s:Int))))).1 0) (dg (F:=cf) (by rw [show (co s 13 (bV 0 (decide ((40000:Int)<(n_s:Int))))).1.length=13 from c9];decide))
 have h4:=gg s 13 (bV 0 (decide ((40000:Int)<(n_s:Int)))) (bO cf (co s (13:Int).toNat (bV 0 (decide ((40000:Int)<(n_s:Int))))).1 1) (dg (F:=cf) (by rw [show (co s 13 (bV 0 (decide ((40000:Int)<(n_s:Int))))).1.length=13 from c9];decide))
 have G7:=gg s 13 (bV 0 (decide ((40000:Int)<(n_s:Int)))) (bO cf (co s (13:Int).toNat (bV 0 (decide ((40000:Int)<(n_s:Int))))).1 2) (dg (F:=cf) (by rw [show (co s 13 (bV 0 (decide ((40000:Int)<(n_s:Int))))).1.length=13 from c9];decide))
 have G8:=gg s 13 (bV 0 (decide ((40000:Int)<(n_s:Int)))) (bO cf (co s (13:Int).toNat (bV 0 (decide ((40000:Int)<(n_s:Int))))).1 5) (dg (F:=cf) (by rw [show (co s 13 (bV 0 (decide ((40000:Int)<(n_s:Int))))).1.length=13 from c9];decide))
 have G9:=gg s 13 (bV 0 (decide ((40000:Int)<(n_s:Int)))) (bO cf (co s (13:Int).toNat (bV 0 (decide ((40000:Int)<(n_s:Int))))).1 10) (dg (F:=cf) (by rw [show (co s 13 (bV 0 (decide ((40000:Int)<(n_s:Int))))).1.length=13 from c9];decide))
 have e3:dY s 0=(bO cf (co s (13:Int).toNat (bV 0 (decide ((40000:Int)<(n_s:Int))))).1 0):=by unfold dY;rw [a2];try rfl
 have e4:dY s 1=(bO cf (co s (13:Int).toNat (bV 0 (decide ((40000:Int)<(n_s:Int))))).1 1):=by unfold dY;rw [a2];try rfl
 have h5:dY s 2=(bO cf (co s (13:Int).toNat (bV 0 (decide ((40000:Int)<(n_s:Int))))).1 2):=by unfold dY;rw [a2];try rfl
 have o0:dY s 3=(bO cf (co s (13:Int).toNat (bV 0 (decide ((40000:Int)<(n_s:Int))))).1 3):=by unfold dY;rw [a2];try rfl
 have o2:dY s 4=(bO cf (co s (13:Int).toNat (bV 0 (decide ((40000:Int)<(n_s:Int))))).1 4):=by unfold dY;rw [a2];try rfl
 have o3:dY s 5=(bO cf (co s (13:Int).toNat (bV 0 (decide ((40000:Int)<(n_s:Int))))).1 5):=by unfold dY;rw [a2];try rfl
 have o4:dY s 6=(bO cf (co s (13:Int).toNat (bV 0 (decide ((40000:Int)<(n_s:Int))))).1 6):=by unfold dY;rw [a2];try rfl
 have o5:dY s 7=(bO cf (co s (13:Int).toNat (bV 0 (decide ((40000:Int)<(n_s:Int))))).1 7):=by unfold dY;rw [a2];try rfl
 have o6:dY s 8=(bO cf (co s (13:Int).toNat (bV 0 (decide ((40000:Int)<(n_s:Int))))).1 8):=by unfold dY;rw [a2];try rfl
 have ps:dY s 9=(bO cf (co s (13:Int).toNat (bV 0 (decide ((40000:Int)<(n_s:Int))))).1 9):=by unfold dY;rw [a2];try rfl
 have qb:dY s 10=(bO cf (co s (13:Int).toNat (bV 0 (decide ((40000:Int)<(n_s:Int))))).1 10):=by unfold dY;rw [a2];try rfl
 have qc:dY s 11=(bO cf (co s (13:Int).toNat (bV 0 (decide ((40000:Int)<(n_s:Int))))).1 11):=by unfold dY;rw [a2];try rfl
 have qs:dY s 12=(bO cf (co s (13:Int).toNat (bV 0 (decide ((40000:Int)<(n_s:Int))))).1 12):=by unfold dY;rw [a2];try rfl
 have e1:pC s=true:=by unfold pC;rw [h2 e2,e3,e4,decide_eq_true (by omega),decide_eq_true (by omega)];rfl
 have Ha:0≤(bO cf (co s (13:Int).toNat (bV 0 (decide ((40000:Int)<(n_s:Int))))).1 0)*(bO cf (co s (13:Int).toNat (bV 0 (decide ((40000:Int)<(n_s:Int))))).1 1):=Int.mul_nonneg oq.1 h4.1
 have Hb:(bO cf (co s (13:Int).toNat (bV 0 (decide ((40000:Int)<(n_s:Int))))).1 0)*(bO cf (co s (13:Int).toNat (bV 0 (decide ((40000:Int)<(n_s:Int))))).1 1)≤120*120:=Int.mul_le_mul (by omega) (by omega) h4.1 (by omega)
 refine WC.skip (h3 _ _ (WC.sr (WL.r 1 c8 [] rfl ?_)))
 refine WL.val rfl rfl rfl (bP.idxK (5) ae aa rfl rfl rfl ?_ ?_ ?_) ?_
 · exact bN.some_ (bN.ofOwn U (c8.ow O))
 · first | (have E:=I (by assumption);omega) | (have E:=J _ (by assumption);omega) | omega
 · first | (have E:=I (by assumption);omega) | (have E:=J _ (by assumption);omega) | omega
 refine WL.val rfl rfl rfl (bP.load ac rfl rfl (bN.one1 (bN.ofOwn U (c8.ow O)) ?_ rfl)) ?_
 · first | (have E:=I (by assumption);omega) | (have E:=J _ (by assumption);omega) | omega
 refine WL.c0 c8 Tryz.call145 rfl (zu _ _) (fun _ h6=>?_)
 refine WL.r 3 h6 [] rfl (WL.al h6 aY rfl rfl (fun ag _ q0=>WL.st bX q0 0 rfl rfl (fun _ dj=>WL.r 1 dj [] rfl (WL.nil (WC.sr (WL.r 1 dj [] rfl ?_))))))
 refine WL.val rfl rfl rfl (bP.idxK (10) ae aa rfl rfl rfl ?_ ?_ ?_) ?_
 · exact bN.some_ (bN.ofOwn U (dj.ow O))
 · first | (have E:=I (by assumption);omega) | (have E:=J _ (by assumption);omega) | omega
 · first | (have E:=I (by assumption);omega) | (have E:=J _ (by assumption);omega) | omega
 refine WL.val rfl rfl rfl (bP.load ac rfl rfl (bN.one1 (bN.ofOwn U (dj.ow O)) ?_ rfl)) ?_
 · first | (have E:=I (by assumption);omega) | (have E:=J _ (by assumption);omega) | omega
 refine WL.c0 dj Tryz.call145 rfl (zu _ _) (fun _ h7=>?_)
 refine WL.r 3 h7 [] rfl (WL.al h7 aY rfl rfl (fun aB _ q2=>WL.st bX q2 0 rfl rfl (fun _ b1=>WL.r 1 b1 [] rfl (WL.nil (WC.sr (WL.r 1 b1 [] rfl ?_))))))
 refine WL.val rfl rfl rfl (bP.idxK (2) ae aa rfl rfl rfl ?_ ?_ ?_) ?_
 · exact bN.some_ (bN.ofOwn U (b1.ow O))
 · first | (have E:=I (by assumption);omega) | (have E:=J _ (by assumption);omega) | omega
 · first | (have E:=I (by assumption);omega) | (have E:=J _ (by assumption);omega) | omega
 refine WL.val rfl rfl rfl (bP.load ac rfl rfl (bN.one1 (bN.ofOwn U (b1.ow O)) ?_ rfl)) ?_
 · first | (have E:=I (by assumption);omega) | (have E:=J _ (by assumption);omega) | omega
 refine WL.r 1 b1 [] rfl (WL.nil (WC.seq (fun Hc q3=>WC.rG 47 b1 b1 b1 (fun _ N=>?_))))
 refine WG.rn [0] N [] rfl rfl ?_
 refine WG.tk 1 rfl (by kernel_rfl) rfl rfl rfl N (fun w_ hs_=>(bP.idxK (0) ae aa rfl rfl rfl ?_ ?_ ?_)) ?_
 · exact bN.some_ (bN.ofOwn U ((hs_:St _ _ _ _).ow O))
 · first | (have E:=I (by assumption);omega) | (have E:=J _ (by assumption);omega) | omega
 · first | (have E:=I (by assumption);omega) | (have E:=J _ (by assumption);omega) | omega
 refine WG.tk 2 rfl (by kernel_rfl) rfl rfl rfl N (fun w_ hs_=>(bP.load ac rfl rfl (bN.one1 (bN.ofOwn U ((hs_:St _ _ _ _).ow O)) ?_ rfl))) ?_
 · first | (have E:=I (by assumption);omega) | (have E:=J _ (by assumption);omega) | omega
 refine WG.rn [3] N [] rfl rfl ?_
 refine WG.tk 4 rfl (by kernel_rfl) rfl rfl rfl N (fun w_ hs_=>(bP.idxK (1) ae aa rfl rfl rfl ?_ ?_ ?_)) ?_
 · exact bN.some_ (bN.ofOwn U ((hs_:St _ _ _ _).ow O))
 · first | (have E:=I (by assumption);omega) | (have E:=J _ (by assumption);omega) | omega
 · first | (have E:=I (by assumption);omega) | (have E:=J _ (by assumption);omega) | omega
 refine WG.tk 5 rfl (by kernel_rfl) rfl rfl rfl N (fun w_ hs_=>(bP.load ac rfl rfl (bN.one1 (bN.ofOwn U ((hs_:St _ _ _ _).ow O)) ?_ rfl))) ?_
 · first | (have E:=I (by assumption);omega) | (have E:=J _ (by assumption);omega) | omega
 refine WG.rn [6] N [] rfl rfl ?_
 refine WG.tk 7 rfl (by kernel_rfl) rfl rfl rfl N (fun w_ hs_=>(bP.rem rfl rfl rfl ?_ ?_)) ?_
 · omega
 · omega
 refine WG.rn [8,9] N [] rfl rfl ?_
 refine WG.tk 10 rfl (by kernel_rfl) rfl rfl rfl N (fun w_ hs_=>(bP.quo rfl rfl rfl ?_ ?_ ?_)) ?_
 · omega
 · omega
 · omega
 refine WG.tk 11 rfl (by kernel_rfl) rfl rfl rfl N (fun w_ hs_=>(bP.rem rfl rfl rfl ?_ ?_)) ?_
 · omega
 · omega
 refine WG.rn [12,13] N [] rfl rfl ?_
 refine WG.tk 14 rfl (by kernel_rfl) rfl rfl rfl N (fun w_ hs_=>(bP.quo rfl rfl rfl ?_ ?_ ?_)) ?_
 · omega
 · omega
 · omega
 refine WG.tk 15 rfl (by kernel_rfl) rfl rfl rfl N (fun w_ hs_=>(bP.rem rfl rfl rfl ?_ ?_)) ?_
 · omega
 · omega
 refine WG.rn [16,17] N [] rfl rfl ?_
 refine WG.tk 18 rfl (by kernel_rfl) rfl rfl rfl N (fun w_ hs_=>(bP.quo rfl rfl rfl ?_ ?_ ?_)) ?_
 · omega
 · omega
 · omega
 refine WG.tk 19 rfl (by kernel_rfl) rfl rfl rfl N (fun w_ hs_=>(bP.rem rfl rfl rfl ?_ ?_)) ?_
 · omega
 · omega
 refine WG.rn [20,21] N [] rfl rfl ?_
 refine WG.tk 22 rfl (by kernel_rfl) rfl rfl rfl N (fun w_ hs_=>(bP.idxK (3) ae aa rfl rfl rfl ?_ ?_ ?_)) ?_
 · exact bN.some_ (bN.ofOwn U ((hs_:St _ _ _ _).ow O))
 · first | (have E:=I (by assumption);omega) | (have E:=J _ (by assumption);omega) | omega
 · first | (have E:=I (by assumption);omega) | (have E:=J _ (by assumption);omega) | omega
 refine WG.tk 23 rfl (by kernel_rfl) rfl rfl rfl N (fun w_ hs_=>(bP.load ac rfl rfl (bN.one1 (bN.ofOwn U ((hs_:St _ _ _ _).ow O)) ?_ rfl))) ?_
 · first | (have E:=I (by assumption);omega) | (have E:=J _ (by assumption);omega) | omega
 refine WG.rn [24] N [] rfl rfl ?_
 refine WG.tk 25 rfl (by kernel_rfl) rfl rfl rfl N (fun w_ hs_=>(bP.idxK (4) ae aa rfl rfl rfl ?_ ?_ ?_)) ?_
 · exact bN.some_ (bN.ofOwn U ((hs_:St _ _ _ _).ow O))
 · first | (have E:=I (by assumption);omega) | (have E:=J _ (by assumption);omega) | omega
 · first | (have E:=I (by assumption);omega) | (have E:=J _ (by assumption);omega) | omega
 refine WG.tk 26 rfl (by kernel_rfl) rfl rfl rfl N (fun w_ hs_=>(bP.load ac rfl rfl (bN.one1 (bN.ofOwn U ((hs_:St _ _ _ _).ow O)) ?_ rfl))) ?_
 · first | (have E:=I (by assumption);omega) | (have E:=J _ (by assumption);omega) | omega
 refine WG.rn [27,28] N [1] rfl rfl ?_
 refine WG.tk 29 rfl (by kernel_rfl) rfl rfl rfl N (fun w_ hs_=>(bP.idxK (6) ae aa rfl rfl rfl ?_ ?_ ?_)) ?_
 · exact bN.some_ (bN.ofOwn U ((hs_:St _ _ _ _).ow O))
 · first | (have E:=I (by assumption);omega) | (have E:=J _ (by assumption);omega) | omega
 · first | (have E:=I (by assumption);omega) | (have E:=J _ (by assumption);omega) | omega
 refine WG.tk 30 rfl (by kernel_rfl) rfl rfl rfl N (fun w_ hs_=>(bP.load ac rfl rfl (bN.one1 (bN.ofOwn U ((hs_:St _ _ _ _).ow O)) ?_ rfl))) ?_
 · first | (have E:=I (by assumption);omega) | (have E:=J _ (by assumption);omega) | omega
 refine WG.rn [31] N [] rfl rfl ?_
 refine WG.tk 32 rfl (by kernel_rfl) rfl rfl rfl N (fun w_ hs_=>(bP.idxK (7) ae aa rfl rfl rfl ?_ ?_ ?_)) ?_
 · exact bN.some_ (bN.ofOwn U ((hs_:St _ _ _ _).ow O))
 · first | (have E:=I (by assumption);omega) | (have E:=J _ (by assumption);omega) | omega
 · first | (have E:=I (by assumption);omega) | (have E:=J _ (by assumption);omega) | omega
 refine WG.tk 33 rfl (by kernel_rfl) rfl rfl rfl N (fun w_ hs_=>(bP.load ac rfl rfl (bN.one1 (bN.ofOwn U ((hs_:St _ _ _ _).ow O)) ?_ rfl))) ?_
 · first | (have E:=I (by assumption);omega) | (have E:=J _ (by assumption);omega) | omega
 refine WG.rn [34] N [] rfl rfl ?_
 refine WG.tk 35 rfl (by kernel_rfl) rfl rfl rfl N (fun w_ hs_=>(bP.idxK (8) ae aa rfl rfl rfl ?_ ?_ ?_)) ?_
 · exact bN.some_ (bN.ofOwn U ((hs_:St _ _ _ _).ow O))
 · first | (have E:=I (by assumption);omega) | (have E:=J _ (by assumption);omega) | omega
 · first | (have E:=I (by assumption);omega) | (have E:=J _ (by assumption);omega) | omega
 refine WG.tk 36 rfl (by kernel_rfl) rfl rfl rfl N (fun w_ hs_=>(bP.load ac rfl rfl (bN.one1 (bN.ofOwn U ((hs_:St _ _ _ _).ow O)) ?_ rfl))) ?_
 · first | (have E:=I (by assumption);omega) | (have E:=J _ (by assumption);omega) | omega
 refine WG.rn [37] N [] rfl rfl ?_
 refine WG.tk 38 rfl (by kernel_rfl) rfl rfl rfl N (fun w_ hs_=>(bP.idxK (9) ae aa rfl rfl rfl ?_ ?_ ?_)) ?_
 · exact bN.some_ (bN.ofOwn U ((hs_:St _ _ _ _).ow O))
 · first | (have E:=I (by assumption);omega) | (have E:=J _ (by assumption);omega) | omega
 · first | (have E:=I (by assumption);omega) | (have E:=J _ (by assumption);omega) | omega
 refine WG.tk 39 rfl (by kernel_rfl) rfl rfl rfl N (fun w_ hs_=>(bP.load ac rfl rfl (bN.one1 (bN.ofOwn U ((hs_:St _ _ _ _).ow O)) ?_ rfl))) ?_
 · first | (have E:=I (by assumption);omega) | (have E:=J _ (by assumption);omega) | omega
 refine WG.rn [40,41] N [0] rfl rfl ?_
 refine WG.tk 42 rfl (by kernel_rfl) rfl rfl rfl N (fun w_ hs_=>(bP.idxK (11) ae aa rfl rfl rfl ?_ ?_ ?_)) ?_
 · exact bN.some_ (bN.ofOwn U ((hs_:St _ _ _ _).ow O))
 · first | (have E:=I (by assumption);omega) | (have E:=J _ (by assumption);omega) | omega
 · first | (have E:=I (by assumption);omega) | (have E:=J _ (by assumption);omega) | omega
 refine WG.tk 43 rfl (by kernel_rfl) rfl rfl rfl N (fun w_ hs_=>(bP.load ac rfl rfl (bN.one1 (bN.ofOwn U ((hs_:St _ _ _ _).ow O)) ?_ rfl))) ?_
 · first | (have E:=I (by assumption);omega) | (have E:=J _ (by assumption);omega) | omega
 refine WG.rn [44] N [] rfl rfl ?_
 refine WG.tk 45 rfl (by kernel_rfl) rfl rfl rfl N (fun w_ hs_=>(bP.build rfl rfl rfl rfl (iD _ _ _ _ _ _ _ _ _ _ _ _ _ _ _ _ _ _ _ _ _ _ _ _ _ _))) ?_
 refine WG.o1 46 rfl rfl (WL.al N bE rfl rfl (fun V _ ia=>WL.nil ⟨ia.d1,WG.oK rfl (WL.st bX ia 0 rfl rfl (fun _ b5=>WL.nil ⟨b5.d1,WH.dn (q3 _ _ ?_)⟩))⟩))
 refine WC.sr (WL.r 1 b5 [] rfl (WL.val rfl rfl rfl (bP.idxK (12) ae aa rfl rfl rfl ?_ ?_ ?_) ?_))
 · exact bN.some_ (bN.ofOwn U (b5.ow O))
 · first | (have E:=I (by assumption);omega) | (have E:=J _ (by assumption);omega) | omega
 · first | (have E:=I (by assumption);omega) | (have E:=J _ (by assumption);omega) | omega
 refine WL.val rfl rfl rfl (bP.load ac rfl rfl (bN.one1 (bN.ofOwn U (b5.ow O)) ?_ rfl)) ?_
 · first | (have E:=I (by assumption);omega) | (have E:=J _ (by assumption);omega) | omega
 refine WL.r 1 b5 [] rfl (WL.val rfl rfl rfl (bP.quo rfl rfl rfl ?_ ?_ ?_) ?_)
 · omega
 · omega
 · omega
 refine WL.val rfl rfl rfl (bP.rem rfl rfl rfl ?_ ?_) ?_
 · omega
 · omega
 refine WL.r 2 b5 [] rfl ?_
 refine WL.val rfl rfl rfl (bP.build rfl rfl rfl rfl (sX _ _ _ _ _)) (WL.al b5 bH rfl rfl (fun ad _ q4=>WL.st bX q4 0 rfl rfl (fun _ ib=>WL.nil (WC.seq (fun Hd q5=>WC.r1 ib [] rfl (WC.block ?_))))))
 obtain ⟨g9,q6,q8⟩:=fu.fl ib hP (bS.nil _ _)
 have q9:=((((((q6.fb Z).fb M).fb ag).fb aB).fb V).fb ad)
 have ra:=(St.grp1 (L1:=g9) [_] ((((((((((q9.fr O).fr cD).fr hV).fb Z).fb M).fb ag).fb aB).fb V).fr g9).fb ad))
 refine WC.lV [0,2,3,4,14,15,58,132,133] rfl ra (fun k_ (a_:Hp) f=>∃ (i:Nat) (v:gB) (b6:Hp),k_=(co s (rdN s (bV a6 bad25)).toNat (bV bb bad36)).1.length-i∧a_=[(ad,.cells (List.toArray (vp v)) 43 (0,0))]++b6∧(i≤(co s (rdN s (bV a6 bad25)).toNat (bV bb bad36)).1.length)∧(v.dat=(⟨(bO cf (co s (13:Int).toNat (bV 0 (decide ((40000:Int)<(n_s:Int))))).1 12),gS (bO cf (co s (13:Int).toNat (bV 0 (decide ((40000:Int)<(n_s:Int))))).1 2) 16,(co s (rdN s (bV q7 bad8)).toNat (bV ec bad19)).1,((co s (rdN s (bV a6 bad25)).toNat (bV bb bad36)).1.take i).map ub⟩:hU))∧fu v b6∧cC [(134,.int .i64 i)] f) (((fun (i:Nat)=>(co s (rdN s (bV a6 bad25)).toNat (bV bb bad36)).1.length-i) (0))) ?_ ?_
 ·refine ⟨0,⟨_,_,db.of hP,⟨none,0,0,[]⟩⟩,g9,rfl,rfl,?_,?_,(by exact q8),⟨rfl,trivial⟩⟩
  · exact Nat.zero_le _
  · rfl
 rintro _ _ f w ⟨i,v,b6,rfl,rfl,p0,p1,e5,hG⟩ hF ha
 refine WC.sub _ (hG.app hF) ?_
 clear hG hF
 replace ha:=St.ungrp1 [_] ha
 have bc:=((((((ha.fb Z).fb M).fb ag).fb aB).fb V).fb ad)
 have He:v.Part.xs.length≤1048577:=by have e9:=congrArg (fun d=>d.Part.length) p1;simp only [List.length_map,List.length_take] at e9;have e8:v.dat.Part.length=v.Part.xs.length:=rfl;omega
 refine WC.r1 bc [] rfl (WC.seq (fun Hf rc=>?_))
 refine WC.cq rfl (fun rq rr=>?_) (fun rq rr=>?_)
 ·have rs:=gg s _ _ (bO cf (co s (rdN s (bV a6 bad25)).toNat (bV bb bad36)).1 i) (dg (F:=cf) (xs:=(co s (rdN s (bV a6 bad25)).toNat (bV bb bad36)).1) (k:=i) (by omega))
  refine WC.skip (rc _ _ (WC.seq (fun Hg rz=>WC.block (WC.sr ?_))))
  refine WL.val rfl rfl rfl (bP.idxN ae aa rfl rfl rfl ?_ ?_ ?_) ?_
  · exact bN.some_ (bN.ofOwn hR (bc.ow cD))
  · first | (have E:=I (by assumption);omega) | (have E:=J _ (by assumption);omega) | omega
  · first | (have E:=I (by assumption);omega) | (have E:=J _ (by assumption);omega) | omega
  refine WL.val rfl rfl rfl (bP.load ac rfl rfl (bN.one1 (bN.ofOwn hR (bc.ow cD)) ?_ rfl)) ?_
  · first | (have E:=I (by assumption);omega) | (have E:=J _ (by assumption);omega) | omega
  refine WL.r 1 bc [] rfl (WL.nil (WC.region (WL.r 3 bc [0] rfl (WL.val rfl rfl rfl (bP.and rfl rfl rfl ?_ ?_ ?_ ?_) ?_))))
  · omega
  · omega
  · omega
  · omega
  refine WL.r 1 bc [] rfl (WL.buildSlice bc aj ai aC rfl rfl rfl rfl rfl rfl rfl rfl rfl rfl (fun ic Hh rH=>?_))
  obtain ⟨Hi,r0,r2,ih,r3⟩:=fu.op rH e5
  have ix:=(((((((r2.fb Z).fb M).fb ag).fb aB).fb V).fb ad).fb ic)
  refine WL.appendG (ix.fr r0) r3 (mm ah (ix.own _ (cH (i:=0) rfl)).1) ah iH rfl rfl rfl rfl rfl rfl rfl rfl rfl rfl ?_ (fun Hj Hk Hl Hm fd i0=>?_)
  · (try simp only [List.length_append,List.length_singleton]);omega
  replace fd:=St.back [_,_,_,_,_,_,_] fd
  refine WL.r 1 fd [] rfl (WL.st bX fd 1 rfl rfl (fun _ i1=>WL.nil (rz _ _ (WC.region (WL.r 2 i1 [] rfl (WL.nil (cQ ?_)))))))
  obtain ⟨he,r4,r9⟩:=fu.fl i1 ih i0
  have hf:=(((((((r4.fb Z).fb M).fb ag).fb aB).fb V).fb ad).fb ic)
  replace hf:=hf.d1
  have sq:=(St.grp1 (L1:=he) [_] ((((((((((hf.fr O).fr cD).fr hV).fb Z).fb M).fb ag).fb aB).fb V).fr he).fb ad))
  refine ⟨cR rfl,_,sq,_,?_,i+1,⟨v.State,v.Mark,db.of ih,db.of i0⟩,he,rfl,rfl,?_,?_,(by exact r9),⟨rfl,trivial⟩⟩
  · omega
  · omega
  · have e6:v.State=(bO cf (co s (13:Int).toNat (bV 0 (decide ((40000:Int)<(n_s:Int))))).1 12):=congrArg hU.State p1
    have e7:v.Mark=gS (bO cf (co s (13:Int).toNat (bV 0 (decide ((40000:Int)<(n_s:Int))))).1 2) 16:=congrArg hU.Mark p1
    have e8:v.Args.xs=(co s (rdN s (bV q7 bad8)).toNat (bV ec bad19)).1:=congrArg hU.Args p1
    refine hU.ext' e6 e7 e8 ?_
    have e9:v.Part.xs=((co s (rdN s (bV a6 bad25)).toNat (bV bb bad36)).1.take i).map ub:=congrArg hU.Part p1
    show v.Part.xs++[_]=((co s (rdN s (bV a6 bad25)).toNat (bV bb bad36)).1.take (i+1)).map ub
    rw [e9,List.take_add_one,dc (F:=cf) (by omega),List.map_append];exact congrArg (_++[·]) (Ds rs.1)
 have i2:v.dat=(eG s).P:=by rw [p1,List.take_of_length_le (by omega)];unfold eG;rw [hQ,hS,qs,h5]
 refine WC.exit (q5 _ _ (WC.seq (fun Hn s0=>WC.rG 13 ((bc.fb V).d1.fb M).d1 (bc.fb M).d1 bc (fun _ d0=>?_))))
 refine WG.rn [0,1,2,3,4,5,6,7,8,9] (d0.fb M).d1 [1,1,1,1] rfl rfl (WG.o1 10 rfl rfl ?_)
 replace d0:=(((((d0.fb ag).fb aB).fb V).fb ad).fb M)
 have hh:St _ _ ([(M,_)]++_) _:=d0
 refine WL.call rfl rfl rfl (bP.call Tryz.call146 rfl rfl rfl) (xA _ _ _ _ _ _ _ _ _ (hh.own _ List.mem_cons_self).1 (bN.st0 f_s d0) (St.sep hh f_s) ?_ ?_ ?_) ?_
 · omega
 · first | assumption | exact bS.cap (by assumption) | omega
 · omega
 rintro _ Ho ⟨s1,bad142,Hq,Hr,fg,rfl,d2,i3,hst143,Hs⟩
 replace d2:=St.lend hh d2
 refine ⟨_,rfl,?_⟩
 replace d2:=St.assoc (L1:=[_]) d2
 have fo:=((((((d2.fb Z).fb ag).fb aB).fb V).fb ad).fb M)
 have gM:(bV s1 bad142)=nS s:=by unfold nS;rw [← e0,e3,e4];exact hst143
 refine WL.nil ⟨(fo.d1.rm fg),?_⟩
 refine WG.tk 11 rfl (by kernel_rfl) rfl rfl rfl (fo.d1.rm fg) (fun w_ hs_=>(bP.build rfl rfl rfl rfl (j6 _ _ _ _ _))) ?_
 refine WG.rn [12] (fo.d1.rm fg) [] rfl rfl (WG.oK rfl (WL.st bX fo 2 rfl rfl (fun _ f1=>WL.nil ⟨((f1.d1.fb V).d1.rm fg),WH.dn (s0 _ _ (WC.seq (fun Ht s2=>WC.rG 13 (f1.d1.fb V).d1 f1.d1 f1 (fun _ hj=>?_))))⟩)))
 refine WG.rn [0,1,2,3,4,5,6,7,8,9] hj.d1 [1,1,1,1] rfl rfl (WG.o1 10 rfl rfl ?_)
 have hk:St _ _ ([(M,_)]++_) _:=hj
 refine WL.call rfl rfl rfl (bP.call Tryz.call146 rfl rfl rfl) (xA _ _ _ _ _ _ _ _ _ (hk.own _ List.mem_cons_self).1 (bN.st0 f_s hj) (St.sep hk f_s) ?_ ?_ ?_) ?_
 · omega
 · first | assumption | exact bS.cap (by assumption) | omega
 · omega
 rintro _ Hu ⟨s3,bad156,Hv,Hw,f2,rfl,d3,j1,hst157,Hx⟩
 replace d3:=St.lend hk d3
 refine ⟨_,rfl,?_⟩
 replace d3:=St.assoc (L1:=[_]) d3
 have f3:=((((((d3.fb Z).fb ag).fb aB).fb V).fb ad).fb M)
 have gL:(bV s3 bad156)=eS s:=by unfold eS;rw [← gM,e3,e4];exact hst157
 refine WL.nil ⟨(f3.d1.rm f2),?_⟩
 refine WG.tk 11 rfl (by kernel_rfl) rfl rfl rfl (f3.d1.rm f2) (fun w_ hs_=>(bP.build rfl rfl rfl rfl (j6 _ _ _ _ _))) ?_
 refine WG.rn [12] (f3.d1.rm f2) [] rfl rfl (WG.oK rfl (WL.st bX f3 2 rfl rfl (fun _ f4=>WL.nil ⟨((f4.d1.fb V).d1.rm f2),WH.dn (s2 _ _ (WC.sr (WL.r 1 f4 [] rfl ?_)))⟩)))
 have hm:St _ _ ([(M,_)]++_) _:=f4
 refine WL.call rfl rfl rfl (bP.call Tryz.call26 rfl rfl rfl) (jr _ _ _ _ _ _ _ _ (hm.own _ List.mem_cons_self).1 (bN.st0 f_s f4) (St.sep hm f_s) ?_ ?_ ?_) ?_
 · omega
 · first | assumption | exact bS.cap (by assumption) | omega
 · omega
 rintro _ Hy ⟨ho,bad168,rfl,d4,hst169,Hz⟩
 replace d4:=St.lend hm d4
 refine ⟨_,rfl,?_⟩
 have HA:=fW s (eS s)
 have s4:(bV ho bad168)=cE s (eS s):=by rw [← gL];exact hst169
 rw [gL]
 refine WL.r 1 d4 [] rfl (WL.nil (WC.seq (fun HB tu=>WC.r1 d4 [] rfl (WC.block ?_))))
 obtain ⟨hp,tx,t1⟩:=eM.fl d4 i3 j1 hW (cv.nil _ _ _)
 have t2:=((((((tx.fb Z).fb ag).fb aB).fb V).fb ad).fb M)
 have un:=(St.grp1 (L1:=hp) [_,_] ((((((((((t2.fr O).fr cD).fr b6).fb Z).fb ag).fb aB).fb ad).fr hp).fb M).fb V))
 refine WC.lV [0,2,3,4,14,15,18,58,135] rfl un (fun k_ (a_:Hp) f=>∃ (i:Nat) (q1:Int) (bd:Bool) (zs:List fA) (r:fj) (a8:Hp),k_=(rdN s (eS s)).toNat-i∧a_=[(V,.cells (List.toArray (pQ r)) 51 (0,0)),(M,.cells (List.toArray [.slice A_s n_s c_s,i64 q1,.bool bd]) 65 (0,0))]++a8∧(i≤(rdN s (eS s)).toNat)∧(0≤q1∧q1≤n_s)∧(zs.length=i)∧(rS s=(zs++(ik s ((rdN s (eS s)).toNat-i) (bV q1 bd)).1,(ik s ((rdN s (eS s)).toNat-i) (bV q1 bd)).2))∧(r.dat=({(eG s).S with Back:=zs}:cZ))∧eM r a8∧cC [(19,.int .i64 i)] f) (((fun (i:Nat) (q1:Int) (bd:Bool) (zs:List fA)=>(rdN s (eS s)).toNat-i) (0) (ho) (bad168) ([]))) ?_ ?_
 ·refine ⟨0,ho,bad168,[],⟨_,_,⟨_,_,db.of i3⟩,⟨_,_,db.of j1⟩,_,_,_,_,⟨_,_,_,_,_⟩,_,_,_,_,_,_,⟨_,_,_,_,_⟩,db.of hW,_,⟨none,0,0,[]⟩⟩,hp,rfl,rfl,?_,?_,?_,?_,?_,(by exact t1),⟨rfl,trivial⟩⟩
  · exact Nat.zero_le _
  · omega
  · rfl
  · unfold rS;rw [s4];rfl
  · unfold eG;rw [e3,e4,h5,o0,o2,o3,o4,o5,o6,ps,qb,qc,← e0,← gM,h0];simp only [gS,Int.ediv_one];rfl
 rintro _ _ f w ⟨i,q1,bd,zs,r,a8,rfl,rfl,p0,p1,p2,p3,p4,f5,hG⟩ hF hr
 refine WC.sub _ (hG.app hF) ?_
 clear hG hF
 replace hr:=St.ungrp1 [_,_] hr
 have b8:=((((((hr.fb Z).fb ag).fb aB).fb ad).fb M).fb V)
 have HD:r.Back.xs.length=i:=by have e9:=congrArg (fun d=>d.Back.length) p4;have e8:r.dat.Back.length=r.Back.xs.length:=List.length_map _;simp only at e9;omega
 refine WC.seq (fun HE u0=>WC.sr (WL.r 4 b8 [] rfl (WL.pA bX 5 bU.nil b8 [1] rfl rfl rfl rfl (fun g_=>⟨rfl,trivial⟩) (WL.nil ?_))))
 refine WC.cq rfl (fun ga u1=>?_) (fun ga u1=>?_)
 ·have kb:bd=false:=by have G:=ga;simp at G;exact G.2
  have HF:i<(rdN s (eS s)).toNat:=by have G:=ga;simp at G;omega
  refine WC.skip (u0 _ _ (WC.seq (fun HG u2=>WC.block (WC.rG 10 (b8.d1.d1.rm a8) ((b8.fb M).d1.rm a8) b8 (fun _ d5=>?_)))))
  refine WG.rn [0,1,2,3] ((d5.fb M).d1.rm a8) [0] rfl rfl (WG.o1 4 rfl rfl ?_)
  replace d5:=(d5.fb M)
  have hs:St _ _ ([(M,_)]++_) _:=d5
  refine WL.call rfl rfl rfl (bP.call Tryz.call26 rfl rfl rfl) (jr _ _ _ _ _ _ _ _ (hs.own _ List.mem_cons_self).1 (bN.st0 f_s d5) (St.sep hs f_s) ?_ ?_ ?_) ?_
  · omega
  · first | assumption | exact bS.cap (by assumption) | omega
  · omega
  rintro _ HH ⟨kc,bad191,rfl,d6,hst192,HI⟩
  replace d6:=St.lend hs d6
  refine ⟨_,rfl,WL.nil ⟨(d6.d1.rm a8),WG.o1 5 rfl rfl ?_⟩⟩
  have ht:St _ _ ([(M,_)]++_) _:=d6
  refine WL.call rfl rfl rfl (bP.call Tryz.call146 rfl rfl rfl) (xA _ _ _ _ _ _ _ _ _ (ht.own _ List.mem_cons_self).1 (bN.st0 f_s d6) (St.sep ht f_s) ?_ ?_ ?_) ?_
  · omega
  · first | assumption | exact bS.cap (by assumption) | omega
  · omega
  rintro _ HJ ⟨u3,bad197,HK,HL,gb,rfl,d7,gc,hst198,HM⟩
  replace d7:=St.lend ht d7
  refine ⟨_,rfl,?_⟩
  replace d7:=St.assoc (L1:=[_]) d7
  have hu:=((((((d7.fb Z).fb ag).fb aB).fb ad).fb V).fb M)
  refine WL.nil ⟨((hu.d1.rm gb).rm a8),?_⟩
  refine WG.tk 6 rfl (by kernel_rfl) rfl rfl rfl ((hu.d1.rm gb).rm a8) (fun w_ hs_=>(bP.build rfl rfl rfl rfl (rg _ _ _))) ?_
  refine WG.o1 7 rfl rfl (WL.buildSlice hu aN aD bv rfl rfl rfl rfl rfl rfl rfl rfl rfl rfl (fun d8 HN kd=>WL.nil ⟨((kd.d1.d1.rm gb).rm a8),WG.o1 8 rfl rfl ?_⟩))
  obtain ⟨hv,hw,hx,u4,u8,kk,ks,kt,vl⟩:=eM.op kd f5
  have vx:=(((((((u8.fb Z).fb ag).fb aB).fb ad).fb V).fb M).fb d8)
  obtain ⟨vy,v6,v7,v8,wf⟩:=cv.open_ (vx.fr u4) vl
  have kv:=(((((((v7.fb Z).fb ag).fb aB).fb ad).fb V).fb M).fb d8)
  refine WL.appendG (kv.fr vy) v8 (kF (F:=cB) (ys:=[(⟨db.of gc⟩:dq)]) bI rfl rfl (kv.own _ (cH (i:=0) rfl)).1) bI yg rfl rfl rfl rfl rfl rfl rfl rfl rfl rfl ?_ (fun HO HP wp HQ hy w2=>?_)
  · (try simp only [List.length_append,List.length_singleton]);omega
  replace hy:=St.back [_,_,_,_,_,_,_] hy
  obtain ⟨w3,w4,w5⟩:=ew.put (x:=(⟨db.of gc⟩:dq)) ((hy.fr gb).fr v6) wf gc
  have w6:=(((((((w4.fb Z).fb ag).fb aB).fb ad).fb V).fb M).fb d8)
  obtain ⟨hA,x2,k0⟩:=cv.fold ((w6.fr w3).fr wp) w2 w5
  have hB:=(((((((x2.fb Z).fb ag).fb aB).fb ad).fb V).fb M).fb d8)
  refine WL.nil ⟨((((hB.d1.d1.rm hA).rm hv).rm hw).rm hx),WG.rn [9] ((((hB.d1.d1.rm hA).rm hv).rm hw).rm hx) [] rfl rfl (WG.oK rfl (WL.st bX hB 2 rfl rfl (fun _ hC=>WL.nil ⟨((((hC.d1.d1.d1.rm hA).rm hv).rm hw).rm hx),WH.dn (u2 _ _ (WC.region ?_))⟩)))⟩
  refine WL.r 3 hC [] rfl (WL.nil (cQ ?_))
  obtain ⟨hD,x4,x5⟩:=eM.fl hC kk ks kt k0
  have hE:=(((((((x4.fb Z).fb ag).fb aB).fb ad).fb V).fb M).fb d8)
  replace hE:=hE.d1
  have x6:=(St.grp1 (L1:=hD) [_,_] ((((((((((hE.fr O).fr cD).fr b6).fb Z).fb ag).fb aB).fb ad).fr hD).fb M).fb V))
  refine ⟨cR rfl,_,x6,_,?_,i+1,u3,bad197,(zs++[⟨jw s (rdN s (bV q1 bd)) (bV kc bad191)⟩]),⟨r.W,r.H,⟨r.Main.W,r.Main.H,db.of kk⟩,⟨r.Alt.W,r.Alt.H,db.of ks⟩,r.OnAlt,r.X,r.Y,r.Wrap,⟨r.A.Fg,r.A.Bg,r.A.Bold,r.A.Under,r.A.Turn⟩,r.Top,r.Bot,r.NoWrap,r.Hide,r.SaveX,r.SaveY,⟨r.SaveA.Fg,r.SaveA.Bg,r.SaveA.Bold,r.SaveA.Under,r.SaveA.Turn⟩,db.of kt,r.Limit,db.ofN k0⟩,hD,rfl,rfl,?_,?_,?_,?_,?_,(by exact x5),⟨rfl,trivial⟩⟩
  · omega
  · omega
  · omega
  · simp only [List.length_append,List.length_singleton];omega
  · rw [p3,kb,wG (by omega),← kb,← hst192,← hst198,List.append_assoc];rfl
  · have x7:r.dat.W=(eG s).S.W:=by have G:=congrArg cZ.W p4;exact G
    have x8:r.dat.H=(eG s).S.H:=by have G:=congrArg cZ.H p4;exact G
    have x9:r.dat.Main=(eG s).S.Main:=by have G:=congrArg cZ.Main p4;exact G
    have y2:r.dat.Alt=(eG s).S.Alt:=by have G:=congrArg cZ.Alt p4;exact G
    have y3:r.dat.OnAlt=(eG s).S.OnAlt:=by have G:=congrArg cZ.OnAlt p4;exact G
    have y4:r.dat.X=(eG s).S.X:=by have G:=congrArg cZ.X p4;exact G
    have y5:r.dat.Y=(eG s).S.Y:=by have G:=congrArg cZ.Y p4;exact G
    have za:r.dat.Wrap=(eG s).S.Wrap:=by have G:=congrArg cZ.Wrap p4;exact G
    have zb:r.dat.A=(eG s).S.A:=by have G:=congrArg cZ.A p4;exact G
    have zc:r.dat.Top=(eG s).S.Top:=by have G:=congrArg cZ.Top p4;exact G
    have zl:r.dat.Bot=(eG s).S.Bot:=by have G:=congrArg cZ.Bot p4;exact G
    have z1:r.dat.NoWrap=(eG s).S.NoWrap:=by have G:=congrArg cZ.NoWrap p4;exact G
    have z2:r.dat.Hide=(eG s).S.Hide:=by have G:=congrArg cZ.Hide p4;exact G
    have z6:r.dat.SaveX=(eG s).S.SaveX:=by have G:=congrArg cZ.SaveX p4;exact G
    have A1:r.dat.SaveY=(eG s).S.SaveY:=by have G:=congrArg cZ.SaveY p4;exact G
    have A2:r.dat.SaveA=(eG s).S.SaveA:=by have G:=congrArg cZ.SaveA p4;exact G
    have A3:r.dat.Tabs=(eG s).S.Tabs:=by have G:=congrArg cZ.Tabs p4;exact G
    have A4:r.dat.Limit=(eG s).S.Limit:=by have G:=congrArg cZ.Limit p4;exact G
    have A5:(r.Back.xs++[(⟨db.of gc⟩:dq)]).map dq.dat=zs++[(⟨jw s (rdN s (bV q1 bd)) (bV kc bad191)⟩:fA)]:=by rw [List.map_append,show r.Back.xs.map dq.dat=zs by have G:=congrArg cZ.Back p4;exact G];rfl
    exact cZ.ext' x7 x8 x9 y2 y3 y4 y5 za zb zc zl z1 z2 z6 A1 A2 A3 A4 A5
 have A6:(rdN s (eS s)).toNat≤i∨bd=true:=by
   have G:=ga;cases bd with
   | true=>exact .inr rfl
   | false=>simp at G;left;omega
 have k1:rS s=(zs,bV q1 bd):=by rw [p3,wP A6];simp
 have k2:r.dat=(eG s).S:=by rw [p4];show _=({(eG s).S with Back:=(rS s).1}:cZ);rw [k1]
 have A7:(bV q1 bd).isSome=(rS s).2.isSome:=by rw [k1]
 have A8:=Bd e1
 have k3:(⟨v.dat,r.dat⟩:eD)=eG s:=eD.ext' i2 k2
 have k4:eC 1048576 (⟨v.dat,r.dat⟩:eD):=by rw [k3];exact A8
 have k5:eC 549755813888 (⟨v.dat,r.dat⟩:eD):=lU k4 (by decide)
 have k6:js 549755813888 v.dat:=k5.1
 have la:gC 549755813888 r.dat:=k5.2
 have hH:=wS e1 A7
 rw [← k3] at hH
 have HR:=jE (⟨v.dat,r.dat⟩:eD)
 refine WC.exit (tu _ _ (WC.sr (WL.r 2 b8 [2,0] rfl ?_)))
 refine WL.val rfl rfl rfl (bP.build rfl rfl rfl rfl (qB _ _ _ _ _ _ _ _ _ _ _ _ _ _ _ _ _ _ _ _ _ _ _ _ _ _ _ _ _ _ _ _ _ _ _)) (WL.al b8 aZ rfl rfl (fun gm _ A9=>WL.st bX A9 0 rfl rfl (fun _ c2=>WL.nil (WC.sr (WL.r 1 c2 [0] rfl ?_)))))
 have c3:=(fu.ok (B:=549755813888) e5 (c2.ow b6) k6)
 have ba:=(eM.ok (B:=549755813888) f5 (c2.ow a8) la)
 have HS:=(fu.ok (B:=549755813888) e5 (c2.ow b6) k6)
 have HT:=(eM.ok (B:=549755813888) f5 (c2.ow a8) la)
 refine WL.x3 c2 Tryz.call82 rfl (Cl (⟨⟨v.State,v.Mark,v.Args,v.Part⟩,⟨r.W,r.H,⟨r.Main.W,r.Main.H,r.Main.Cells⟩,⟨r.Alt.W,r.Alt.H,r.Alt.Cells⟩,r.OnAlt,r.X,r.Y,r.Wrap,⟨r.A.Fg,r.A.Bg,r.A.Bold,r.A.Under,r.A.Turn⟩,r.Top,r.Bot,r.NoWrap,r.Hide,r.SaveX,r.SaveY,⟨r.SaveA.Fg,r.SaveA.Bg,r.SaveA.Bold,r.SaveA.Under,r.SaveA.Turn⟩,r.Tabs,r.Limit,r.Back⟩⟩:eL) _ ⟨⟨c3.Args,c3.Args_c,c3.Args_n,c3.Part,c3.Part_c,c3.Part_n⟩,⟨⟨ba.Main.Cells,ba.Main.Cells_c,ba.Main.Cells_n⟩,⟨ba.Alt.Cells,ba.Alt.Cells_c,ba.Alt.Cells_n⟩,ba.Tabs,ba.Tabs_c,ba.Tabs_n,ba.Back,ba.Back_c,ba.Back_n⟩⟩ ?_) (fun _ HU HV Fn Gn a7=>?_)
 · first | assumption | rfl | omega | exact k4
 replace a7:=St.back [_,_,_,_,_,_,_] a7
 refine WL.r 5 a7 [] rfl (WL.nil (WC.seq (fun HW lm=>WC.sr (WL.r 5 a7 [2] rfl (WL.pO bX 2 bU.nil a7 [] rfl rfl rfl rfl (fun g_=>trivial) (WL.r 1 a7 [] rfl ?_))))))
 apply WL.gO 5 bU.nil a7 rfl
 ·intro b9 Go
  have Gp:=b9
  try simp only [bf,bZ,ca] at Gp
  refine WL.runA bX 1 (bU.nil.cons (j:=8) rfl b9) a7 [] rfl trivial (WL.val (cX rfl b9) rfl rfl (bP.strOf (bN.ofOwn Gn (a7.ow Fn)) ah aH aG rfl rfl) (WL.runA bX 1 (bU.nil.cons (j:=8) rfl b9) a7 [] rfl trivial (WL.val (cX rfl b9) rfl rfl (bP.strOf (bN.st0 f_s a7) ah aH aG rfl rfl) (WL.runA bX 1 (bU.nil.cons (j:=8) rfl b9) a7 [] rfl trivial (WL.eO 5 bU.nil Go a7 b9 rfl rfl)))))
 intro _ hK
 refine WL.nil (WC.cq rfl (fun hL Gq=>?_) (fun hL Gq=>?_))
 ·have hg:dB s=false:=hH.trans (congrArg (!·) hL)
  refine WC.sr ?_
  refine WL.val rfl rfl rfl (bP.build rfl rfl rfl rfl (pa)) (WL.st bX hK 6 rfl rfl (fun _ hM=>WL.r 1 hM [] rfl (WL.nil (WC.ret (cd ?_)))))
  clear lm
  refine di rfl (cb.cellA bX hM 6 rfl rfl rfl rfl) (cb.tmp rfl) ?_
  rw [hg]
  obtain ⟨Gr,Gs,Gt⟩:=dH.fl hM (bS.nil _ _) (bS.nil _ _) (bS.nil _ _) (bS.nil _ _) (bS.nil _ _) (cv.nil _ _ _)
  have Gu:=(((((((Gs.fb Z).fb ag).fb aB).fb ad).fb M).fb V).fb gm)
  refine ⟨⟨⟨0,false,⟨none,0,0,[]⟩,⟨none,0,0,[]⟩⟩,⟨0,0,⟨0,0,⟨none,0,0,[]⟩⟩,⟨0,0,⟨none,0,0,[]⟩⟩,false,0,0,false,⟨0,0,false,false,false⟩,0,0,false,false,0,0,⟨0,0,false,false,false⟩,⟨none,0,0,[]⟩,0,⟨none,0,0,[]⟩⟩⟩,_,rfl,(St.keep1 (Gu.fr Gr)),?_,?_⟩
  · exact (by exact Gt)
  · unfold fw;rw [hg];rfl
 have hg:dB s=true:=hH.trans (congrArg (!·) hL)
 refine WC.skip (lm _ _ (WC.sr (WL.r 1 hK [0] rfl (WL.st bX hK 6 rfl rfl (fun _ hN=>WL.r 1 hN [] rfl (WL.nil (WC.ret ?_)))))))
 refine di rfl (cb.cellA bX hN 6 rfl rfl rfl rfl) (cb.tmp rfl) ?_
 rw [hg]
 obtain ⟨HX,HY,Gv,lt,lO⟩:=fu.op hN e5
 have Gw:=(((((((Gv.fb Z).fb ag).fb aB).fb ad).fb M).fb V).fb gm)
 obtain ⟨HZ,H0,H1,H2,Gx,lS,l0,l1,l2⟩:=eM.op Gw f5
 have Gy:=(((((((Gx.fb Z).fb ag).fb aB).fb ad).fb M).fb V).fb gm)
 obtain ⟨Gz,GA,GB⟩:=dH.fl Gy lt lO lS l0 l1 l2
 have GC:=(((((((GA.fb Z).fb ag).fb aB).fb ad).fb M).fb V).fb gm)
 refine ⟨⟨⟨v.State,v.Mark,db.of lt,db.of lO⟩,⟨r.W,r.H,⟨r.Main.W,r.Main.H,db.of lS⟩,⟨r.Alt.W,r.Alt.H,db.of l0⟩,r.OnAlt,r.X,r.Y,r.Wrap,⟨r.A.Fg,r.A.Bg,r.A.Bold,r.A.Under,r.A.Turn⟩,r.Top,r.Bot,r.NoWrap,r.Hide,r.SaveX,r.SaveY,⟨r.SaveA.Fg,r.SaveA.Bg,r.SaveA.Bold,r.SaveA.Under,r.SaveA.Turn⟩,db.of l1,r.Limit,db.ofN l2⟩⟩,_,rfl,(St.keep1 (GC.fr Gz)),?_,?_⟩
 · exact (by exact GB)
 · rw [zg hg];exact eD.ext' i2 k2
theorem w7 (x0:Int):Tryz.prog.built 55 [(0,.int .i64 x0)]=some (List.toArray [.int .i64 x0,.string ⟨#[]⟩,.string ⟨#[]⟩,.int .i64 0,.int .i64 0,.int .i64 0,.int .i64 0,.bool false,.slice none 0 0,.slice none 0 0,.int .i64 0,.int .i64 0,.int .i64 0,.int .i64 0,.slice none 0 0,.int .i64 0,.int .i64 0,.slice none 0 0,.bool false,.int .i64 0,.int .i64 0,.bool false,.int .i64 0,.int .i64 0,.bool false,.bool false,.bool false,.int .i64 0,.int .i64 0,.bool false,.bool false,.int .i64 0,.int .i64 0,.int .i64 0,.int .i64 0,.bool false,.bool false,.bool false,.slice none 0 0,.int .i64 0,.slice none 0 0]):=by kernel_rfl
set_option maxHeartbeats 4000000 in
theorem Fe (b_c:Nat) (A_s:Option Addr) (n_s c_s:Nat) (s:List UInt8) (q:Int) (bad:Bool) (w:World) (hc:w.heap[b_c]? = some (Obj.cells (List.toArray [.slice A_s n_s c_s,i64 (q),.bool (bad)]) 65 (0,0))) (f_s:bN cj w A_s n_s s) (s_s:0<n_s→(eq A_s).block∉[b_c]) (hn:n_s≤1099511627776) (hcp:n_s≤c_s) (hq:0≤q∧q≤n_s) (hnb:n_s≤1048576) :
    Calls Tryz.prog 27 #[.pointer (some ⟨b_c,0,none⟩)] w fun e w'=>∃ q' bad' r L1,e = .returned (.agg (mo r).toArray)∧St w [b_c] ((b_c,Obj.cells (List.toArray [.slice A_s n_s c_s,i64 (q'),.bool (bad')]) 65 (0,0))::L1) w'∧dE r L1∧r.dat=(lw s (bV q bad)).1∧bV q' bad'=(lw s (bV q bad)).2∧(0≤q'∧q'≤n_s):=by
 have hl:=f_s.len
 have hd:=ej s q
 have he:=fq s q
 refine enter 94 Tryz.func27 rfl Tryz.ntmps27 rfl rfl ?_
 have fd:=St.take1 w b_c _ hc
 refine WC.sr (WL.al fd aQ rfl rfl (fun b2 _ a6=>WL.nil (WC.sr (WL.r 1 a6 [] rfl ?_))))
 replace a6:=(a6.fb b_c)
 have b9:St _ _ ([(b_c,_)]++_) _:=a6
 refine WL.call rfl rfl rfl (bP.call Tryz.call26 rfl rfl rfl) (jr _ _ _ _ _ _ _ _ (b9.own _ List.mem_cons_self).1 (bN.st f_s a6 s_s) (St.sepT b9 f_s s_s) ?_ ?_ ?_) ?_
 · omega
 · first | assumption | exact bS.cap (by assumption) | omega
 · omega
 rintro _ hf ⟨q5,bad6,rfl,ck,hst7,hh⟩
 replace ck:=St.lend b9 ck
 refine ⟨_,rfl,?_⟩
 refine WL.val rfl rfl rfl (bP.build rfl rfl rfl rfl (w7 _)) (WL.al ck aQ rfl rfl (fun aB _ fg=>WL.st bX fg 0 rfl rfl (fun _ a7=>WL.nil (WC.sr (WL.r 1 a7 [] rfl ?_)))))
 replace a7:=(a7.fb b_c)
 have cD:St _ _ ([(b_c,_)]++_) _:=a7
 refine WL.call rfl rfl rfl (bP.call Tryz.call29 rfl rfl rfl) (uu _ _ _ _ _ _ _ _ (cD.own _ List.mem_cons_self).1 (bN.st f_s a7 s_s) (St.sepT cD f_s s_s) ?_ ?_ ?_) ?_
 · omega
 · first | assumption | exact bS.cap (by assumption) | omega
 · omega
 rintro _ hj ⟨hk,bad15,rfl,b1,hst16,hm⟩
 replace b1:=St.lend cD b1
 refine ⟨_,rfl,WL.r 1 b1 [] rfl (WL.st bX b1 1 rfl rfl (fun _ cN=>WL.nil (WC.sr (WL.r 1 cN [] rfl ?_))))⟩
 have c0:St _ _ ([(b_c,_)]++_) _:=cN
 refine WL.call rfl rfl rfl (bP.call Tryz.call29 rfl rfl rfl) (uu _ _ _ _ _ _ _ _ (c0.own _ List.mem_cons_self).1 (bN.st f_s cN s_s) (St.sepT c0 f_s s_s) ?_ ?_ ?_) ?_
 · omega
 · first | assumption | exact bS.cap (by assumption) | omega
 · omega
 rintro _ ho ⟨M,bad22,rfl,b3,hst23,hp⟩
 replace b3:=St.lend c0 b3
 refine ⟨_,rfl,WL.r 1 b3 [] rfl (WL.st bX b3 1 rfl rfl (fun _ c1=>WL.nil (WC.sr (WL.r 1 c1 [] rfl ?_))))⟩
 have c2:St _ _ ([(b_c,_)]++_) _:=c1
 refine WL.call rfl rfl rfl (bP.call Tryz.call25 rfl rfl rfl) (rL _ _ _ _ _ _ _ _ _ (c2.own _ List.mem_cons_self).1 (bN.st f_s c1 s_s) (St.sepT c2 f_s s_s) ?_ ?_ ?_ ?_) ?_
 · omega
 · first | assumption | exact bS.cap (by assumption) | omega
 · omega
 · first | omega | decide
 rintro _ hr ⟨N,bad29,hs,ht,O,rfl,a8,U,hst30,hu⟩
 replace a8:=St.lend c2 a8
 refine ⟨_,rfl,?_⟩
 replace a8:=St.assoc (L1:=[_]) a8
 have dj:=(((a8.fb b2).fb aB).fb b_c)
 have b4:ie s (bV q bad)=(co s (4:Int).toNat (bV M bad22)):=by unfold ie oz rV;rw [← hst7,← hst16,← hst23];rfl
 have I:bad29=false→(co s (4:Int).toNat (bV M bad22)).1.length=4:=fun h=>(iv 4 (bV M bad22) (by
   show (co s (4:Int).toNat (bV M bad22)).2.isSome=true
   rw [← hst30,h];rfl)).2
 refine WL.r 1 dj [] rfl (WL.nil (WC.seq (fun hv ds=>WC.sq1 dj (WQ.r 5 [0] rfl ?_))))
 apply WQ.gO 14 bU.nil rfl
 ·intro a1 fo
  have f1:=a1
  try simp only [bf,bZ,ca] at f1
  refine WQ.runA bX 1 (bU.nil.cons (j:=4) rfl a1) [] rfl trivial ?_
  refine WQ.val (cX rfl a1) rfl rfl (fun w_ hs_=>(bP.idxK (3) ae aa rfl rfl rfl ?_ ?_ ?_)) ?_
  · exact bN.some_ (bN.ofOwn U ((hs_:St _ _ _ _).ow O))
  · first | omega | (have J:=I (by assumption);omega)
  · first | omega | (have J:=I (by assumption);omega)
  refine WQ.val (cX rfl a1) rfl rfl (fun w_ hs_=>(bP.load ac rfl rfl (bN.one1 (bN.ofOwn U ((hs_:St _ _ _ _).ow O)) ?_ rfl))) ?_
  · first | omega | (have J:=I (by assumption);omega)
  refine WQ.runA bX 11 (bU.nil.cons (j:=4) rfl a1) [0,0] rfl ⟨by omega,rfl,rfl,trivial⟩ (WQ.eO 14 bU.nil fo a1 rfl rfl)
 refine WQ.nil (fun _ (ad:St _ _ _ _)=>?_)
 refine WC.cq rfl (fun b5 f2=>?_) (fun b5 f2=>?_)
 ·have d0:=Dw (o:=bV q bad) hst7 hst16 (by
    rw [b4,← hst30]
    have V:=b5
    cases hb:bad29 with
    | true=>rfl
    | false=>(rw [hb] at V;simp at V;exact decide_eq_false (by show ¬ ((bO cf (co s 4 (bV M bad22)).1 3)≤_);omega)))
  refine WC.sr (WL.r 3 ad [] rfl (WL.st bX ad 0 rfl rfl (fun _ d2=>WL.nil (WC.sr (WL.r 1 d2 [1] rfl (WL.st bX d2 2 rfl rfl (fun _ d3=>WL.nil ?_)))))))
  refine WC.ret (cd ?_)
  clear ds
  refine cO rfl (cb.cellA bX d3 2 rfl rfl rfl rfl) ?_
  obtain ⟨d4,f3,f4⟩:=dE.fl d3 (bS.nil _ _) (bS.nil _ _) (bS.nil _ _) (bS.nil _ _) (bS.nil _ _) (cv.nil _ _ _)
  have f5:=(((f3.fb b2).fb aB).fb b_c)
  refine ⟨_,_,⟨_,_,_,0,0,0,⟨⟨0,false,⟨none,0,0,[]⟩,⟨none,0,0,[]⟩⟩,⟨0,0,⟨0,0,⟨none,0,0,[]⟩⟩,⟨0,0,⟨none,0,0,[]⟩⟩,false,0,0,false,⟨0,0,false,false,false⟩,0,0,false,false,0,0,⟨0,0,false,false,false⟩,⟨none,0,0,[]⟩,0,⟨none,0,0,[]⟩⟩⟩⟩,_,rfl,St.keepP (L1:=d4) ((f5.fr d4).fb b_c),(by exact f4),?_,?_,by omega⟩
  · rw [d0];rfl
  · rw [d0];rfl
 have c3:bad29=false:=by cases hb:bad29 with
   | false=>rfl
   | true=>(have V:=b5;rw [hb] at V;simp at V)
 have h4:=I c3
 have hx:=gg s 4 (bV M bad22) (bO cf (co s (4:Int).toNat (bV M bad22)).1 3) (dg (F:=cf) (by show 3<(co s (4:Int).toNat (bV M bad22)).1.length;omega))
 have hy:(bO cf (co s (4:Int).toNat (bV M bad22)).1 3)≤(n_s:Int)-N:=by have V:=b5;rw [c3] at V;simp at V;omega
 have ba:=ws (o:=bV q bad) (Q:=N) hst7 hst16 (by rw [b4,← hst30,c3];rfl) (by rw [b4];show (bO cf (co s (4:Int).toNat (bV M bad22)).1 3)≤_;omega)
 rw [b4] at ba
 have a2:(s.drop N.toNat).take ((N+(bO cf (co s (4:Int).toNat (bV M bad22)).1 3)).toNat-N.toNat)=ko s N (bO cf (co s (4:Int).toNat (bV M bad22)).1 3):=by unfold ko;rw [show (N+(bO cf (co s (4:Int).toNat (bV M bad22)).1 3)).toNat-N.toNat=(bO cf (co s (4:Int).toNat (bV M bad22)).1 3).toNat by omega]
 refine WC.skip (ds _ _ (WC.sr (WL.r 1 ad [] rfl ?_)))
 refine WL.val rfl rfl rfl (bP.idxK (0) ae aa rfl rfl rfl ?_ ?_ ?_) ?_
 · exact bN.some_ (bN.ofOwn U (ad.ow O))
 · first | omega | (have J:=I (by assumption);omega)
 · first | omega | (have J:=I (by assumption);omega)
 refine WL.val rfl rfl rfl (bP.load ac rfl rfl (bN.one1 (bN.ofOwn U (ad.ow O)) ?_ rfl)) ?_
 · first | omega | (have J:=I (by assumption);omega)
 refine WL.r 1 ad [] rfl (WL.st bX ad 1 rfl rfl (fun _ bb=>WL.nil (WC.sr (WL.r 1 bb [] rfl ?_))))
 refine WL.val rfl rfl rfl (bP.idxK (1) ae aa rfl rfl rfl ?_ ?_ ?_) ?_
 · exact bN.some_ (bN.ofOwn U (bb.ow O))
 · first | omega | (have J:=I (by assumption);omega)
 · first | omega | (have J:=I (by assumption);omega)
 refine WL.val rfl rfl rfl (bP.load ac rfl rfl (bN.one1 (bN.ofOwn U (bb.ow O)) ?_ rfl)) ?_
 · first | omega | (have J:=I (by assumption);omega)
 refine WL.r 1 bb [] rfl (WL.st bX bb 1 rfl rfl (fun _ bc=>WL.nil (WC.sr (WL.r 1 bc [] rfl ?_))))
 refine WL.val rfl rfl rfl (bP.idxK (2) ae aa rfl rfl rfl ?_ ?_ ?_) ?_
 · exact bN.some_ (bN.ofOwn U (bc.ow O))
 · first | omega | (have J:=I (by assumption);omega)
 · first | omega | (have J:=I (by assumption);omega)
 refine WL.val rfl rfl rfl (bP.load ac rfl rfl (bN.one1 (bN.ofOwn U (bc.ow O)) ?_ rfl)) ?_
 · first | omega | (have J:=I (by assumption);omega)
 refine WL.r 1 bc [] rfl (WL.st bX bc 1 rfl rfl (fun _ c4=>WL.nil (WC.seq (fun hA d5=>WC.rG 22 c4 c4 c4 (fun _ Z=>?_)))))
 refine WG.rn [0,1,2,3,4,5,6,7,8,9,10,11,12] Z [0,0,0] rfl rfl ?_
 refine WG.tk 13 rfl (by kernel_rfl) rfl rfl rfl Z (fun w_ hs_=>(bP.idxK (3) ae aa rfl rfl rfl ?_ ?_ ?_)) ?_
 · exact bN.some_ (bN.ofOwn U ((hs_:St _ _ _ _).ow O))
 · first | omega | (have J:=I (by assumption);omega)
 · first | omega | (have J:=I (by assumption);omega)
 refine WG.tk 14 rfl (by kernel_rfl) rfl rfl rfl Z (fun w_ hs_=>(bP.load ac rfl rfl (bN.one1 (bN.ofOwn U ((hs_:St _ _ _ _).ow O)) ?_ rfl))) ?_
 · first | omega | (have J:=I (by assumption);omega)
 refine WG.rn [15] Z [] rfl rfl ?_
 refine WG.tk 16 rfl (by kernel_rfl) rfl rfl rfl Z (fun w_ hs_=>(bP.sliceLH (N.toNat) ((N+(bO cf (co s (4:Int).toNat (bV M bad22)).1 3)).toNat) aj ai rfl rfl rfl rfl ?_ ?_ ?_)) ?_
 · first | rfl | (omega)
 · first | rfl | (omega)
 · refine ⟨?_,?_,?_⟩<;>(omega)
 refine WG.all [17,21] (by kernel_rfl) rfl (mj.cons (i:=17) rfl rfl ?_ (mj.cons (i:=21) rfl rfl ?_ mj.nil))
 ·refine WL.x2 Z Tryz.call78 rfl (BR _ _ _ _ _ (bN.cutC (lo:=N.toNat) (hi:=(N+(bO cf (co s (4:Int).toNat (bV M bad22)).1 3)).toNat) (bN.st f_s Z s_s) (by refine ⟨?_,?_,?_⟩<;>(omega))) (by first | assumption | omega | simp) ?_) (fun _ E bd h_ bg=>?_)
  · first | assumption | rfl | omega | (have J:=a2;omega)
  obtain ⟨ga,gb⟩:=h_
  replace bg:=St.back [_,_,_] bg
  refine WL.nil ⟨(bg.rm bd),WG.rn [18,19,20] (bg.rm bd) [] rfl rfl (WG.o1 21 rfl rfl (WL.al bg aZ rfl rfl (fun d6 _ d7=>WL.nil ⟨(d7.d1.rm bd),WG.oK rfl (WL.st bX d7 0 rfl rfl (fun _ b6=>WL.nil ⟨(b6.d1.rm bd),?_⟩))⟩)))⟩
  refine WH.rn [23] (b6.d1.rm bd) [] rfl rfl (WH.dn (d5 _ _ (WC.sr (WL.r 2 b6 [0] rfl (WL.st bX b6 2 rfl rfl (fun _ c5=>WL.nil (WC.seq (fun hB gc=>?_))))))))
  refine WC.rG 11 (c5.fb b_c).d1 c5 c5 (fun _ bo=>?_)
  refine WG.rn [0,1,2,3,4,5] bo [1] rfl rfl ?_
  refine WG.tk 6 rfl (by kernel_rfl) rfl rfl rfl bo (fun w_ hs_=>(bP.idxK (3) ae aa rfl rfl rfl ?_ ?_ ?_)) ?_
  · exact bN.some_ (bN.ofOwn U ((hs_:St _ _ _ _).ow O))
  · first | omega | (have J:=I (by assumption);omega)
  · first | omega | (have J:=I (by assumption);omega)
  refine WG.tk 7 rfl (by kernel_rfl) rfl rfl rfl bo (fun w_ hs_=>(bP.load ac rfl rfl (bN.one1 (bN.ofOwn U ((hs_:St _ _ _ _).ow O)) ?_ rfl))) ?_
  · first | omega | (have J:=I (by assumption);omega)
  refine WG.rn [8,9,10] bo [] rfl rfl (WG.oK rfl (WL.st bX bo 1 rfl rfl (fun _ c6=>WL.nil ⟨(c6.fb b_c).d1,WH.dn (gc _ _ (WC.sr (WL.r 5 c6 [] rfl ?_)))⟩)))
  refine WL.st bX c6 1 rfl rfl (fun _ d8=>WL.nil (WC.sr (WL.r 1 d8 [2] rfl (WL.st bX d8 3 rfl rfl (fun _ d9=>WL.nil (WC.ret (cO rfl (cb.cellA bX d9 3 rfl rfl rfl rfl) ?_)))))))
  obtain ⟨hC,hD,hE,hF,hG,hH,gm,ea,ec,el,em,es,et⟩:=dH.op d9 ga
  have gs:=((((gm.fb b2).fb aB).fb b_c).fb d6)
  obtain ⟨eA,gL,g0⟩:=dE.fl gs ea ec el em es et
  have g1:=((((gL.fb b2).fb aB).fb b_c).fb d6)
  refine ⟨_,_,⟨_,_,_,_,_,_,⟨⟨E.P.State,E.P.Mark,db.of ea,db.of ec⟩,⟨E.S.W,E.S.H,⟨E.S.Main.W,E.S.Main.H,db.of el⟩,⟨E.S.Alt.W,E.S.Alt.H,db.of em⟩,E.S.OnAlt,E.S.X,E.S.Y,E.S.Wrap,⟨E.S.A.Fg,E.S.A.Bg,E.S.A.Bold,E.S.A.Under,E.S.A.Turn⟩,E.S.Top,E.S.Bot,E.S.NoWrap,E.S.Hide,E.S.SaveX,E.S.SaveY,⟨E.S.SaveA.Fg,E.S.SaveA.Bg,E.S.SaveA.Bold,E.S.SaveA.Under,E.S.SaveA.Turn⟩,db.of es,E.S.Limit,db.ofN et⟩⟩⟩,_,rfl,St.keepP (L1:=eA) ((g1.fr eA).fb b_c),(by exact g0),?_,?_,by omega⟩
  · rw [ba];exact eF.ext' rfl rfl rfl rfl rfl rfl (gb.trans (congrArg fw a2))
  · rw [ba];show _=(if dB (ko s N (bO cf (co s (4:Int).toNat (bV M bad22)).1 3))=true then some (N+(bO cf (co s (4:Int).toNat (bV M bad22)).1 3)) else none);rw [← a2];cases dB _<;>rfl
 refine WL.al Z aZ rfl rfl (fun e0 _ c7=>WL.nil ⟨c7.d1,WG.o1 17 rfl rfl ?_⟩)
 refine WL.x2 c7 Tryz.call78 rfl (BR _ _ _ _ _ (bN.cutC (lo:=N.toNat) (hi:=(N+(bO cf (co s (4:Int).toNat (bV M bad22)).1 3)).toNat) (bN.st f_s c7 s_s) (by refine ⟨?_,?_,?_⟩<;>(omega))) (by first | assumption | omega | simp) ?_) (fun _ G b7 h_ bx=>?_)
 · first | assumption | rfl | omega | (have J:=a2;omega)
 obtain ⟨g2,g3⟩:=h_
 replace bx:=St.back [_,_,_,_] bx
 refine WL.nil ⟨(bx.d1.rm b7),WG.rn [18,19,20] (bx.d1.rm b7) [] rfl rfl (WG.oK rfl (WL.st bX bx 0 rfl rfl (fun _ b8=>WL.nil ⟨(b8.d1.rm b7),WH.rn [23] (b8.d1.rm b7) [] rfl rfl (WH.dn (d5 _ _ ?_))⟩)))⟩
 refine WC.sr (WL.r 2 b8 [0] rfl (WL.st bX b8 2 rfl rfl (fun _ c8=>WL.nil (WC.seq (fun hK g4=>WC.rG 11 (c8.fb b_c).d1 c8 c8 (fun _ b0=>?_))))))
 refine WG.rn [0,1,2,3,4,5] b0 [1] rfl rfl ?_
 refine WG.tk 6 rfl (by kernel_rfl) rfl rfl rfl b0 (fun w_ hs_=>(bP.idxK (3) ae aa rfl rfl rfl ?_ ?_ ?_)) ?_
 · exact bN.some_ (bN.ofOwn U ((hs_:St _ _ _ _).ow O))
 · first | omega | (have J:=I (by assumption);omega)
 · first | omega | (have J:=I (by assumption);omega)
 refine WG.tk 7 rfl (by kernel_rfl) rfl rfl rfl b0 (fun w_ hs_=>(bP.load ac rfl rfl (bN.one1 (bN.ofOwn U ((hs_:St _ _ _ _).ow O)) ?_ rfl))) ?_
 · first | omega | (have J:=I (by assumption);omega)
 refine WG.rn [8,9,10] b0 [] rfl rfl (WG.oK rfl (WL.st bX b0 1 rfl rfl (fun _ c9=>WL.nil ⟨(c9.fb b_c).d1,WH.dn (g4 _ _ (WC.sr (WL.r 5 c9 [] rfl ?_)))⟩)))
 refine WL.st bX c9 1 rfl rfl (fun _ e1=>WL.nil (WC.sr (WL.r 1 e1 [2] rfl (WL.st bX e1 3 rfl rfl (fun _ e2=>WL.nil (WC.ret (cO rfl (cb.cellA bX e2 3 rfl rfl rfl rfl) ?_)))))))
 obtain ⟨hL,hM,hN,hP,hQ,hR,g5,e3,e4,e5,e6,e7,e8⟩:=dH.op e2 g2
 have g6:=((((g5.fb b2).fb aB).fb b_c).fb e0)
 obtain ⟨e9,g7,g8⟩:=dE.fl g6 e3 e4 e5 e6 e7 e8
 have g9:=((((g7.fb b2).fb aB).fb b_c).fb e0)
 refine ⟨_,_,⟨_,_,_,_,_,_,⟨⟨G.P.State,G.P.Mark,db.of e3,db.of e4⟩,⟨G.S.W,G.S.H,⟨G.S.Main.W,G.S.Main.H,db.of e5⟩,⟨G.S.Alt.W,G.S.Alt.H,db.of e6⟩,G.S.OnAlt,G.S.X,G.S.Y,G.S.Wrap,⟨G.S.A.Fg,G.S.A.Bg,G.S.A.Bold,G.S.A.Under,G.S.A.Turn⟩,G.S.Top,G.S.Bot,G.S.NoWrap,G.S.Hide,G.S.SaveX,G.S.SaveY,⟨G.S.SaveA.Fg,G.S.SaveA.Bg,G.S.SaveA.Bold,G.S.SaveA.Under,G.S.SaveA.Turn⟩,db.of e7,G.S.Limit,db.ofN e8⟩⟩⟩,_,rfl,St.keepP (L1:=e9) ((g9.fr e9).fb b_c),(by exact g8),?_,?_,by omega⟩
 · rw [ba];exact eF.ext' rfl rfl rfl rfl rfl rfl (g3.trans (congrArg fw a2))
 · rw [ba];show _=(if dB (ko s N (bO cf (co s (4:Int).toNat (bV M bad22)).1 3))=true then some (N+(bO cf (co s (4:Int).toNat (bV M bad22)).1 3)) else none);rw [← a2];cases dB _<;>rfl
theorem wQ (x0:Int):Tryz.prog.built 62 [(0,.int .i64 x0)]=some (List.toArray [.int .i64 x0,.string ⟨#[]⟩,.slice none 0 0,.int .i64 0,.bool false]):=by kernel_rfl
theorem sd (x0:Int) (x1:Int) (x2:Bool):Tryz.prog.built 119 [(0,.int .i64 x0),(2,.int .i64 x1),(1,.bool x2)]=some (List.toArray [.int .i64 x0,.bool x2,.int .i64 x1]):=by kernel_rfl
set_option maxHeartbeats 4000000 in
theorem Ej (b_c:Nat) (A_s:Option Addr) (n_s c_s:Nat) (s:List UInt8) (q:Int) (bad:Bool) (w:World) (hc:w.heap[b_c]? = some (Obj.cells (List.toArray [.slice A_s n_s c_s,i64 (q),.bool (bad)]) 65 (0,0))) (f_s:bN cj w A_s n_s s) (s_s:0<n_s→(eq A_s).block∉[b_c]) (hn:n_s≤1099511627776) (hcp:n_s≤c_s) (hq:0≤q∧q≤n_s) (hnb:n_s≤1048576) :
    Calls Tryz.prog 28 #[.pointer (some ⟨b_c,0,none⟩)] w fun e w'=>∃ q' bad' r L1,e = .returned (.agg (nU r).toArray)∧St w [b_c] ((b_c,Obj.cells (List.toArray [.slice A_s n_s c_s,i64 (q'),.bool (bad')]) 65 (0,0))::L1) w'∧gH r L1∧r.dat=(lv s (bV q bad)).1∧bV q' bad'=(lv s (bV q bad)).2∧(0≤q'∧q'≤n_s):=by
 have hl:=f_s.len
 have e0:=ej s q
 have e1:=fq s q
 refine enter 49 Tryz.func28 rfl Tryz.ntmps28 rfl rfl ?_
 have d4:=St.take1 w b_c _ hc
 refine WC.sr (WL.al d4 aJ rfl rfl (fun b2 _ ad=>WL.nil (WC.sr (WL.r 1 ad [] rfl ?_))))
 replace ad:=(ad.fb b_c)
 have b0:St _ _ ([(b_c,_)]++_) _:=ad
 refine WL.call rfl rfl rfl (bP.call Tryz.call26 rfl rfl rfl) (jr _ _ _ _ _ _ _ _ (b0.own _ List.mem_cons_self).1 (bN.st f_s ad s_s) (St.sepT b0 f_s s_s) ?_ ?_ ?_) ?_
 · omega
 · first | assumption | exact bS.cap (by assumption) | omega
 · omega
 rintro _ e2 ⟨q5,bad6,rfl,b1,hst7,e4⟩
 replace b1:=St.lend b0 b1
 refine ⟨_,rfl,?_⟩
 refine WL.val rfl rfl rfl (bP.build rfl rfl rfl rfl (wQ _)) (WL.al b1 aJ rfl rfl (fun a7 _ d5=>WL.st bX d5 0 rfl rfl (fun _ aB=>WL.nil (WC.sr (WL.r 1 aB [] rfl ?_)))))
 replace aB:=(aB.fb b_c)
 have b3:St _ _ ([(b_c,_)]++_) _:=aB
 refine WL.call rfl rfl rfl (bP.call Tryz.call29 rfl rfl rfl) (uu _ _ _ _ _ _ _ _ (b3.own _ List.mem_cons_self).1 (bN.st f_s aB s_s) (St.sepT b3 f_s s_s) ?_ ?_ ?_) ?_
 · omega
 · first | assumption | exact bS.cap (by assumption) | omega
 · omega
 rintro _ e5 ⟨I,bad15,rfl,a8,hst16,fd⟩
 replace a8:=St.lend b3 a8
 refine ⟨_,rfl,WL.r 1 a8 [] rfl (WL.st bX a8 1 rfl rfl (fun _ b4=>WL.nil (WC.seq (fun fg d6=>WC.sr (WL.r 1 b4 [] rfl ?_)))))⟩
 have b5:St _ _ ([(b_c,_)]++_) _:=b4
 refine WL.call rfl rfl rfl (bP.call Tryz.call26 rfl rfl rfl) (jr _ _ _ _ _ _ _ _ (b5.own _ List.mem_cons_self).1 (bN.st f_s b4 s_s) (St.sepT b5 f_s s_s) ?_ ?_ ?_) ?_
 · omega
 · first | assumption | exact bS.cap (by assumption) | omega
 · omega
 rintro _ fl ⟨ba,bad23,rfl,bb,hst24,fo⟩
 replace bb:=St.lend b5 bb
 refine ⟨_,rfl,?_⟩
 have f1:=fW s (bV I bad15)
 refine WL.r 1 bb [] rfl (WL.nil (WC.block ?_))
 have d7:=(St.grp1 (L1:=([]:Hp)) [_,_] ((((bb.fb b2).fr ([]:Hp)).fb b_c).fb a7))
 refine WC.lV [0,2,3] rfl d7 (fun k_ (a_:Hp) f=>∃ (i:Nat) (q1:Int) (bd:Bool) (zs:List cn) (v:dd) (E:Hp),k_=(rdN s (bV I bad15)).toNat-i∧a_=[(a7,.cells (List.toArray (nU v)) 62 (0,0)),(b_c,.cells (List.toArray [.slice A_s n_s c_s,i64 q1,.bool bd]) 65 (0,0))]++E∧(i≤(rdN s (bV I bad15)).toNat)∧(0≤q1∧q1≤n_s)∧(zs.length=i)∧(fk (kK s) (rdN s (bV I bad15)).toNat (bV ba bad23)=(zs++(fk (kK s) ((rdN s (bV I bad15)).toNat-i) (bV q1 bd)).1,(fk (kK s) ((rdN s (bV I bad15)).toNat-i) (bV q1 bd)).2))∧(v.dat=(⟨rdN s (bV q bad),gX s (bV q5 bad6),zs,0,false⟩:dZ))∧gH v E∧cC [(4,.int .i64 ((rdN s (bV I bad15))-(i:Int)))] f) (((fun (i:Nat) (q1:Int) (bd:Bool) (zs:List cn)=>(rdN s (bV I bad15)).toNat-i) (0) (ba) (bad23) ([]))) ?_ ?_
 ·refine ⟨0,ba,bad23,[],⟨_,_,⟨none,0,0,[]⟩,0,false⟩,([]:Hp),rfl,rfl,?_,?_,?_,?_,?_,(bS.nil _ _),⟨?_,trivial⟩⟩
  · exact Nat.zero_le _
  · omega
  · rfl
  · rfl
  · rfl
  · (refine congrArg some (congrArg (Value.int _) ?_);omega)
 rintro _ _ f w ⟨i,q1,bd,zs,v,E,rfl,rfl,p0,p1,p2,p3,J,b6,hG⟩ hF b7
 refine WC.sub _ (hG.app hF) ?_
 clear hG hF
 replace b7:=St.ungrp1 [_,_] b7
 have G:=(((b7.fb b2).fb b_c).fb a7)
 have f4:v.Tree.xs.length=i:=by have M:=congrArg (fun d=>d.Tree.length) J;exact M.trans p2
 refine WC.seq (fun f5 d9=>WC.sr (WL.r 3 G [] rfl (WL.pA bX 5 bU.nil G [1] rfl rfl rfl rfl (fun g_=>⟨rfl,trivial⟩) (WL.nil ?_))))
 refine WC.cq rfl (fun bc ea=>?_) (fun bc ea=>?_)
 ·have c8:bd=false:=by have N:=bc;simp at N;exact N.2
  have ga:i<(rdN s (bV I bad15)).toNat:=by have N:=bc;simp at N;omega
  refine WC.skip (d9 _ _ (WC.seq (fun gb ec=>WC.block (WC.sr (WL.r 1 G [] rfl ?_)))))
  replace G:=(G.fb b_c)
  have b8:St _ _ ([(b_c,_)]++_) _:=G
  refine WL.call rfl rfl rfl (bP.call Tryz.call26 rfl rfl rfl) (jr _ _ _ _ _ _ _ _ (b8.own _ List.mem_cons_self).1 (bN.st f_s G s_s) (St.sepT b8 f_s s_s) ?_ ?_ ?_) ?_
  · omega
  · first | assumption | exact bS.cap (by assumption) | omega
  · omega
  rintro _ gc ⟨el,bad40,rfl,O,hst41,gm⟩
  replace O:=St.lend b8 O
  refine ⟨_,rfl,WL.r 1 O [] rfl (WL.nil (WC.sr (WL.r 1 O [] rfl ?_)))⟩
  have b9:St _ _ ([(b_c,_)]++_) _:=O
  refine WL.call rfl rfl rfl (bP.call Tryz.call26 rfl rfl rfl) (jr _ _ _ _ _ _ _ _ (b9.own _ List.mem_cons_self).1 (bN.st f_s O s_s) (St.sepT b9 f_s s_s) ?_ ?_ ?_) ?_
  · omega
  · first | assumption | exact bS.cap (by assumption) | omega
  · omega
  rintro _ gs ⟨em,bad46,rfl,U,hst47,gL⟩
  replace U:=St.lend b9 U
  refine ⟨_,rfl,WL.r 1 U [] rfl (WL.nil (WC.rG 11 (U.d1.d1.rm E) (U.d1.rm E) U (fun _ ck=>?_)))⟩
  refine WG.rn [0,1,2,3,4] (ck.d1.rm E) [0] rfl rfl (WG.o1 5 rfl rfl ?_)
  have cD:St _ _ ([(b_c,_)]++_) _:=ck
  refine WL.call rfl rfl rfl (bP.call Tryz.call26 rfl rfl rfl) (jr _ _ _ _ _ _ _ _ (cD.own _ List.mem_cons_self).1 (bN.st f_s ck s_s) (St.sepT cD f_s s_s) ?_ ?_ ?_) ?_
  · omega
  · first | assumption | exact bS.cap (by assumption) | omega
  · omega
  rintro _ gO ⟨c9,bad53,rfl,V,hst54,g0⟩
  replace V:=St.lend cD V
  refine ⟨_,rfl,WL.nil ⟨(V.d1.rm E),WG.rn [6] (V.d1.rm E) [] rfl rfl ?_⟩⟩
  refine WG.tk 7 rfl (by kernel_rfl) rfl rfl rfl (V.d1.rm E) (fun w_ hs_=>(bP.build rfl rfl rfl rfl (sd _ _ _))) ?_
  refine WG.o1 8 rfl rfl (WL.buildSlice V ay aq aU rfl rfl rfl rfl rfl rfl rfl rfl rfl rfl (fun g1 g2 cN=>WL.nil ⟨(cN.d1.d1.rm E),WG.o1 9 rfl rfl ?_⟩))
  refine WL.appendG (cN.fr E) b6 (kF (F:=cc) (ys:=[(⟨rdN s (bV q1 bd),decide (rdN s (bV em bad46)=1),rdN s (bV el bad40)⟩:cn)]) bJ rfl rfl (cN.own _ (cH (i:=0) rfl)).1) bJ zd rfl rfl rfl rfl rfl rfl rfl rfl rfl rfl ?_ (fun g3 g4 Z g5 a1 dj=>?_)
  · (try simp only [List.length_append,List.length_singleton]);omega
  replace a1:=St.back [_,_,_,_] a1
  refine WL.nil ⟨(a1.d1.d1.rm Z),WG.rn [10] (a1.d1.d1.rm Z) [] rfl rfl (WG.oK rfl (WL.st bX a1 2 rfl rfl (fun _ a2=>WL.nil ⟨(a2.d1.d1.d1.rm Z),WH.dn (ec _ _ (WC.region ?_))⟩)))⟩
  refine WL.r 3 a2 [] rfl (WL.nil (cQ ?_))
  replace a2:=a2.d1
  have es:=(St.grp1 (L1:=Z) [_,_] ((((a2.fb b2).fr Z).fb b_c).fb a7))
  refine ⟨cR rfl,_,es,_,?_,i+1,c9,bad53,(zs++[(kK s (bV q1 bd)).1]),⟨v.Id,v.Name,db.of dj,v.Active,v.Zoom⟩,Z,rfl,rfl,?_,?_,?_,?_,?_,dj,⟨?_,trivial⟩⟩
  · omega
  · omega
  · omega
  · simp only [List.length_append,List.length_singleton];omega
  · have e3:(kK s (bV q1 bd)).2=(bV c9 bad53):=by show cE s (cE s (cE s (bV q1 bd)))=_;rw [← hst41,← hst47,← hst54]
    rw [p3,c8,nK (by omega),← c8,e3,List.append_assoc];rfl
  · have e6:v.Id=rdN s (bV q bad):=congrArg dZ.Id J
    have e7:v.Name=gX s (bV q5 bad6):=congrArg dZ.Name J
    have e8:v.Tree.xs=zs:=congrArg dZ.Tree J
    have M:v.Active=0:=congrArg dZ.Active J
    have ds:v.Zoom=false:=congrArg dZ.Zoom J
    refine dZ.ext' e6 e7 ?_ M ds
    show v.Tree.xs++[_]=zs++[_]
    rw [e8]
    refine congrArg (fun x=>zs++[x]) ?_
    show _=(⟨rdN s (bV q1 bd),decide (rdN s (cE s (cE s (bV q1 bd)))=1),rdN s (cE s (bV q1 bd))⟩:cn)
    rw [← hst41,← hst47]
  · (refine congrArg some (congrArg (Value.int _) ?_);omega)
 have eA:(rdN s (bV I bad15)).toNat≤i∨bd=true:=by
   have N:=bc;cases bd with
   | true=>exact .inr rfl
   | false=>simp at N;left;omega
 have hT:pG s (bV q bad)=(zs,bV q1 bd):=by
   have M:pG s (bV q bad)=fk (kK s) (rdN s (bV I bad15)).toNat (bV ba bad23):=by unfold pG qT;rw [← hst7,← hst16,← hst24]
   rw [M,p3,ns eA];simp
 refine WC.exit (d6 _ _ (WC.sr (WL.r 1 G [] rfl ?_)))
 replace G:=(G.fb b_c)
 have c3:St _ _ ([(b_c,_)]++_) _:=G
 refine WL.call rfl rfl rfl (bP.call Tryz.call26 rfl rfl rfl) (jr _ _ _ _ _ _ _ _ (c3.own _ List.mem_cons_self).1 (bN.st f_s G s_s) (St.sepT c3 f_s s_s) ?_ ?_ ?_) ?_
 · omega
 · first | assumption | exact bS.cap (by assumption) | omega
 · omega
 rintro _ g6 ⟨a6,bad68,rfl,bg,hst69,g7⟩
 replace bg:=St.lend c3 bg
 refine ⟨_,rfl,WL.r 1 bg [] rfl (WL.st bX bg 1 rfl rfl (fun _ c4=>WL.nil (WC.sr (WL.r 1 c4 [] rfl ?_))))⟩
 have c5:St _ _ ([(b_c,_)]++_) _:=c4
 refine WL.call rfl rfl rfl (bP.call Tryz.call26 rfl rfl rfl) (jr _ _ _ _ _ _ _ _ (c5.own _ List.mem_cons_self).1 (bN.st f_s c4 s_s) (St.sepT c5 f_s s_s) ?_ ?_ ?_) ?_
 · omega
 · first | assumption | exact bS.cap (by assumption) | omega
 · omega
 rintro _ g8 ⟨g9,bad75,rfl,bo,hst76,ha⟩
 replace bo:=St.lend c5 bo
 refine ⟨_,rfl,WL.r 2 bo [] rfl (WL.st bX bo 1 rfl rfl (fun _ d2=>WL.nil (WC.sr (WL.r 1 d2 [1] rfl (WL.st bX d2 2 rfl rfl (fun _ d3=>WL.nil ?_))))))⟩
 refine WC.ret (cO rfl (cb.cellA bX d3 2 rfl rfl rfl rfl) (⟨_,_,⟨v.Id,v.Name,db.of b6,rdN s (bV q1 bd),decide (rdN s (bV a6 bad68)=1)⟩,_,rfl,St.keepP (L1:=E) ((d3.fr E).fb b_c),b6,?_,?_,by omega⟩))
 · (have hw:lv s (bV q bad)=(⟨rdN s (bV q bad),gX s (bV q5 bad6),zs,rdN s (bV q1 bd),decide (rdN s (bV a6 bad68)=1)⟩,cE s (bV a6 bad68)):=by unfold lv ue;rw [hT,← hst7];dsimp only;rw [← hst69]
    have e6:v.Id=rdN s (bV q bad):=congrArg dZ.Id J
    have e7:v.Name=gX s (bV q5 bad6):=congrArg dZ.Name J
    have e8:v.Tree.xs=zs:=congrArg dZ.Tree J
    have M:v.Active=0:=congrArg dZ.Active J
    have ds:v.Zoom=false:=congrArg dZ.Zoom J
    rw [hw];exact dZ.ext' e6 e7 e8 rfl rfl)
 · (have hw:lv s (bV q bad)=(⟨rdN s (bV q bad),gX s (bV q5 bad6),zs,rdN s (bV q1 bd),decide (rdN s (bV a6 bad68)=1)⟩,cE s (bV a6 bad68)):=by unfold lv ue;rw [hT,← hst7];dsimp only;rw [← hst69]
    rw [hw];exact hst76)
theorem B6 (b:Bool) (w:World) :
    Calls Tryz.prog 85 #[.bool b] w fun e w'=>e = .returned (.int .i64 (dL b 1))∧St w [] [] w':=by
 refine enter 4 Tryz.func85 rfl Tryz.ntmps85 rfl rfl ?_
 have E:=St.init w
 refine WC.r1 E [] rfl (WC.seq (fun M I=>WC.r1 E [] rfl ?_))
 refine WC.cq rfl (fun G J=>?_) (fun G J=>?_)
 ·refine WC.r1 E [] rfl (WC.ret (cd ?_))
  clear I
  refine rtv rfl rfl E ?_
  rw [show dL b 1=1 from by unfold dL;rw [G];rfl]
 refine WC.skip (I _ _ (WC.r1 E [] rfl (WC.ret (rtv rfl rfl E ?_))))
 rw [show dL b 1=0 from by unfold dL;rw [G];rfl]
set_option maxHeartbeats 8000000 in
theorem EE (s:cu) (w:World) (f_s:cI 549755813888 w s) (hT:jY s.dat) :
    Calls Tryz.prog 30 #[.agg (eH s).toArray] w fun e w'=>∃ A c L1,e = .returned (.tuple #[.slice A (dT s.dat).length c,.bool (dF s.dat)])∧St w [] L1 w'∧bS cj 5 (.slice A (dT s.dat).length c) (dT s.dat) L1:=by
 have k6:=f_s.Panes_n
 have gO:=f_s.Panes.sl.len
 have la:=f_s.Wins_n
 have g0:=f_s.Wins.sl.len
 have lm:=f_s.Sess_n
 have g1:=f_s.Sess.sl.len
 have cD:eE 1048576 s.dat:=hT.1
 have g2:s.dat.Panes.length=s.Panes.xs.length:=List.length_map _
 have g3:s.dat.Wins.length=s.Wins.xs.length:=List.length_map _
 have g4:s.dat.Sess.length=s.Sess.xs.length:=List.length_map _
 have lt:s.dat.Panes.length≤1048576:=cD.1
 have lS:s.dat.Wins.length≤1048576:=cD.2.2.1
 have lV:s.dat.Sess.length≤1048576:=cD.2.2.2.2.1
 refine enter 184 Tryz.func30 rfl Tryz.ntmps30 rfl rfl ?_
 have g5:=St.init w
 refine WC.sr (WL.bx g5 rfl (fun b2 _ cN=>WL.r 2 cN [] rfl (WL.nil (WC.seq (fun K4 eO=>WC.sr (WL.r 1 cN [0] rfl ?_))))))
 refine WL.c0 cN Tryz.call80 rfl (EU s _ (cI.st0 f_s cN) ?_) (fun _ b7=>?_)
 · first | assumption | rfl | omega
 refine WL.r 1 b7 [] rfl (WL.nil (WC.cq rfl (fun h6 g6=>?_) (fun h6 g6=>?_)))
 ·have M:dF s.dat=false:=by have E:=h6;unfold dF;rw [show fc s.dat=false by simpa using E];rfl
  refine WC.r1 b7 [] rfl (WC.ret (cd ?_))
  clear eO
  refine di rfl (cb.tmp rfl) (cb.tmp rfl) ?_
  rw [M]
  have a1:=bS.eqOf (xs:=dT s.dat) (bS.nil cj 5) (by simp [dT,M])
  rw [← a1]
  exact ⟨_,_,_,rfl,b7.nil,(bS.nil cj 5)⟩
 have I:fc s.dat=true:=by have E:=h6;simpa using E
 have g7:=pn I
 have l2:=j0 I
 have m1:((1≤s.W∧s.W≤120)∧(1≤s.H∧s.H≤120))∧(0≤s.Limit∧s.Limit≤100)∧(1≤s.Next∧s.Next≤1000000):=g7
 have g8:=nB I s.Panes.n
 rw [List.take_of_length_le (by omega)] at g8
 have g9:=oT I s.Wins.n
 rw [List.take_of_length_le (by omega)] at g9
 have hc:=oN I s.Sess.n
 rw [List.take_of_length_le (by omega)] at hc
 have hd:=dM (l:=[s.W,s.H,s.Limit,s.Next,(s.Panes.n:Int)]) (fun x hx=>by simp only [List.mem_cons,List.not_mem_nil,or_false] at hx;omega)
 simp only [List.length_cons,List.length_nil] at hd
 have m2:=cS ((s.Wins.n:Int)).toNat (by omega)
 have m3:=cS ((s.Sess.n:Int)).toNat (by omega)
 refine WC.skip (eO _ _ (WC.sr (WL.r 11 b7 [0,0,0,0,0] rfl (WL.buildF (F:=cf) b7 ([s.W,s.H,s.Limit,s.Next,(s.Panes.n:Int)]) ae aa an rfl rfl rfl rfl rfl rfl rfl rfl rfl rfl rfl rfl (fun m4 m5 L7 m6 c1 he=>?_)))))
 replace c1:=St.back [_] c1
 refine WL.cl Tryz.call81 rfl (te _ _ _ _ _ _ _ _ (bS.nil _ _) (by simp) (bN.ofOwn he (c1.ow L7)) od ?_ ?_) ?_
 · first | exact ba | (intro x hx;simp only [List.mem_cons,List.not_mem_nil,or_false] at hx;omega) | assumption | omega
 · first | omega | (simp only [List.length_append,List.length_nil,List.length_cons,Int.toNat_natCast] at *;omega) | assumption
 rintro _ m7 ⟨m8,n1,hg,rfl,V,hh⟩
 replace V:=St.lend (A:=[]) c1 V
 refine ⟨_,rfl,?_⟩
 replace V:=St.back [_] V
 refine WL.r 1 V [] rfl (WL.nil (WC.seq (fun n2 e0=>WC.r1 V [0] rfl (WC.block ?_))))
 refine WC.lO [1,17,32,33] rfl (V.fr hg) (fun k_ f L_=>∃ (zs:List UInt8) (i:Nat) (c7:Option Addr) (c8:Nat),k_=s.Panes.n-i∧(i≤s.Panes.n)∧(zs=[]++cm [s.W,s.H,s.Limit,s.Next,(s.Panes.n:Int)]++((s.Panes.xs.take (i)).map cr.dat).flatMap eB)∧((og ((s.Panes.xs.take (i)).map cr.dat))=true)∧bS cj 5 (.slice c7 (zs.length) c8) (zs) L_∧cC [(4,.slice c7 (zs.length) c8),(34,.int .i64 i)] f) (s.Panes.n) ?_ ?_
 ·refine ⟨[]++cm [s.W,s.H,s.Limit,s.Next,(s.Panes.n:Int)],0,_,_,rfl,?_,?_,?_,hh,⟨rfl,rfl,trivial⟩⟩
  · exact Nat.zero_le _
  · simp
  · rfl
 clear V
 rintro _ f w c9 ⟨zs,i,c7,c8,rfl,p0,p1,p2,e2,hG⟩ hF N
 refine WC.sub _ (hG.app hF) ?_
 clear hG hF
 replace N:=St.back [_] N
 have n4:zs.length≤1100000:=by
   rw [p1]
   have q7:=nB I i
   simp only [List.length_append,List.length_nil]
   omega
 refine WC.r1 N [] rfl (WC.seq (fun n5 hj=>?_))
 refine WC.cq rfl (fun hk hl=>?_) (fun hk hl=>?_)
 ·have hm:=lC I (p:=(bO bW s.Panes.xs i).dat) (List.mem_map_of_mem (dg (by omega)))
  have ho:fY 1048576 (bO bW s.Panes.xs i).dat:=cD.2.1 _ (List.mem_map_of_mem (dg (by omega)))
  have hb:(1≤(bO bW s.Panes.xs i).Id∧(bO bW s.Panes.xs i).Id≤1000000)∧(bO bW s.Panes.xs i).Cmd.size≤60∧(bO bW s.Panes.xs i).Dir.size≤60∧eR (bO bW s.Panes.xs i).Term.dat=true∧(1≤(bO bW s.Panes.xs i).Life∧(bO bW s.Panes.xs i).Life≤3)∧(0≤(bO bW s.Panes.xs i).Code∧(bO bW s.Panes.xs i).Code≤255)∧0≤(bO bW s.Panes.xs i).Pid∧(bO bW s.Panes.xs i).Pid≤1000000:=lu hm
  have oc:=jE (bO bW s.Panes.xs i).Term.dat
  have oi:eC 1048576 (bO bW s.Panes.xs i).Term.dat:=ho.2.2
  have y1:=cS (bO bW s.Panes.xs i).Id.toNat (by omega)
  have y2:=gP (s:=(bO bW s.Panes.xs i).Cmd) (by omega)
  have y3:=gP (s:=(bO bW s.Panes.xs i).Dir) (by omega)
  have y4:=dM (l:=[(bO bW s.Panes.xs i).Life,(bO bW s.Panes.xs i).Code,(bO bW s.Panes.xs i).Pid,((df (bO bW s.Panes.xs i).Term.dat).length:Int)]) (fun x hx=>by simp only [List.mem_cons,List.not_mem_nil,or_false] at hx;omega)
  simp only [List.length_cons,List.length_nil] at y4
  refine WC.skip (hj _ _ (WC.seq (fun oj e3=>WC.block (WC.sr ?_))))
  refine WL.ix af ab rfl rfl rfl rfl rfl rfl (bN.st0 f_s.Panes.sl N) ?_
  refine WL.val rfl rfl rfl (bP.loadA aT ab rfl rfl (bN.whole (bN.st0 f_s.Panes.sl N) ?_)) ?_
  · omega
  refine WL.al N aQ rfl rfl (fun op _ hs=>WL.st bX hs 0 rfl rfl (fun _ ds=>WL.nil (WC.sr (WL.r 2 ds [0] rfl ?_))))
  refine WL.x3 ds Tryz.call82 rfl (Cl (bO bW s.Panes.xs i).Term _ (dU.st0 (cT.nth f_s.Panes (by omega)).Term ds) ?_) (fun _ oq oK e4 ht O=>?_)
  · first | assumption | rfl | omega
  replace O:=St.back [_,_] O
  refine WL.r 5 O [] rfl (WL.nil (WC.seq (fun o0 e5=>WC.r1 O [] rfl ?_)))
  refine WC.cq rfl (fun d0 hu=>?_) (fun d0 hu=>?_)
  ·have d2:dh (bO bW s.Panes.xs i).Term.dat=false:=by have E:=d0;simpa using E
   have M:dF s.dat=false:=by unfold dF;rw [zN (i:=i) (by omega) d2,Bool.and_false];rfl
   refine WC.r1 O [] rfl (WC.ret (cd (cG (cd (cd (cG (cd ?_)))))))
   clear e5 e3 e0
   refine di rfl (cb.tmp rfl) (cb.tmp rfl) ?_
   rw [M]
   have a1:=bS.eqOf (xs:=dT s.dat) (bS.nil cj 5) (by simp [dT,M])
   rw [← a1]
   exact ⟨_,_,_,rfl,O.nil,(bS.nil cj 5)⟩
  have d2:dh (bO bW s.Panes.xs i).Term.dat=true:=by have E:=d0;simpa using E
  refine WC.skip (e5 _ _ (WC.sr (WL.r 3 O [0] rfl ?_)))
  refine WL.x3 O Tryz.call83 rfl (kT _ _ _ _ _ _ (bN.ofOwn e2 (O.ow c9)) ?_ ?_ ?_) (fun _ o2 o3 e6 hv bb=>?_)
  iterate 2 first | omega | assumption
  · first | omega | (simp only [List.length_append,List.length_nil,List.length_cons,Int.toNat_natCast] at *;omega) | assumption
  replace bb:=St.back [_,_] bb
  refine WL.r 4 bb [] rfl (WL.nil (WC.sr (WL.r 3 bb [0] rfl (WL.x3 bb Tryz.call84 rfl (xi _ _ _ _ _ _ (bN.ofOwn hv (bb.ow e6)) ?_ ?_) (fun _ o4 o5 e7 hw bc=>?_)))))
  · first | omega | assumption
  · first | omega | (simp only [List.length_append,List.length_nil,List.length_cons,Int.toNat_natCast] at *;omega) | assumption
  replace bc:=St.back [_,_] bc
  refine WL.r 4 bc [] rfl (WL.nil (WC.sr (WL.r 3 bc [0] rfl (WL.x3 bc Tryz.call84 rfl (xi _ _ _ _ _ _ (bN.ofOwn hw (bc.ow e7)) ?_ ?_) (fun _ o6 ps d3 hA b8=>?_)))))
  · first | omega | assumption
  · first | omega | (simp only [List.length_append,List.length_nil,List.length_cons,Int.toNat_natCast] at *;omega) | assumption
  replace b8:=St.back [_,_] b8
  refine WL.r 4 b8 [] rfl (WL.nil (WC.sr (WL.r 9 b8 [0,0,0] rfl (WL.buildF (F:=cf) b8 ([(bO bW s.Panes.xs i).Life,(bO bW s.Panes.xs i).Code,(bO bW s.Panes.xs i).Pid,((df (bO bW s.Panes.xs i).Term.dat).length:Int)]) ae aa an rfl rfl rfl rfl rfl rfl rfl rfl rfl rfl rfl rfl (fun pA pO e8 p3 bd e9=>?_)))))
  replace bd:=St.back [_,_] bd
  refine WL.l3 (bd.fr d3) Tryz.call81 rfl (te _ _ _ _ _ _ _ _ hA (bd.ow d3) (bN.ofOwn e9 (bd.ow e8)) (bS.sep (bd.fr d3) (fun p_ hp_=>(List.mem_append_right [_,_] (List.mem_append_left _ hp_))) e9) ?_ ?_) (fun _ p4 qb hB hC bg=>?_)
  · first | exact ba | (intro x hx;simp only [List.mem_cons,List.not_mem_nil,or_false] at hx;omega) | assumption | omega
  · first | omega | (simp only [List.length_append,List.length_nil,List.length_cons,Int.toNat_natCast] at *;omega) | assumption
  replace bg:=St.back [_,_] bg
  refine WL.r 1 bg [] rfl (WL.nil (WC.region (WL.r 2 bg [] rfl (WL.appendG (bg.fr hB) hC (bN.src (bN.ofOwn ht (bg.ow e4)) ah) ah iH rfl rfl rfl rfl rfl rfl rfl rfl rfl rfl ?_ (fun qc qs hD q0 a2 hE=>?_)))))
  · first | omega | (simp only [List.length_append,List.length_nil,List.length_cons,Int.toNat_natCast] at *;omega)
  replace a2:=St.back [_,_] a2
  refine WL.r 1 a2 [] rfl (WL.nil (e3 _ _ (WC.region (WL.r 2 a2 [] rfl (WL.nil (cQ ?_))))))
  replace a2:=(((((a2.d1.rm e8).rm e7).rm e6).rm e4).rm c9)
  refine ⟨cR rfl,_,(a2.fr hD),_,?_,_,i+1,_,_,rfl,?_,?_,?_,hE,⟨rfl,rfl,trivial⟩⟩
  · omega
  · omega
  · rw [p1,jS (F:=bW) (by omega)];unfold eB;simp only [List.append_assoc,List.nil_append];try rfl
  · rw [pc (by omega),p2,d2];rfl
 have q1:i=s.Panes.n:=by omega
 have hH:zs=[]++cm [s.W,s.H,s.Limit,s.Next,(s.Panes.n:Int)]++(s.Panes.xs.map cr.dat).flatMap eB:=by rw [p1,List.take_of_length_le (by omega)]
 subst hH
 have fb:oa s.dat=true:=by rw [← p2,List.take_of_length_le (by omega)];rfl
 refine WC.exit (e0 _ _ (WC.sr (WL.r 4 N [0] rfl ?_)))
 refine WL.x3 N Tryz.call83 rfl (kT _ _ _ _ _ _ (bN.ofOwn e2 (N.ow c9)) ?_ ?_ ?_) (fun _ q2 q3 hK hL bo=>?_)
 iterate 2 first | omega | assumption
 · first | omega | (simp only [List.length_append,List.length_nil,List.length_cons,Int.toNat_natCast] at *;omega) | assumption
 replace bo:=St.back [_] bo
 refine WL.r 4 bo [] rfl (WL.nil (WC.seq (fun q4 hM=>WC.r1 bo [0] rfl (WC.block ?_))))
 refine WC.lO [1,17,35,91,92] rfl (bo.fr hK) (fun k_ f L_=>∃ (ys:List UInt8) (j:Nat) (d4:Option Addr) (d5:Nat),k_=s.Wins.n-j∧(j≤s.Wins.n)∧(ys=[]++cm [s.W,s.H,s.Limit,s.Next,(s.Panes.n:Int)]++(s.Panes.xs.map cr.dat).flatMap eB++cg ((s.Wins.n:Int)).toNat++((s.Wins.xs.take (j)).map dd.dat).flatMap fV)∧bS cj 5 (.slice d4 (ys.length) d5) (ys) L_∧cC [(4,.slice d4 (ys.length) d5),(93,.int .i64 j)] f) (s.Wins.n) ?_ ?_
 ·refine ⟨[]++cm [s.W,s.H,s.Limit,s.Next,(s.Panes.n:Int)]++(s.Panes.xs.map cr.dat).flatMap eB++cg ((s.Wins.n:Int)).toNat,0,_,_,rfl,?_,?_,hL,⟨rfl,rfl,trivial⟩⟩
  · exact Nat.zero_le _
  · simp
 clear bo
 rintro _ f w d6 ⟨ys,j,d4,d5,rfl,r0,r1,fd,hG⟩ hF U
 refine WC.sub _ (hG.app hF) ?_
 clear hG hF
 replace U:=St.back [_] U
 have q6:ys.length≤1200000:=by
   rw [r1]
   have q7:=oT I j
   simp only [List.length_append,List.length_nil]
   omega
 refine WC.r1 U [] rfl (WC.seq (fun q8 hN=>?_))
 refine WC.cq rfl (fun hP hQ=>?_) (fun hP hQ=>?_)
 ·have hR:((1≤(bO bY s.Wins.xs j).Id∧(bO bY s.Wins.xs j).Id≤1000000)∧eV (bO bY s.Wins.xs j).Name=true∧ee (bO bY s.Wins.xs j).Tree.xs=true∧cW (dt (bO bY s.Wins.xs j).Tree.xs) (bO bY s.Wins.xs j).Active=true):=by have E:=mF I (w:=(bO bY s.Wins.xs j).dat) (List.mem_map_of_mem (dg (by omega)));exact ⟨E.1,E.2.1,kw E.2.2.1,E.2.2.2⟩
  obtain ⟨hwi,hwm,hwt,hwc⟩:=hR
  have q9:=gE hwt
  have h0:=gZ hwm
  have hV:=(cT.nth f_s.Wins (show j<s.Wins.n by omega)).Tree.len
  have y1:=cS (bO bY s.Wins.xs j).Id.toNat (by omega)
  have y2:=gP (s:=(bO bY s.Wins.xs j).Name) (by omega)
  have y3:=cS (((bO bY s.Wins.xs j).Tree.n:Int)).toNat (by omega)
  have ha:=lN hwt hwc
  have hz:=fI (b:=(bO bY s.Wins.xs j).Zoom) (k:=1) (by decide)
  have y5:=dM (l:=[(bO bY s.Wins.xs j).Active,dL (bO bY s.Wins.xs j).Zoom 1]) (fun y hy=>by simp only [List.mem_cons,List.not_mem_nil,or_false] at hy;omega)
  simp only [List.length_cons,List.length_nil] at y5
  refine WC.skip (hN _ _ (WC.seq (fun rb h2=>WC.block (WC.sr ?_))))
  refine WL.ix au am rfl rfl rfl rfl rfl rfl (bN.st0 f_s.Wins.sl U) ?_
  refine WL.val rfl rfl rfl (bP.loadA aL am rfl rfl (bN.whole (bN.st0 f_s.Wins.sl U) ?_)) ?_
  · omega
  refine WL.al U aJ rfl rfl (fun rc _ h3=>WL.st bX h3 0 rfl rfl (fun _ d7=>WL.nil (WC.sr (WL.r 3 d7 [0] rfl ?_))))
  refine WL.x3 d7 Tryz.call83 rfl (kT _ _ _ _ _ _ (bN.ofOwn fd (d7.ow d6)) ?_ ?_ ?_) (fun _ rq rr fg h4 b0=>?_)
  iterate 2 first | omega | assumption
  · first | omega | (simp only [List.length_append,List.length_nil,List.length_cons,Int.toNat_natCast] at *;omega) | assumption
  replace b0:=St.back [_,_] b0
  refine WL.r 4 b0 [] rfl (WL.nil (WC.sr (WL.r 3 b0 [0] rfl (WL.x3 b0 Tryz.call84 rfl (xi _ _ _ _ _ _ (bN.ofOwn h4 (b0.ow fg)) ?_ ?_) (fun _ rs rz fl h5 b1=>?_)))))
  · first | omega | assumption
  · first | omega | (simp only [List.length_append,List.length_nil,List.length_cons,Int.toNat_natCast] at *;omega) | assumption
  replace b1:=St.back [_,_] b1
  refine WL.r 4 b1 [] rfl (WL.nil (WC.sr (WL.r 4 b1 [0] rfl (WL.x3 b1 Tryz.call83 rfl (kT _ _ _ _ _ _ (bN.ofOwn h5 (b1.ow fl)) ?_ ?_ ?_) (fun _ rG r2 h7 h8 b3=>?_)))))
  iterate 2 first | omega | assumption
  · first | omega | (simp only [List.length_append,List.length_nil,List.length_cons,Int.toNat_natCast] at *;omega) | assumption
  replace b3:=St.back [_,_] b3
  refine WL.r 4 b3 [] rfl (WL.nil (WC.seq (fun r3 ia=>WC.r1 b3 [0] rfl (WC.block ?_))))
  refine WC.lO [1,10,17,35,91,92,93,94,95,96,97,98,99,100,101,102,104,105,106,107,108,109,111,112,113,114,115,116,117,119,120,121] rfl (b3.fr h7) (fun k_ f L_=>∃ (vs:List UInt8) (m:Nat) (d8:Option Addr) (d9:Nat),k_=(bO bY s.Wins.xs j).Tree.n-m∧(m≤(bO bY s.Wins.xs j).Tree.n)∧(vs=ys++cg (bO bY s.Wins.xs j).Id.toNat++dP (bO bY s.Wins.xs j).Name++cg (((bO bY s.Wins.xs j).Tree.n:Int)).toNat++cm (((bO bY s.Wins.xs j).Tree.xs.take m).flatMap f6))∧bS cj 5 (.slice d8 (vs.length) d9) (vs) L_∧cC [(4,.slice d8 (vs.length) d9),(122,.int .i64 m)] f) ((bO bY s.Wins.xs j).Tree.n) ?_ ?_
  ·refine ⟨ys++cg (bO bY s.Wins.xs j).Id.toNat++dP (bO bY s.Wins.xs j).Name++cg (((bO bY s.Wins.xs j).Tree.n:Int)).toNat,0,_,_,rfl,?_,?_,h8,⟨rfl,rfl,trivial⟩⟩
   · exact Nat.zero_le _
   · simp [cm]
  clear b3
  rintro _ f w G ⟨vs,m,d8,d9,rfl,v0,v1,fo,hG⟩ hF Z
  refine WC.sub _ (hG.app hF) ?_
  clear hG hF
  replace Z:=St.back [_,_] Z
  have r4:vs.length≤1250000:=by
    rw [v1]
    have q7:=dM (l:=((bO bY s.Wins.xs j).Tree.xs.take m).flatMap f6) (fun y hy=>by have:=nA (fun n hn=>iN hwt n (List.mem_of_mem_take hn)) y hy;omega)
    rw [qh,List.length_take] at q7
    simp only [List.length_append,Int.toNat_natCast] at *
    omega
  refine WC.r1 Z [] rfl (WC.seq (fun r9 ib=>?_))
  refine WC.cq rfl (fun ic ih=>?_) (fun ic ih=>?_)
  ·have sq:=ld (iN hwt (bO cc (bO bY s.Wins.xs j).Tree.xs m) (dg (by omega)))
   have sF:=fI (b:=(bO cc (bO bY s.Wins.xs j).Tree.xs m).Down) (k:=1) (by decide)
   refine WC.skip (ib _ _ (WC.seq (fun sR i0=>WC.block (WC.sr ?_))))
   refine WL.ix ay aq rfl rfl rfl rfl rfl rfl (bN.st0 (cT.nth f_s.Wins (by omega)).Tree Z) ?_
   refine WL.val rfl rfl rfl (bP.loadA aO aq rfl rfl (bN.whole (bN.st0 (cT.nth f_s.Wins (by omega)).Tree Z) ?_)) ?_
   · omega
   refine WL.al Z aU rfl rfl (fun s0 _ i1=>WL.st bX i1 0 rfl rfl (fun _ f1=>WL.nil (WC.rH (f1.rm G) f1 (fun _ f2=>?_))))
   refine WH.rn [0,1,2,3,4,5,6] (f2.rm G) [0,0,0] rfl rfl (WH.o1 7 rfl (WL.c0 f2 Tryz.call85 rfl (B6 _ _) (fun _ f3=>?_)))
   refine WL.nil ⟨(f3.rm G),WH.o1 8 rfl (WL.buildF (F:=cf) f3 ([(bO cc (bO bY s.Wins.xs j).Tree.xs m).Pane,(bO cc (bO bY s.Wins.xs j).Tree.xs m).First,dL (bO cc (bO bY s.Wins.xs j).Tree.xs m).Down 1]) ae aa an rfl rfl rfl rfl rfl rfl rfl rfl rfl rfl rfl rfl (fun s1 s2 b9 s3 a6 f4=>?_))⟩
   replace a6:=St.back [_,_,_] a6
   refine WL.nil ⟨((a6.rm b9).rm G),WH.o1 9 rfl (WL.l3 (a6.fr G) Tryz.call81 rfl (te _ _ _ _ _ _ _ _ fo (a6.ow G) (bN.ofOwn f4 (a6.ow b9)) (bS.sep (a6.fr G) (fun p_ hp_=>(List.mem_append_right [_,_,_] (List.mem_append_left _ hp_))) f4) ?_ ?_) (fun _ s4 tk ea i2 ad=>?_))⟩
   · first | exact ba | (intro x hx;simp only [List.mem_cons,List.not_mem_nil,or_false] at hx;omega) | assumption | omega
   · first | omega | (simp only [List.length_append,List.length_nil,List.length_cons,Int.toNat_natCast] at *;omega) | assumption
   replace ad:=St.back [_,_,_] ad
   refine WL.nil ⟨((ad.rm ea).rm b9),WH.rn [10] ((ad.rm ea).rm b9) [] rfl rfl (WH.dn (i0 _ _ (WC.region (WL.r 2 ad [] rfl (WL.nil (cQ ?_))))))⟩
   replace ad:=(ad.d1.rm b9)
   refine ⟨cR rfl,_,(ad.fr ea),_,?_,_,m+1,_,_,rfl,?_,?_,i2,⟨rfl,rfl,trivial⟩⟩
   · omega
   · omega
   · rw [v1,sL (by omega),kS];simp only [List.append_assoc,List.nil_append];try rfl
  have i3:vs=ys++cg (bO bY s.Wins.xs j).Id.toNat++dP (bO bY s.Wins.xs j).Name++cg (((bO bY s.Wins.xs j).Tree.n:Int)).toNat++cm ((bO bY s.Wins.xs j).Tree.xs.flatMap f6):=by rw [v1,List.take_of_length_le (by omega)]
  subst i3
  refine WC.exit (ia _ _ (WC.rH (Z.rm G) Z (fun _ f5=>?_)))
  refine WH.rn [0,1,2,3,4] (f5.rm G) [0,0] rfl rfl (WH.o1 5 rfl (WL.c0 f5 Tryz.call85 rfl (B6 _ _) (fun _ ga=>?_)))
  refine WL.nil ⟨(ga.rm G),WH.o1 6 rfl (WL.buildF (F:=cf) ga ([(bO bY s.Wins.xs j).Active,dL (bO bY s.Wins.xs j).Zoom 1]) ae aa an rfl rfl rfl rfl rfl rfl rfl rfl rfl rfl rfl rfl (fun tu tx ck t2 a7 gb=>?_))⟩
  replace a7:=St.back [_,_] a7
  refine WL.nil ⟨((a7.rm ck).rm G),WH.o1 7 rfl (WL.l3 (a7.fr G) Tryz.call81 rfl (te _ _ _ _ _ _ _ _ fo (a7.ow G) (bN.ofOwn gb (a7.ow ck)) (bS.sep (a7.fr G) (fun p_ hp_=>(List.mem_append_right [_,_] (List.mem_append_left _ hp_))) gb) ?_ ?_) (fun _ un u0 ec j1 ag=>?_))⟩
  · first | exact ba | (intro x hx;simp only [List.mem_cons,List.not_mem_nil,or_false] at hx;omega) | assumption | omega
  · first | omega | (simp only [List.length_append,List.length_nil,List.length_cons,Int.toNat_natCast] at *;omega) | assumption
  replace ag:=St.back [_,_] ag
  refine WL.nil ⟨((ag.rm ec).rm ck),WH.rn [8] ((ag.rm ec).rm ck) [] rfl rfl (WH.dn (h2 _ _ (WC.region (WL.r 2 ag [] rfl (WL.nil (cQ ?_))))))⟩
  replace ag:=((((ag.d1.rm ck).rm fl).rm fg).rm d6)
  refine ⟨cR rfl,_,(ag.fr ec),_,?_,_,j+1,_,_,rfl,?_,?_,j1,⟨rfl,rfl,trivial⟩⟩
  · omega
  · omega
  · rw [r1,jS (F:=bY) (by omega)];unfold fV;simp only [List.append_assoc,List.nil_append,Int.toNat_natCast];rw [← hV];try rfl
 have j2:ys=[]++cm [s.W,s.H,s.Limit,s.Next,(s.Panes.n:Int)]++(s.Panes.xs.map cr.dat).flatMap eB++cg ((s.Wins.n:Int)).toNat++(s.Wins.xs.map dd.dat).flatMap fV:=by rw [r1,List.take_of_length_le (by omega)]
 subst j2
 refine WC.exit (hM _ _ (WC.sr (WL.r 4 U [0] rfl ?_)))
 refine WL.x3 U Tryz.call83 rfl (kT _ _ _ _ _ _ (bN.ofOwn fd (U.ow d6)) ?_ ?_ ?_) (fun _ u4 u8 ka kb b4=>?_)
 iterate 2 first | omega | assumption
 · first | omega | (simp only [List.length_append,List.length_nil,List.length_cons,Int.toNat_natCast] at *;omega) | assumption
 replace b4:=St.back [_] b4
 refine WL.r 4 b4 [] rfl (WL.nil (WC.seq (fun vl kc=>WC.r1 b4 [0] rfl (WC.block ?_))))
 refine WC.lO [17,35,94,155,156] rfl (b4.fr ka) (fun k_ f L_=>∃ (xs:List UInt8) (k:Nat) (c3:Option Addr) (c4:Nat),k_=s.Sess.n-k∧(k≤s.Sess.n)∧(xs=[]++cm [s.W,s.H,s.Limit,s.Next,(s.Panes.n:Int)]++(s.Panes.xs.map cr.dat).flatMap eB++cg ((s.Wins.n:Int)).toNat++(s.Wins.xs.map dd.dat).flatMap fV++cg ((s.Sess.n:Int)).toNat++((s.Sess.xs.take (k)).map da.dat).flatMap iB)∧bS cj 5 (.slice c3 (xs.length) c4) (xs) L_∧cC [(4,.slice c3 (xs.length) c4),(157,.int .i64 k)] f) (s.Sess.n) ?_ ?_
 ·refine ⟨[]++cm [s.W,s.H,s.Limit,s.Next,(s.Panes.n:Int)]++(s.Panes.xs.map cr.dat).flatMap eB++cg ((s.Wins.n:Int)).toNat++(s.Wins.xs.map dd.dat).flatMap fV++cg ((s.Sess.n:Int)).toNat,0,_,_,rfl,?_,?_,kb,⟨rfl,rfl,trivial⟩⟩
  · exact Nat.zero_le _
  · simp
 clear b4
 rintro _ f w c5 ⟨xs,k,c3,c4,rfl,t0,t1,b5,hG⟩ hF J
 refine WC.sub _ (hG.app hF) ?_
 clear hG hF
 replace J:=St.back [_] J
 have vx:xs.length≤1300000:=by
   rw [t1]
   have q7:=oN I k
   simp only [List.length_append,List.length_nil]
   omega
 refine WC.r1 J [] rfl (WC.seq (fun vy kd=>?_))
 refine WC.cq rfl (fun kk ks=>?_) (fun kk ks=>?_)
 ·have gc:eV (bO ci s.Sess.xs k).Name=true∧(bO ci s.Sess.xs k).Wins.xs.length≤12∧(∀ y,y∈(bO ci s.Sess.xs k).Wins.xs→1≤y∧y≤1000000)∧1≤(bO ci s.Sess.xs k).Active∧(bO ci s.Sess.xs k).Active≤1000000:=lD I (x:=(bO ci s.Sess.xs k).dat) (List.mem_map_of_mem (dg (by omega)))
  have kt:=(cT.nth f_s.Sess (show k<s.Sess.n by omega)).Wins.len
  have h0:=gZ gc.1
  have u1:=gP (s:=(bO ci s.Sess.xs k).Name) (by omega)
  have u2:=cS (((bO ci s.Sess.xs k).Wins.n:Int)).toNat (by omega)
  have ba:∀ y,y∈(bO ci s.Sess.xs k).Wins.xs→0≤y∧y≤4294967295:=fun y hy=>by have:=gc.2.2.1 y hy;omega
  have u3:=dM (l:=(bO ci s.Sess.xs k).Wins.xs) (fun y hy=>by have:=(ba y hy).2;omega)
  rw [← kt] at u2
  simp only [Int.toNat_natCast] at u2
  refine WC.skip (kd _ _ (WC.seq (fun v8 kv=>WC.block (WC.sr ?_))))
  refine WL.ix aF ax rfl rfl rfl rfl rfl rfl (bN.st0 f_s.Sess.sl J) ?_
  refine WL.val rfl rfl rfl (bP.loadA aX ax rfl rfl (bN.whole (bN.st0 f_s.Sess.sl J) ?_)) ?_
  · omega
  refine WL.al J bi rfl rfl (fun wf _ k0=>WL.st bX k0 0 rfl rfl (fun _ em=>WL.nil (WC.sr (WL.r 3 em [0] rfl ?_))))
  refine WL.x3 em Tryz.call84 rfl (xi _ _ _ _ _ _ (bN.ofOwn b5 (em.ow c5)) ?_ ?_) (fun _ wp w2 es k1 aB=>?_)
  · first | omega | assumption
  · first | omega | (simp only [List.length_append,List.length_nil,List.length_cons,Int.toNat_natCast] at *;omega) | assumption
  replace aB:=St.back [_,_] aB
  refine WL.r 4 aB [] rfl (WL.nil (WC.sr (WL.r 3 aB [0] rfl (WL.l3 (aB.fr es) Tryz.call86 rfl (uq _ _ _ _ _ _ _ _ k1 (aB.ow es) (bN.st0 (cT.nth f_s.Sess (by omega)).Wins aB) (St.sep (aB.fr es) (cT.nth f_s.Sess (by omega)).Wins) ?_ ?_) (fun _ w3 w4 gs k2 b6=>?_)))))
  · first | exact ba | assumption | omega
  · first | omega | (simp only [List.length_append,List.length_nil,List.length_cons,Int.toNat_natCast] at *;omega) | assumption
  replace b6:=St.back [_,_] b6
  refine WL.r 1 b6 [] rfl (WL.nil (WC.region (WL.r 3 b6 [0] rfl (WL.x3 b6 Tryz.call83 rfl (kT _ _ _ _ _ _ (bN.ofOwn k2 (b6.ow gs)) ?_ ?_ ?_) (fun _ w5 w6 k3 k4 a8=>?_)))))
  iterate 2 first | omega | assumption
  · first | omega | (simp only [List.length_append,List.length_nil,List.length_cons,Int.toNat_natCast] at *;omega) | assumption
  replace a8:=St.back [_,_] a8
  refine WL.r 4 a8 [] rfl (WL.nil (kv _ _ (WC.region (WL.r 2 a8 [] rfl (WL.nil (cQ ?_))))))
  replace a8:=((a8.d1.rm gs).rm c5)
  refine ⟨cR rfl,_,(a8.fr k3),_,?_,_,k+1,_,_,rfl,?_,?_,k4,⟨rfl,rfl,trivial⟩⟩
  · omega
  · omega
  · rw [t1,jS (F:=ci) (by omega)];unfold iB;simp only [List.append_assoc,List.nil_append,Int.toNat_natCast];try rfl
 have et:xs=hO s.dat:=by
   rw [t1,List.take_of_length_le (by omega)]
   unfold hO uv
   rw [g2,g3,g4,gO,g0,g1]
   simp only [List.append_assoc,List.nil_append,Int.toNat_natCast]
   rfl
 refine WC.exit (kc _ _ (WC.seq (fun x2 gL=>WC.r1 J [] rfl ?_)))
 refine WC.cq rfl (fun eA k5=>?_) (fun eA k5=>?_)
 ·have M:dF s.dat=false:=by have E:=eA;unfold dF;rw [I,Bool.true_and,fb,← et];grind
  refine WC.r1 J [] rfl (WC.ret (cd ?_))
  clear gL
  refine di rfl (cb.tmp rfl) (cb.tmp rfl) ?_
  rw [M]
  have a1:=bS.eqOf (xs:=dT s.dat) (bS.nil cj 5) (by simp [dT,M])
  rw [← a1]
  exact ⟨_,_,_,rfl,J.nil,(bS.nil cj 5)⟩
 have M:dF s.dat=true:=by have E:=eA;unfold dF;rw [I,Bool.true_and,fb,← et];grind
 refine WC.skip (gL _ _ (WC.r1 J [] rfl (WC.ret (di rfl (cb.tmp rfl) (cb.tmp rfl) ?_))))
 rw [M]
 have a1:=bS.eqOf (xs:=dT s.dat) b5 (by unfold dT;rw [M,et];rfl)
 rw [← a1]
 first | exact ⟨_,_,_,rfl,(St.keep1 (J.fr c5)),b5⟩ | exact ⟨c3,c4,_,by rw [bS.len_ b5],(St.keep1 (J.fr c5)),by rw [bS.len_ b5];exact b5⟩
theorem xg (x0:ByteArray):Tryz.prog.built 72 [(0,.string x0)]=some (List.toArray [.string x0,.slice none 0 0,.int .i64 0]):=by kernel_rfl
set_option maxHeartbeats 8000000 in
theorem EH (A_s:Option Addr) (n_s c_s:Nat) (s:List UInt8) (w:World) (f_s:bN cj w A_s n_s s) (hc:n_s≤c_s) (hn:n_s≤1048576) :
    Calls Tryz.prog 6 #[.slice A_s n_s c_s] w fun e w'=>∃ r L1,e = .returned (.tuple #[.agg (eH r).toArray,.bool (iX s)])∧St w [] L1 w'∧cz r L1∧r.dat=ke s:=by
 have hl:=f_s.len
 have kd:=hl.symm
 refine enter 131 Tryz.func6 rfl Tryz.ntmps6 rfl rfl ?_
 have kk:=St.init w
 refine WC.sr (WL.al kk bp rfl rfl (fun I _ el=>WL.r 1 el [] rfl (WL.nil (WC.sr (WL.r 4 el [] rfl ?_)))))
 refine WL.val rfl rfl rfl (bP.build rfl rfl rfl rfl (qv _ _ _ _)) (WL.bx el rfl (fun E _ c8=>?_))
 have ks:bV 0 (decide ((150000:Int)<(n_s:Int)))=wy s:=by
   unfold wy bV
   rw [← kd]
   by_cases J:n_s>150000
   · rw [if_pos (decide_eq_true (by omega)),if_pos J]
   · rw [if_neg (by rw [decide_eq_true_eq];omega),if_neg J]
 refine WL.r 1 c8 [] rfl (WL.nil (WC.sr (WL.r 1 c8 [] rfl ?_)))
 have em:St _ _ ([(E,_)]++_) _:=c8
 refine WL.call rfl rfl rfl (bP.call Tryz.call25 rfl rfl rfl) (rL _ _ _ _ _ _ _ _ _ (em.own _ List.mem_cons_self).1 (bN.st0 f_s c8) (St.sep em f_s) ?_ ?_ ?_ ?_) ?_
 · omega
 · first | assumption | exact bS.cap (by assumption) | omega
 · omega
 · first | omega | decide
 rintro _ Go ⟨O,bad8,Gp,Gq,M,rfl,bg,a7,hst9,Gr⟩
 replace bg:=St.lend em bg
 refine ⟨_,rfl,?_⟩
 replace bg:=St.assoc (L1:=[_]) bg
 have hx:=((bg.fb I).fb E)
 have es:nd s=(co s (4:Int).toNat (bV 0 (decide ((150000:Int)<(n_s:Int))))):=by unfold nd;rw [← ks];rfl
 have et:(nd s).2=(bV O bad8):=by rw [es];exact (hst9).symm
 have kt:bad8=false→(co s (4:Int).toNat (bV 0 (decide ((150000:Int)<(n_s:Int))))).1.length=4:=fun h=>(iv 4 (bV 0 (decide ((150000:Int)<(n_s:Int)))) (by
   show (co s (4:Int).toNat (bV 0 (decide ((150000:Int)<(n_s:Int))))).2.isSome=true
   rw [← hst9,h];rfl)).2
 refine WL.r 1 hx [] rfl (WL.nil (WC.sr ?_))
 refine WL.val rfl rfl rfl (bP.build rfl rfl rfl rfl (mT)) (WL.al hx bp rfl rfl (fun G _ kv=>WL.st bX kv 0 rfl rfl (fun _ hy=>WL.nil (WC.seq (fun Gs k0=>WC.r1 hy [1] rfl ?_)))))
 obtain ⟨eA,k1,Gt⟩:=cz.fl hy (cv.nil _ _ _) (cv.nil _ _ _) (cv.nil _ _ _)
 have bo:=(((k1.fb I).fb E).fb G)
 refine WC.jPK [0,2,3,4,5,6,13,14,15,16,17,18,19,20,21,22,23,24,25,26] rfl ((bo.fr eA).fb G) (fun o_ L_=>∃ r:cu,o_=Obj.cells (List.toArray (eH r)) 27 (0,0)∧cz r L_∧r.dat=(⟨dy s 0,dy s 1,dy s 2,dy s 3,[],[],[]⟩:cp)) ?_ ?_
 ·refine WC.cq rfl (fun e0 k2=>?_) (fun e0 k2=>?_)
  ·have c9:bad8=false:=by have J:=e0;simpa using J
   have h4:=kt c9
   have dj:(nd s).2.isSome=true:=by rw [et,c9];rfl
   refine WC.rG 13 bo.d1 bo bo (fun _ N=>?_)
   refine WG.rn [0] N [] rfl rfl ?_
   refine WG.tk 1 rfl (by kernel_rfl) rfl rfl rfl N (fun w_ hs_=>(bP.idxK (0) ae aa rfl rfl rfl ?_ ?_ ?_)) ?_
   · exact bN.some_ (bN.ofOwn a7 ((hs_:St _ _ _ _).ow M))
   · omega
   · omega
   refine WG.tk 2 rfl (by kernel_rfl) rfl rfl rfl N (fun w_ hs_=>(bP.load ac rfl rfl (bN.one1 (bN.ofOwn a7 ((hs_:St _ _ _ _).ow M)) ?_ rfl))) ?_
   · omega
   refine WG.rn [3] N [] rfl rfl ?_
   refine WG.tk 4 rfl (by kernel_rfl) rfl rfl rfl N (fun w_ hs_=>(bP.idxK (1) ae aa rfl rfl rfl ?_ ?_ ?_)) ?_
   · exact bN.some_ (bN.ofOwn a7 ((hs_:St _ _ _ _).ow M))
   · omega
   · omega
   refine WG.tk 5 rfl (by kernel_rfl) rfl rfl rfl N (fun w_ hs_=>(bP.load ac rfl rfl (bN.one1 (bN.ofOwn a7 ((hs_:St _ _ _ _).ow M)) ?_ rfl))) ?_
   · omega
   refine WG.rn [6] N [] rfl rfl ?_
   refine WG.tk 7 rfl (by kernel_rfl) rfl rfl rfl N (fun w_ hs_=>(bP.idxK (2) ae aa rfl rfl rfl ?_ ?_ ?_)) ?_
   · exact bN.some_ (bN.ofOwn a7 ((hs_:St _ _ _ _).ow M))
   · omega
   · omega
   refine WG.tk 8 rfl (by kernel_rfl) rfl rfl rfl N (fun w_ hs_=>(bP.load ac rfl rfl (bN.one1 (bN.ofOwn a7 ((hs_:St _ _ _ _).ow M)) ?_ rfl))) ?_
   · omega
   refine WG.rn [9] N [] rfl rfl ?_
   refine WG.tk 10 rfl (by kernel_rfl) rfl rfl rfl N (fun w_ hs_=>(bP.idxK (3) ae aa rfl rfl rfl ?_ ?_ ?_)) ?_
   · exact bN.some_ (bN.ofOwn a7 ((hs_:St _ _ _ _).ow M))
   · omega
   · omega
   refine WG.tk 11 rfl (by kernel_rfl) rfl rfl rfl N (fun w_ hs_=>(bP.load ac rfl rfl (bN.one1 (bN.ofOwn a7 ((hs_:St _ _ _ _).ow M)) ?_ rfl))) ?_
   · omega
   refine WG.tk 12 rfl (by kernel_rfl) rfl rfl rfl N (fun w_ hs_=>(bP.build rfl rfl rfl rfl (mK _ _ _ _))) ?_
   refine WG.oK rfl (WL.st bX N 0 rfl rfl (fun _ hA=>WL.nil ⟨hA.d1,WH.dn ?_⟩))
   obtain ⟨k3,k4,k5⟩:=cz.fl hA (cv.nil _ _ _) (cv.nil _ _ _) (cv.nil _ _ _)
   have e1:=(((k4.fb I).fb E).fb G)
   replace e1:=(e1.rm eA)
   refine cQ ⟨_,_,(((((e1.fr M).fb I).fb E).fr k3).fb G),⟨⟨_,_,_,_,⟨none,0,0,[]⟩,⟨none,0,0,[]⟩,⟨none,0,0,[]⟩⟩,rfl,(by exact k5),?_⟩,cR rfl⟩
   · (rw [es] at dj;simp only [dy,es,dj,if_true];rfl)
  have c9:bad8=true:=by have J:=e0;simpa using J
  have dj:(nd s).2.isSome=false:=by rw [et,c9];rfl
  refine WC.skip ?_
  obtain ⟨k6,la,lm⟩:=cz.fl bo (cv.nil _ _ _) (cv.nil _ _ _) (cv.nil _ _ _)
  have e2:=(((la.fb I).fb E).fb G)
  replace e2:=(e2.rm eA)
  refine cQ ⟨_,_,(((((e2.fr M).fb I).fb E).fr k6).fb G),⟨⟨0,0,0,0,⟨none,0,0,[]⟩,⟨none,0,0,[]⟩,⟨none,0,0,[]⟩⟩,rfl,(by exact lm),?_⟩,cR rfl⟩
  · simp only [dy,dj];rfl
 rintro _ e3 _ ⟨lt,rfl,lO,lS⟩ l0 f_ hf_
 refine k0 _ _ (WC.sub _ hf_ ?_)
 clear hf_
 have b0:=(((l0.fb I).fb E).fb G)
 refine WC.seq (fun Gv l1=>WC.sr (WL.r 1 b0 [] rfl ?_))
 replace b0:=(b0.fb E)
 have e4:St _ _ ([(E,_)]++_) _:=b0
 refine WL.call rfl rfl rfl (bP.call Tryz.call26 rfl rfl rfl) (jr _ _ _ _ _ _ _ _ (e4.own _ List.mem_cons_self).1 (bN.st0 f_s b0) (St.sep e4 f_s) ?_ ?_ ?_) ?_
 · omega
 · first | assumption | exact bS.cap (by assumption) | omega
 · omega
 rintro _ Gw ⟨ds,bad54,rfl,d0,hst55,Gx⟩
 replace d0:=St.lend e4 d0
 refine ⟨_,rfl,?_⟩
 have Gy:=fW s (bV O bad8)
 refine WL.r 1 d0 [] rfl (WL.nil (WC.block ?_))
 have l2:=(St.grp1 (L1:=e3) [_,_] (((((d0.fr M).fb I).fr e3).fb E).fb G))
 refine WC.lV [0,2,3,4,6,26] rfl l2 (fun k_ (a_:Hp) f=>∃ (ia:Nat) (qa:Int) (ba:Bool) (za:List eF) (ra:cu) (V:Hp),k_=(rdN s (bV O bad8)).toNat-ia∧a_=[(G,.cells (List.toArray (eH ra)) 27 (0,0)),(E,.cells (List.toArray [.slice A_s n_s c_s,i64 qa,.bool ba]) 65 (0,0))]++V∧(ia≤(rdN s (bV O bad8)).toNat)∧(0≤qa∧qa≤n_s)∧(za.length=ia)∧(fk (lw s) (rdN s (bV O bad8)).toNat (bV ds bad54)=(za++(fk (lw s) ((rdN s (bV O bad8)).toNat-ia) (bV qa ba)).1,(fk (lw s) ((rdN s (bV O bad8)).toNat-ia) (bV qa ba)).2))∧(ra.dat=(⟨dy s 0,dy s 1,dy s 2,dy s 3,za,[],[]⟩:cp))∧cz ra V∧cC [(7,.int .i64 ((rdN s (bV O bad8))-(ia:Int)))] f) (((fun (ia:Nat) (qa:Int) (ba:Bool) (za:List eF)=>(rdN s (bV O bad8)).toNat-ia) (0) (ds) (bad54) ([]))) ?_ ?_
 ·refine ⟨0,ds,bad54,[],lt,e3,rfl,rfl,?_,?_,?_,?_,?_,lO,⟨?_,trivial⟩⟩
  · exact Nat.zero_le _
  · omega
  · rfl
  · rfl
  · exact lS
  · (refine congrArg some (congrArg (Value.int _) ?_);omega)
 rintro _ _ f w ⟨ia,qa,ba,za,ra,V,rfl,rfl,u0,u1,u2,u3,u4,hC,hG⟩ hF e5
 refine WC.sub _ (hG.app hF) ?_
 clear hG hF
 replace e5:=St.ungrp1 [_,_] e5
 have aB:=(((e5.fb I).fb E).fb G)
 have GB:ra.Panes.xs.length=ia:=by have Z:=congrArg (fun d=>d.Panes.length) u4;have e8:ra.dat.Panes.length=ra.Panes.xs.length:=List.length_map _;exact e8.symm.trans (Z.trans u2)
 refine WC.seq (fun GC m1=>WC.sr (WL.r 3 aB [] rfl (WL.pA bX 5 bU.nil aB [1] rfl rfl rfl rfl (fun g_=>⟨rfl,trivial⟩) (WL.nil ?_))))
 refine WC.cq rfl (fun d2 m2=>?_) (fun d2 m2=>?_)
 ·have hD:ba=false:=by have J:=d2;simp at J;exact J.2
  have GD:ia<(rdN s (bV O bad8)).toNat:=by have J:=d2;simp at J;omega
  refine WC.skip (m1 _ _ (WC.seq (fun GE m3=>WC.block (WC.rG 7 (aB.d1.d1.rm V) ((aB.fb E).d1.rm V) aB (fun _ b3=>?_)))))
  refine WG.rn [0,1,2] ((b3.fb E).d1.rm V) [0] rfl rfl (WG.o1 3 rfl rfl ?_)
  replace b3:=(b3.fb E)
  have e6:St _ _ ([(E,_)]++_) _:=b3
  refine WL.call rfl rfl rfl (bP.call Tryz.call27 rfl rfl rfl) (Fe _ _ _ _ _ _ _ _ (e6.own _ List.mem_cons_self).1 (bN.st0 f_s b3) (St.sep e6 f_s) ?_ ?_ ?_ ?_) ?_
  · omega
  · first | assumption | omega
  · omega
  · omega
  rintro _ GF ⟨m4,bad71,e7,fd,rfl,b5,m5,m6,hst76,GG⟩
  replace b5:=St.lend e6 b5
  refine ⟨_,rfl,?_⟩
  replace b5:=St.assoc (L1:=[_]) b5
  have hE:=(((b5.fb I).fb G).fb E)
  refine WL.nil ⟨((hE.d1.rm fd).rm V),WG.o1 4 rfl rfl (WL.buildSlice hE af ab aQ rfl rfl rfl rfl rfl rfl rfl rfl rfl rfl (fun b6 GH hH=>WL.nil ⟨((hH.d1.d1.rm fd).rm V),WG.o1 5 rfl rfl ?_⟩))⟩
  obtain ⟨m7,fg,fo,m8,n1,hK,hL⟩:=cz.op hH hC
  have n2:=((((m8.fb I).fb G).fb E).fb b6)
  obtain ⟨n3,n4,n5,n6,oc⟩:=cv.open_ (n2.fr m7) n1
  have hM:=((((n5.fb I).fb G).fb E).fb b6)
  refine WL.appendG (hM.fr n3) n6 (kF (F:=bW) (ys:=[(e7:cr)]) bK rfl rfl (hM.own _ (cH (i:=0) rfl)).1) bK Cf rfl rfl rfl rfl rfl rfl rfl rfl rfl rfl ?_ (fun GI GJ oi GK f1 oj=>?_)
  · (try simp only [List.length_append,List.length_singleton]);omega
  replace f1:=St.back [_,_,_,_] f1
  obtain ⟨oq,o0,o2⟩:=ew.put (x:=(e7:cr)) ((f1.fr fd).fr n4) oc m5
  have o3:=((((o0.fb I).fb G).fb E).fb b6)
  obtain ⟨f2,o4,hN⟩:=cv.fold ((o3.fr oq).fr oi) oj o2
  have f3:=((((o4.fb I).fb G).fb E).fb b6)
  refine WL.nil ⟨(((f3.d1.d1.rm f2).rm fg).rm fo),WG.rn [6] (((f3.d1.d1.rm f2).rm fg).rm fo) [] rfl rfl (WG.oK rfl (WL.st bX f3 2 rfl rfl (fun _ f4=>WL.nil ⟨(((f4.d1.d1.d1.rm f2).rm fg).rm fo),WH.dn (m3 _ _ (WC.region ?_))⟩)))⟩
  refine WL.r 3 f4 [] rfl (WL.nil (cQ ?_))
  obtain ⟨f5,o5,o6⟩:=cz.fl f4 hN hK hL
  have ga:=((((o5.fb I).fb G).fb E).fb b6)
  replace ga:=ga.d1
  have ps:=(St.grp1 (L1:=f5) [_,_] (((((ga.fr M).fb I).fr f5).fb E).fb G))
  refine ⟨cR rfl,_,ps,_,?_,ia+1,m4,bad71,(za++[(lw s (bV qa ba)).1]),⟨ra.W,ra.H,ra.Limit,ra.Next,db.ofN hN,db.ofN hK,db.ofN hL⟩,f5,rfl,rfl,?_,?_,?_,?_,?_,(by exact o6),⟨?_,trivial⟩⟩
  · omega
  · omega
  · omega
  · simp only [List.length_append,List.length_singleton];omega
  · rw [u3,hD,nK (by omega),← hD,← hst76,List.append_assoc];rfl
  · have b7:ra.dat.W=(⟨dy s 0,dy s 1,dy s 2,dy s 3,za,[],[]⟩:cp).W:=congrArg (fun d=>d.W) u4
    have b8:ra.dat.H=(⟨dy s 0,dy s 1,dy s 2,dy s 3,za,[],[]⟩:cp).H:=congrArg (fun d=>d.H) u4
    have b9:ra.dat.Limit=(⟨dy s 0,dy s 1,dy s 2,dy s 3,za,[],[]⟩:cp).Limit:=congrArg (fun d=>d.Limit) u4
    have ck:ra.dat.Next=(⟨dy s 0,dy s 1,dy s 2,dy s 3,za,[],[]⟩:cp).Next:=congrArg (fun d=>d.Next) u4
    have cD:ra.dat.Wins=(⟨dy s 0,dy s 1,dy s 2,dy s 3,za,[],[]⟩:cp).Wins:=congrArg (fun d=>d.Wins) u4
    have cN:ra.dat.Sess=(⟨dy s 0,dy s 1,dy s 2,dy s 3,za,[],[]⟩:cp).Sess:=congrArg (fun d=>d.Sess) u4
    have c0:(ra.Panes.xs++[(e7:cr)]).map cr.dat=za++[(lw s (bV qa ba)).1]:=by
      rw [List.map_append,show ra.Panes.xs.map cr.dat=za from congrArg (fun d=>d.Panes) u4]
      exact congrArg (fun x=>za++[x]) m6
    exact cp.ext' b7 b8 b9 ck c0 cD cN
  · (refine congrArg some (congrArg (Value.int _) ?_);omega)
 have pO:(rdN s (bV O bad8)).toNat≤ia∨ba=true:=by
   have J:=d2;cases ba with
   | true=>exact .inr rfl
   | false=>simp at J;left;omega
 have hP:iL s=(za,bV qa ba):=by
   have Z:iL s=fk (lw s) (rdN s (bV O bad8)).toNat (bV ds bad54):=by unfold iL;rw [et,← hst55]
   rw [Z,u3,ns pO];simp
 have GL:=fW s (bV qa ba)
 refine WC.exit (l1 _ _ (WC.seq (fun GM p0=>WC.sr (WL.r 1 aB [] rfl ?_))))
 replace aB:=(aB.fb E)
 have gb:St _ _ ([(E,_)]++_) _:=aB
 refine WL.call rfl rfl rfl (bP.call Tryz.call26 rfl rfl rfl) (jr _ _ _ _ _ _ _ _ (gb.own _ List.mem_cons_self).1 (bN.st0 f_s aB) (St.sep gb f_s) ?_ ?_ ?_) ?_
 · omega
 · first | assumption | exact bS.cap (by assumption) | omega
 · omega
 rintro _ GN ⟨d3,bad118,rfl,d4,hst119,GO⟩
 replace d4:=St.lend gb d4
 refine ⟨_,rfl,WL.r 1 d4 [] rfl (WL.nil (WC.block ?_))⟩
 have p1:=(St.grp1 (L1:=V) [_,_] (((((d4.fr M).fb I).fr V).fb E).fb G))
 refine WC.lV [0,2,3,4,6,26,50] rfl p1 (fun k_ (a_:Hp) f=>∃ (ib:Nat) (qb:Int) (bb:Bool) (zb:List dZ) (rb:cu) (ad:Hp),k_=(rdN s (bV qa ba)).toNat-ib∧a_=[(G,.cells (List.toArray (eH rb)) 27 (0,0)),(E,.cells (List.toArray [.slice A_s n_s c_s,i64 qb,.bool bb]) 65 (0,0))]++ad∧(ib≤(rdN s (bV qa ba)).toNat)∧(0≤qb∧qb≤n_s)∧(zb.length=ib)∧(fk (lv s) (rdN s (bV qa ba)).toNat (bV d3 bad118)=(zb++(fk (lv s) ((rdN s (bV qa ba)).toNat-ib) (bV qb bb)).1,(fk (lv s) ((rdN s (bV qa ba)).toNat-ib) (bV qb bb)).2))∧(rb.dat=(⟨dy s 0,dy s 1,dy s 2,dy s 3,za,zb,[]⟩:cp))∧cz rb ad∧cC [(8,.int .i64 ((rdN s (bV qa ba))-(ib:Int)))] f) (((fun (ib:Nat) (qb:Int) (bb:Bool) (zb:List dZ)=>(rdN s (bV qa ba)).toNat-ib) (0) (d3) (bad118) ([]))) ?_ ?_
 ·refine ⟨0,d3,bad118,[],ra,V,rfl,rfl,?_,?_,?_,?_,?_,hC,⟨?_,trivial⟩⟩
  · exact Nat.zero_le _
  · omega
  · rfl
  · rfl
  · exact u4
  · (refine congrArg some (congrArg (Value.int _) ?_);omega)
 rintro _ _ f w ⟨ib,qb,bb,zb,rb,ad,rfl,rfl,v0,v1,v2,v3,v4,hQ,hG⟩ hF gc
 refine WC.sub _ (hG.app hF) ?_
 clear hG hF
 replace gc:=St.ungrp1 [_,_] gc
 have a1:=(((gc.fb I).fb E).fb G)
 have GP:rb.Wins.xs.length=ib:=by have Z:=congrArg (fun d=>d.Wins.length) v4;have e8:rb.dat.Wins.length=rb.Wins.xs.length:=List.length_map _;exact e8.symm.trans (Z.trans v2)
 refine WC.seq (fun GQ p2=>WC.sr (WL.r 3 a1 [] rfl (WL.pA bX 5 bU.nil a1 [1] rfl rfl rfl rfl (fun g_=>⟨rfl,trivial⟩) (WL.nil ?_))))
 refine WC.cq rfl (fun d5 p3=>?_) (fun d5 p3=>?_)
 ·have hR:bb=false:=by have J:=d5;simp at J;exact J.2
  have GR:ib<(rdN s (bV qa ba)).toNat:=by have J:=d5;simp at J;omega
  refine WC.skip (p2 _ _ (WC.seq (fun GS p4=>WC.block (WC.rG 7 (a1.d1.d1.rm ad) ((a1.fb E).d1.rm ad) a1 (fun _ c1=>?_)))))
  refine WG.rn [0,1,2] ((c1.fb E).d1.rm ad) [0] rfl rfl (WG.o1 3 rfl rfl ?_)
  replace c1:=(c1.fb E)
  have gm:St _ _ ([(E,_)]++_) _:=c1
  refine WL.call rfl rfl rfl (bP.call Tryz.call28 rfl rfl rfl) (Ej _ _ _ _ _ _ _ _ (gm.own _ List.mem_cons_self).1 (bN.st0 f_s c1) (St.sep gm f_s) ?_ ?_ ?_ ?_) ?_
  · omega
  · first | assumption | omega
  · omega
  · omega
  rintro _ GT ⟨qs,bad135,gs,gL,rfl,c2,q0,q1,hst140,GU⟩
  replace c2:=St.lend gm c2
  refine ⟨_,rfl,?_⟩
  replace c2:=St.assoc (L1:=[_]) c2
  have hS:=(((c2.fb I).fb G).fb E)
  refine WL.nil ⟨((hS.d1.rm gL).rm ad),WG.o1 4 rfl rfl (WL.buildSlice hS au am aJ rfl rfl rfl rfl rfl rfl rfl rfl rfl rfl (fun c3 GV hV=>WL.nil ⟨((hV.d1.d1.rm gL).rm ad),WG.o1 5 rfl rfl ?_⟩))⟩
  obtain ⟨g0,q2,g1,q3,hW,q4,h0⟩:=cz.op hV hQ
  have q5:=((((q3.fb I).fb G).fb E).fb c3)
  obtain ⟨q6,q8,q9,rq,rr⟩:=cv.open_ (q5.fr q2) q4
  have h2:=((((q9.fb I).fb G).fb E).fb c3)
  refine WL.appendG (h2.fr q6) rq (kF (F:=bY) (ys:=[(gs:dd)]) bL rfl rfl (h2.own _ (cH (i:=0) rfl)).1) bL Cp rfl rfl rfl rfl rfl rfl rfl rfl rfl rfl ?_ (fun GW GX rs GY g2 rz=>?_)
  · (try simp only [List.length_append,List.length_singleton]);omega
  replace g2:=St.back [_,_,_,_] g2
  obtain ⟨rH,r0,r2⟩:=ew.put (x:=(gs:dd)) ((g2.fr gL).fr q8) rr q0
  have r3:=((((r0.fb I).fb G).fb E).fb c3)
  obtain ⟨g3,r4,h3⟩:=cv.fold ((r3.fr rH).fr rs) rz r2
  have g4:=((((r4.fb I).fb G).fb E).fb c3)
  refine WL.nil ⟨(((g4.d1.d1.rm g3).rm g0).rm g1),WG.rn [6] (((g4.d1.d1.rm g3).rm g0).rm g1) [] rfl rfl (WG.oK rfl (WL.st bX g4 2 rfl rfl (fun _ g5=>WL.nil ⟨(((g5.d1.d1.d1.rm g3).rm g0).rm g1),WH.dn (p4 _ _ (WC.region ?_))⟩)))⟩
  refine WL.r 3 g5 [] rfl (WL.nil (cQ ?_))
  obtain ⟨g6,r9,sq⟩:=cz.fl g5 hW h3 h0
  have g7:=((((r9.fb I).fb G).fb E).fb c3)
  replace g7:=g7.d1
  have sF:=(St.grp1 (L1:=g6) [_,_] (((((g7.fr M).fb I).fr g6).fb E).fb G))
  refine ⟨cR rfl,_,sF,_,?_,ib+1,qs,bad135,(zb++[(lv s (bV qb bb)).1]),⟨rb.W,rb.H,rb.Limit,rb.Next,db.ofN hW,db.ofN h3,db.ofN h0⟩,g6,rfl,rfl,?_,?_,?_,?_,?_,(by exact sq),⟨?_,trivial⟩⟩
  · omega
  · omega
  · omega
  · simp only [List.length_append,List.length_singleton];omega
  · rw [v3,hR,nK (by omega),← hR,← hst140,List.append_assoc];rfl
  · have b7:rb.dat.W=(⟨dy s 0,dy s 1,dy s 2,dy s 3,za,zb,[]⟩:cp).W:=congrArg (fun d=>d.W) v4
    have b8:rb.dat.H=(⟨dy s 0,dy s 1,dy s 2,dy s 3,za,zb,[]⟩:cp).H:=congrArg (fun d=>d.H) v4
    have b9:rb.dat.Limit=(⟨dy s 0,dy s 1,dy s 2,dy s 3,za,zb,[]⟩:cp).Limit:=congrArg (fun d=>d.Limit) v4
    have ck:rb.dat.Next=(⟨dy s 0,dy s 1,dy s 2,dy s 3,za,zb,[]⟩:cp).Next:=congrArg (fun d=>d.Next) v4
    have c0:rb.dat.Panes=(⟨dy s 0,dy s 1,dy s 2,dy s 3,za,zb,[]⟩:cp).Panes:=congrArg (fun d=>d.Panes) v4
    have cN:rb.dat.Sess=(⟨dy s 0,dy s 1,dy s 2,dy s 3,za,zb,[]⟩:cp).Sess:=congrArg (fun d=>d.Sess) v4
    have cD:(rb.Wins.xs++[(gs:dd)]).map dd.dat=zb++[(lv s (bV qb bb)).1]:=by
      rw [List.map_append,show rb.Wins.xs.map dd.dat=zb from congrArg (fun d=>d.Wins) v4]
      exact congrArg (fun x=>zb++[x]) q1
    exact cp.ext' b7 b8 b9 ck c0 cD cN
  · (refine congrArg some (congrArg (Value.int _) ?_);omega)
 have sR:(rdN s (bV qa ba)).toNat≤ib∨bb=true:=by
   have J:=d5;cases bb with
   | true=>exact .inr rfl
   | false=>simp at J;left;omega
 have h5:ja s=(zb,bV qb bb):=by
   have Z:ja s=fk (lv s) (rdN s (bV qa ba)).toNat (bV d3 bad118):=by unfold ja;rw [hP,← hst119]
   rw [Z,v3,ns sR];simp
 have GZ:=fW s (bV qb bb)
 refine WC.exit (p0 _ _ (WC.seq (fun G0 s0=>WC.sr (WL.r 1 a1 [] rfl ?_))))
 replace a1:=(a1.fb E)
 have g8:St _ _ ([(E,_)]++_) _:=a1
 refine WL.call rfl rfl rfl (bP.call Tryz.call26 rfl rfl rfl) (jr _ _ _ _ _ _ _ _ (g8.own _ List.mem_cons_self).1 (bN.st0 f_s a1) (St.sep g8 f_s) ?_ ?_ ?_) ?_
 · omega
 · first | assumption | exact bS.cap (by assumption) | omega
 · omega
 rintro _ G1 ⟨d6,bad182,rfl,d7,hst183,G2⟩
 replace d7:=St.lend g8 d7
 refine ⟨_,rfl,WL.r 1 d7 [] rfl (WL.nil (WC.block ?_))⟩
 have s1:=(St.grp1 (L1:=ad) [_,_] (((((d7.fr M).fb I).fr ad).fb E).fb G))
 refine WC.lV [0,2,3,4,6,26,50,70] rfl s1 (fun k_ (a_:Hp) f=>∃ (ic:Nat) (qc:Int) (bc:Bool) (zc:List eo) (rc:cu) (c4:Hp),k_=(rdN s (bV qb bb)).toNat-ic∧a_=[(G,.cells (List.toArray (eH rc)) 27 (0,0)),(E,.cells (List.toArray [.slice A_s n_s c_s,i64 qc,.bool bc]) 65 (0,0))]++c4∧(ic≤(rdN s (bV qb bb)).toNat)∧(0≤qc∧qc≤n_s)∧(zc.length=ic)∧(fk (li s) (rdN s (bV qb bb)).toNat (bV d6 bad182)=(zc++(fk (li s) ((rdN s (bV qb bb)).toNat-ic) (bV qc bc)).1,(fk (li s) ((rdN s (bV qb bb)).toNat-ic) (bV qc bc)).2))∧(rc.dat=(⟨dy s 0,dy s 1,dy s 2,dy s 3,za,zb,zc⟩:cp))∧cz rc c4∧cC [(9,.int .i64 ((rdN s (bV qb bb))-(ic:Int)))] f) (((fun (ic:Nat) (qc:Int) (bc:Bool) (zc:List eo)=>(rdN s (bV qb bb)).toNat-ic) (0) (d6) (bad182) ([]))) ?_ ?_
 ·refine ⟨0,d6,bad182,[],rb,ad,rfl,rfl,?_,?_,?_,?_,?_,hQ,⟨?_,trivial⟩⟩
  · exact Nat.zero_le _
  · omega
  · rfl
  · rfl
  · exact v4
  · (refine congrArg some (congrArg (Value.int _) ?_);omega)
 rintro _ _ f w ⟨ic,qc,bc,zc,rc,c4,rfl,rfl,t0,t1,t2,t3,t4,g9,hG⟩ hF ha
 refine WC.sub _ (hG.app hF) ?_
 clear hG hF
 replace ha:=St.ungrp1 [_,_] ha
 have U:=(((ha.fb I).fb E).fb G)
 have G4:rc.Sess.xs.length=ic:=by have Z:=congrArg (fun d=>d.Sess.length) t4;have e8:rc.dat.Sess.length=rc.Sess.xs.length:=List.length_map _;exact e8.symm.trans (Z.trans t2)
 refine WC.seq (fun G5 s3=>WC.sr (WL.r 3 U [] rfl (WL.pA bX 5 bU.nil U [1] rfl rfl rfl rfl (fun g_=>⟨rfl,trivial⟩) (WL.nil ?_))))
 refine WC.cq rfl (fun d8 s4=>?_) (fun d8 s4=>?_)
 ·have h6:bc=false:=by have J:=d8;simp at J;exact J.2
  have G6:ic<(rdN s (bV qb bb)).toNat:=by have J:=d8;simp at J;omega
  refine WC.skip (s3 _ _ (WC.seq (fun G7 tu=>WC.block (WC.sr (WL.r 1 U [] rfl ?_)))))
  replace U:=(U.fb E)
  have hb:St _ _ ([(E,_)]++_) _:=U
  refine WL.call rfl rfl rfl (bP.call Tryz.call29 rfl rfl rfl) (uu _ _ _ _ _ _ _ _ (hb.own _ List.mem_cons_self).1 (bN.st0 f_s U) (St.sep hb f_s) ?_ ?_ ?_) ?_
  · omega
  · first | assumption | exact bS.cap (by assumption) | omega
  · omega
  rintro _ G8 ⟨tx,bad198,rfl,hd,hst199,G9⟩
  replace hd:=St.lend hb hd
  refine ⟨_,rfl,?_⟩
  refine WL.val rfl rfl rfl (bP.build rfl rfl rfl rfl (xg _)) (WL.al hd bi rfl rfl (fun a8 _ un=>WL.st bX un 0 rfl rfl (fun _ c5=>WL.nil (WC.sr (WL.r 2 c5 [] rfl ?_)))))
  replace c5:=(c5.fb E)
  have he:St _ _ ([(E,_)]++_) _:=c5
  refine WL.call rfl rfl rfl (bP.call Tryz.call26 rfl rfl rfl) (jr _ _ _ _ _ _ _ _ (he.own _ List.mem_cons_self).1 (bN.st0 f_s c5) (St.sep he f_s) ?_ ?_ ?_) ?_
  · omega
  · first | assumption | exact bS.cap (by assumption) | omega
  · omega
  rintro _ Ha ⟨Hb,bad207,rfl,d9,hst208,Hc⟩
  replace d9:=St.lend he d9
  refine ⟨_,rfl,?_⟩
  have Hd:=fW s (bV tx bad198)
  have hf:St _ _ ([(E,_)]++_) _:=d9
  refine WL.call rfl rfl rfl (bP.call Tryz.call25 rfl rfl rfl) (rL _ _ _ _ _ _ _ _ _ (hf.own _ List.mem_cons_self).1 (bN.st0 f_s d9) (St.sep hf f_s) ?_ ?_ ?_ ?_) ?_
  · omega
  · first | assumption | exact bS.cap (by assumption) | omega
  · omega
  · first | omega | decide
  rintro _ He ⟨u8,bad213,Hf,Hg,vl,rfl,c6,ea,hst214,Hh⟩
  replace c6:=St.lend hf c6
  refine ⟨_,rfl,?_⟩
  replace c6:=St.assoc (L1:=[_]) c6
  have h7:=((((c6.fb I).fb G).fb a8).fb E)
  refine WL.r 1 h7 [] rfl (WL.st bX h7 1 rfl rfl (fun _ hh=>WL.nil (WC.sr (WL.r 1 hh [] rfl ?_))))
  have hj:St _ _ ([(E,_)]++_) _:=hh
  refine WL.call rfl rfl rfl (bP.call Tryz.call26 rfl rfl rfl) (jr _ _ _ _ _ _ _ _ (hj.own _ List.mem_cons_self).1 (bN.st0 f_s hh) (St.sep hj f_s) ?_ ?_ ?_) ?_
  · omega
  · first | assumption | exact bS.cap (by assumption) | omega
  · omega
  rintro _ Hi ⟨h8,bad225,rfl,ec,hst226,Hj⟩
  replace ec:=St.lend hj ec
  refine ⟨_,rfl,WL.r 1 ec [] rfl (WL.st bX ec 1 rfl rfl (fun _ ih=>WL.nil (WC.region (WL.r 3 ih [2,1] rfl (WL.buildSlice ih aF ax bi rfl rfl rfl rfl rfl rfl rfl rfl rfl rfl (fun c7 Hk vx=>?_))))))⟩
  obtain ⟨Hl,Hm,vy,v6,ix,i0,v7⟩:=cz.op vx g9
  have v8:=(((((v6.fb I).fb G).fb a8).fb E).fb c7)
  obtain ⟨wf,wp,w2,w3,w4⟩:=cv.open_ (v8.fr vy) v7
  have i1:=(((((w2.fb I).fb G).fb a8).fb E).fb c7)
  refine WL.appendG (i1.fr wf) w3 (kF (F:=ci) (ys:=[(⟨_,db.of ea,_⟩:da)]) bM rfl rfl (i1.own _ (cH (i:=0) rfl)).1) bM BU rfl rfl rfl rfl rfl rfl rfl rfl rfl rfl ?_ (fun Hn Ho w5 Hq hk w6=>?_)
  · (try simp only [List.length_append,List.length_singleton]);omega
  replace hk:=St.back [_,_,_,_,_] hk
  obtain ⟨x2,x4,x5⟩:=ew.put (x:=(⟨_,db.of ea,_⟩:da)) ((hk.fr vl).fr wp) w4 ea
  have x6:=(((((x4.fb I).fb G).fb a8).fb E).fb c7)
  obtain ⟨Hr,x7,i2⟩:=cv.fold ((x6.fr x2).fr w5) w6 x5
  have i3:=(((((x7.fb I).fb G).fb a8).fb E).fb c7)
  refine WL.r 1 i3 [] rfl (WL.st bX i3 3 rfl rfl (fun _ j1=>WL.nil (tu _ _ (WC.region (WL.r 3 j1 [] rfl (WL.nil (cQ ?_)))))))
  obtain ⟨hm,x8,x9⟩:=cz.fl j1 ix i0 i2
  have ho:=(((((x8.fb I).fb G).fb a8).fb E).fb c7)
  replace ho:=(ho.d1.fb a8).d1
  have y2:=(St.grp1 (L1:=hm) [_,_] (((((ho.fr M).fb I).fr hm).fb E).fb G))
  refine ⟨cR rfl,_,y2,_,?_,ic+1,h8,bad225,(zc++[(li s (bV qc bc)).1]),⟨rc.W,rc.H,rc.Limit,rc.Next,db.ofN ix,db.ofN i0,db.ofN i2⟩,hm,rfl,rfl,?_,?_,?_,?_,?_,(by exact x9),⟨?_,trivial⟩⟩
  · omega
  · omega
  · omega
  · simp only [List.length_append,List.length_singleton];omega
  · rw [t3,h6,nK (by omega),← h6,← (show (bV h8 bad225)=(li s (bV qc bc)).2 by show _=cE s (co s (rdN s (eI s (bV qc bc))).toNat (cE s (eI s (bV qc bc)))).2;rw [← hst199,← hst208,← hst214,← hst226]),List.append_assoc];rfl
  · have b7:rc.dat.W=(⟨dy s 0,dy s 1,dy s 2,dy s 3,za,zb,zc⟩:cp).W:=congrArg (fun d=>d.W) t4
    have b8:rc.dat.H=(⟨dy s 0,dy s 1,dy s 2,dy s 3,za,zb,zc⟩:cp).H:=congrArg (fun d=>d.H) t4
    have b9:rc.dat.Limit=(⟨dy s 0,dy s 1,dy s 2,dy s 3,za,zb,zc⟩:cp).Limit:=congrArg (fun d=>d.Limit) t4
    have ck:rc.dat.Next=(⟨dy s 0,dy s 1,dy s 2,dy s 3,za,zb,zc⟩:cp).Next:=congrArg (fun d=>d.Next) t4
    have c0:rc.dat.Panes=(⟨dy s 0,dy s 1,dy s 2,dy s 3,za,zb,zc⟩:cp).Panes:=congrArg (fun d=>d.Panes) t4
    have cD:rc.dat.Wins=(⟨dy s 0,dy s 1,dy s 2,dy s 3,za,zb,zc⟩:cp).Wins:=congrArg (fun d=>d.Wins) t4
    have cN:(rc.Sess.xs++[(⟨gX s (bV qc bc),db.of ea,rdN s (bV u8 bad213)⟩:da)]).map da.dat=zc++[(li s (bV qc bc)).1]:=by
      rw [List.map_append,show rc.Sess.xs.map da.dat=zc from congrArg (fun d=>d.Sess) t4]
      exact congrArg (fun x=>zc++[x]) (show _=(⟨gX s (bV qc bc),(co s (rdN s (eI s (bV qc bc))).toNat (cE s (eI s (bV qc bc)))).1,rdN s (co s (rdN s (eI s (bV qc bc))).toNat (cE s (eI s (bV qc bc)))).2⟩:eo) by rw [← hst199,← hst208,← hst214];rfl)
    exact cp.ext' b7 b8 b9 ck c0 cD cN
  · (refine congrArg some (congrArg (Value.int _) ?_);omega)
 have y3:(rdN s (bV qb bb)).toNat≤ic∨bc=true:=by
   have J:=d8;cases bc with
   | true=>exact .inr rfl
   | false=>simp at J;left;omega
 have hp:jb s=(zc,bV qc bc):=by
   have Z:jb s=fk (li s) (rdN s (bV qb bb)).toNat (bV d6 bad182):=by unfold jb;rw [h5,← hst183]
   rw [Z,t3,ns y3];simp
 have hq:rc.dat=ov s:=by rw [t4];unfold ov;rw [hP,h5,hp]
 have hT:jY rc.dat:=by rw [hq];exact DT
 have y5:eE 549755813888 rc.dat:=se hT (by decide)
 have Hs:=qA rc.dat
 refine WC.exit (s0 _ _ (WC.seq (fun Ht j2=>WC.r1 U [1] rfl ?_)))
 refine WC.cq rfl (fun hr zl=>?_) (fun hr zl=>?_)
 ·have hg:iX s=false:=by rw [(td s).1];unfold po;rw [hp,show bc=true from hr];rfl
  refine WC.sr ?_
  refine WL.val rfl rfl rfl (bP.build rfl rfl rfl rfl (mT)) (WL.st bX U 2 rfl rfl (fun _ hs=>WL.r 1 hs [] rfl (WL.nil (WC.ret (cd ?_)))))
  clear j2
  refine di rfl (cb.cellA bX hs 2 rfl rfl rfl rfl) (cb.tmp rfl) ?_
  rw [hg]
  obtain ⟨z1,z2,z6⟩:=cz.fl hs (cv.nil _ _ _) (cv.nil _ _ _) (cv.nil _ _ _)
  have A1:=(((z2.fb I).fb E).fb G)
  refine ⟨⟨0,0,0,0,⟨none,0,0,[]⟩,⟨none,0,0,[]⟩,⟨none,0,0,[]⟩⟩,_,rfl,(St.keep1 (A1.fr z1)),?_,?_⟩
  · exact (by exact z6)
  · unfold ke;rw [hg];rfl
 have ka:=yr (by rw [hp,show bc=false from hr];rfl) hq
 refine WC.skip (j2 _ _ (WC.sr (WL.r 1 U [0] rfl ?_)))
 refine WL.x3 U Tryz.call30 rfl (EE rc _ (cz.ok (B:=549755813888) g9 (U.ow c4) y5) ?_) (fun _ Hu Hv A2 A3 ag=>?_)
 · first | assumption | rfl | omega
 replace ag:=St.back [_,_,_] ag
 refine WL.r 5 ag [] rfl (WL.nil (WC.seq (fun Hw kb=>WC.sr (WL.r 3 ag [] rfl ?_))))
 apply WL.gO 5 bU.nil ag rfl
 ·intro bd A4
  have A5:=bd
  try simp only [bf,bZ,ca] at A5
  refine WL.runA bX 1 (bU.nil.cons (j:=2) rfl bd) ag [] rfl trivial (WL.val (cX rfl bd) rfl rfl (bP.strOf (bN.ofOwn A3 (ag.ow A2)) ah aH aG rfl rfl) (WL.runA bX 1 (bU.nil.cons (j:=2) rfl bd) ag [] rfl trivial (WL.val (cX rfl bd) rfl rfl (bP.strOf (bN.st0 f_s ag) ah aH aG rfl rfl) (WL.runA bX 1 (bU.nil.cons (j:=2) rfl bd) ag [] rfl trivial (WL.eO 5 bU.nil A4 ag bd rfl rfl)))))
 intro _ ht
 refine WL.nil (WC.cq rfl (fun hu A6=>?_) (fun hu A6=>?_))
 ·have hg:iX s=false:=ka.trans (congrArg (!·) hu)
  refine WC.sr ?_
  refine WL.val rfl rfl rfl (bP.build rfl rfl rfl rfl (mT)) (WL.st bX ht 2 rfl rfl (fun _ hv=>WL.r 1 hv [] rfl (WL.nil (WC.ret (cd ?_)))))
  clear kb
  refine di rfl (cb.cellA bX hv 2 rfl rfl rfl rfl) (cb.tmp rfl) ?_
  rw [hg]
  obtain ⟨A7,A8,A9⟩:=cz.fl hv (cv.nil _ _ _) (cv.nil _ _ _) (cv.nil _ _ _)
  have Fn:=(((A8.fb I).fb E).fb G)
  refine ⟨⟨0,0,0,0,⟨none,0,0,[]⟩,⟨none,0,0,[]⟩,⟨none,0,0,[]⟩⟩,_,rfl,(St.keep1 (Fn.fr A7)),?_,?_⟩
  · exact (by exact A9)
  · unfold ke;rw [hg];rfl
 have hg:iX s=true:=ka.trans (congrArg (!·) hu)
 have Gn:rc.dat=ke s:=by rw [hq];unfold ke;rw [if_pos hg,(td s).2 hg]
 refine WC.skip (kb _ _ (WC.sr (WL.r 1 ht [0] rfl (WL.st bX ht 2 rfl rfl (fun _ hw=>WL.r 1 hw [] rfl (WL.nil (WC.ret ?_)))))))
 refine di rfl (cb.cellA bX hw 2 rfl rfl rfl rfl) (cb.tmp rfl) ?_
 rw [hg]
 refine ⟨rc,_,rfl,(St.keep1 (hw.fr c4)),?_,?_⟩
 · exact g9
 · exact Gn
set_option maxHeartbeats 4000000 in
theorem BW (a:dX) (b:dX) (w:World) (f_a:dC 549755813888 w a) (f_b:dC 549755813888 w b) (hab:a.dat=b.dat) :
    Calls Tryz.prog 279 #[.agg (ph a).toArray,.agg (ph b).toArray] w fun e w'=>e = .returned (.bool true)∧St w [] [] w':=by
 have Z:=f_a.Cells_n
 have ad:=f_a.Cells.len
 have ag:=f_b.Cells_n
 have al:=f_b.Cells.len
 have G:a.W=b.W:=congrArg (·.W) hab
 have I:a.H=b.H:=congrArg (·.H) hab
 have aB:a.Cells.xs=b.Cells.xs:=congrArg (·.Cells) hab
 refine enter 21 Tryz.func279 rfl Tryz.ntmps279 rfl rfl ?_
 have M:=St.init w
 refine WC.sr (WL.bx M rfl (fun b2 _ N=>WL.bx N rfl (fun b4 _ E=>WL.r 1 E [] rfl (WL.nil (WC.seq (fun K6 O=>WC.r1 E [1,0] rfl (WC.condF rfl (by simp [G,I]) ?_)))))))
 refine WC.skip (O _ _ (WC.seq (fun K8 U=>WC.r1 E [1,0] rfl (WC.condF rfl (by simp [G,I]) (WC.skip (U _ _ (WC.seq (fun a8 V=>?_))))))))
 refine WC.sr (WL.r 4 E [1,0] rfl (WL.c0 E Tryz.call334 rfl (Fs _ _ _ _ _ _ _ _ _ (bN.st0 f_a.Cells E) (bN.st0 f_b.Cells E) ?_ ?_) (fun _ J=>?_)))
 iterate 2 first | assumption | rfl | omega
 refine WL.r 1 J [] rfl (WL.nil (WC.condF rfl (by simp [G,I]) (WC.skip (V _ _ (WC.r1 J [] rfl (WC.ret ?_))))))
 refine rtv rfl rfl J ?_
 rfl
set_option maxHeartbeats 4000000 in
theorem EM (a:gB) (b:gB) (w:World) (f_a:gh 549755813888 w a) (f_b:gh 549755813888 w b) (hab:a.dat=b.dat) :
    Calls Tryz.prog 223 #[.agg (vp a).toArray,.agg (vp b).toArray] w fun e w'=>e = .returned (.bool true)∧St w [] [] w':=by
 have ag:=f_a.Args_n
 have al:=f_a.Args.len
 have aB:=f_a.Part_n
 have a1:=f_a.Part.len
 have a2:=f_b.Args_n
 have a6:=f_b.Args.len
 have a7:=f_b.Part_n
 have a8:=f_b.Part.len
 have I:a.State=b.State:=congrArg (·.State) hab
 have J:a.Mark=b.Mark:=congrArg (·.Mark) hab
 have ba:a.Args.xs=b.Args.xs:=congrArg (·.Args) hab
 have bb:a.Part.xs=b.Part.xs:=congrArg (·.Part) hab
 refine enter 27 Tryz.func223 rfl Tryz.ntmps223 rfl rfl ?_
 have N:=St.init w
 refine WC.sr (WL.bx N rfl (fun b2 _ O=>WL.bx O rfl (fun b4 _ E=>WL.r 1 E [] rfl (WL.nil (WC.seq (fun K6 U=>WC.r1 E [1,0] rfl (WC.condF rfl (by simp [I,J]) ?_)))))))
 refine WC.skip (U _ _ (WC.seq (fun K8 V=>WC.r1 E [1,0] rfl (WC.condF rfl (by simp [I,J]) (WC.skip (V _ _ (WC.seq (fun b0 Z=>?_))))))))
 refine WC.sr (WL.r 4 E [1,0] rfl (WL.c0 E Tryz.call162 rfl (DF _ _ _ _ _ _ _ _ _ (bN.st0 f_a.Args E) (bN.st0 f_b.Args E) ?_ ?_) (fun _ G=>?_)))
 iterate 2 first | assumption | rfl | omega
 refine WL.r 1 G [] rfl (WL.nil (WC.condF rfl (by simp [I,J]) (WC.skip (Z _ _ (WC.seq (fun b1 ad=>WC.sr ?_))))))
 refine WL.r 4 G [1,0] rfl (WL.c0 G Tryz.call10 rfl (Fp _ _ _ _ _ _ _ _ _ (bN.st0 f_a.Part G) (bN.st0 f_b.Part G) ?_ ?_) (fun _ M=>?_))
 iterate 2 first | assumption | rfl | omega
 refine WL.r 1 M [] rfl (WL.nil (WC.condF rfl (by simp [I,J]) (WC.skip (ad _ _ (WC.r1 M [] rfl (WC.ret ?_))))))
 refine rtv rfl rfl M ?_
 rfl
set_option maxHeartbeats 4000000 in
theorem EC (a:dq) (b:dq) (w:World) (f_a:eh 549755813888 w a) (f_b:eh 549755813888 w b) (hab:a.dat=b.dat) :
    Calls Tryz.prog 335 #[.agg #[.slice a.Cells.A a.Cells.n a.Cells.c],.agg #[.slice b.Cells.A b.Cells.n b.Cells.c]] w fun e w'=>e = .returned (.bool true)∧St w [] [] w':=by
 have N:=f_a.Cells_n
 have O:=f_a.Cells.len
 have U:=f_b.Cells_n
 have V:=f_b.Cells.len
 have Z:a.Cells.xs=b.Cells.xs:=congrArg (·.Cells) hab
 refine enter 11 Tryz.func335 rfl Tryz.ntmps335 rfl rfl ?_
 have I:=St.init w
 refine WC.sr (WL.bx I rfl (fun b2 _ J=>WL.bx J rfl (fun b4 _ E=>WL.r 1 E [] rfl (WL.nil (WC.seq (fun K6 M=>WC.sr (WL.r 4 E [1,0] rfl ?_)))))))
 refine WL.c0 E Tryz.call334 rfl (Fs _ _ _ _ _ _ _ _ _ (bN.st0 f_a.Cells E) (bN.st0 f_b.Cells E) ?_ ?_) (fun _ G=>?_)
 iterate 2 first | assumption | rfl | omega
 refine WL.r 1 G [] rfl (WL.nil (WC.condF rfl (by simp) (WC.skip (M _ _ (WC.r1 G [] rfl (WC.ret ?_))))))
 refine rtv rfl rfl G ?_
 rfl
theorem EO (A_a:Option Addr) (n_a c_a:Nat) (a:List dq) (A_b:Option Addr) (n_b c_b:Nat) (b:List dq) (w:World) (f_a:cT cB (eh 549755813888) w A_a n_a a) (f_b:cT cB (eh 549755813888) w A_b n_b b) (hn:n_a≤549755813888) (hab:a.map dq.dat=b.map dq.dat) :
    Calls Tryz.prog 281 #[.slice A_a n_a c_a,.slice A_b n_b c_b] w fun e w'=>e = .returned (.bool true)∧St w [] [] w':=by
 have M:=f_a.sl.len
 obtain rfl:n_a=n_b:=by have I:=congrArg List.length hab;simp only [List.length_map] at I;rw [← M,I];exact f_b.sl.len
 refine enter 27 Tryz.func281 rfl Tryz.ntmps281 rfl rfl ?_
 have E:=St.init w
 refine WC.r1 E [] rfl (WC.seq (fun K2 N=>WC.r1 E [] rfl (WC.condF rfl (by simp) (WC.skip (N _ _ (WC.seq (fun K4 O=>WC.r1 E [] rfl ?_)))))))
 refine WC.block (WC.lS [0,1,10] rfl E (fun k_ f w'=>∃ (i:Nat),k_=n_a-i∧(i≤n_a)∧cC [(5,.int .i64 i)] f) ((fun (i:Nat)=>n_a-i) (0)) ?_ ?_)
 ·refine ⟨0,rfl,?_,⟨rfl,trivial⟩⟩
  · exact Nat.zero_le _
 clear E
 rintro _ f w ⟨i,rfl,p0,hG⟩ hF G
 refine WC.sub _ (hG.app hF) ?_
 clear hG hF
 refine WC.seq (fun K6 U=>WC.r1 G [] rfl ?_)
 refine WC.cD rfl (fun V=>?_) (fun V=>?_)
 ·have a1:=qD (F:=cB) (i:=i) hab (by omega)
  refine WC.skip (U _ _ (WC.seq (fun K8 Z=>WC.block (WC.sq1 G (WQ.r 2 [] rfl ?_)))))
  refine WQ.val rfl rfl rfl (fun w_ hs_=>(bP.idxN aN aD rfl rfl rfl ?_ ?_ ?_)) ?_
  · exact bN.some_ (bN.st0 f_a.sl (hs_:St _ _ _ _))
  · omega
  · omega
  refine WQ.val rfl rfl rfl (fun w_ hs_=>(bP.loadA bh aD rfl rfl (bN.whole (bN.st0 f_a.sl (hs_:St _ _ _ _)) ?_))) ?_
  · omega
  refine WQ.r 2 [] rfl ?_
  refine WQ.val rfl rfl rfl (fun w_ hs_=>(bP.idxN aN aD rfl rfl rfl ?_ ?_ ?_)) ?_
  · exact bN.some_ (bN.st0 f_b.sl (hs_:St _ _ _ _))
  · omega
  · omega
  refine WQ.val rfl rfl rfl (fun w_ hs_=>(bP.loadA bh aD rfl rfl (bN.whole (bN.st0 f_b.sl (hs_:St _ _ _ _)) ?_))) ?_
  · omega
  refine WQ.c0 Tryz.call335 rfl (fun w_ hs_=>EC (bO cB a i) (bO cB b i) _ (eh.st0 (cT.nth f_a (by omega)) (hs_:St _ _ _ _)) (eh.st0 (cT.nth f_b (by omega)) (hs_:St _ _ _ _)) ?_) ?_
  · first | assumption | rfl | omega
  refine WQ.r 1 [] rfl (WQ.nil (fun _ (J:St _ _ _ _)=>WC.condF rfl (by simp) (WC.skip (Z _ _ (WC.region (WL.r 3 J [] rfl (WL.nil ?_)))))))
  refine cQ (⟨cR rfl,J,_,?_,i+1,rfl,?_,⟨rfl,trivial⟩⟩)
  · omega
  · omega
 refine WC.exit (O _ _ (WC.r1 G [] rfl (WC.ret (rtv rfl rfl G ?_))))
 rfl
set_option maxHeartbeats 4000000 in
theorem D9 (a:fj) (b:fj) (w:World) (f_a:fK 549755813888 w a) (f_b:fK 549755813888 w b) (hab:a.dat=b.dat) :
    Calls Tryz.prog 224 #[.agg (pQ a).toArray,.agg (pQ b).toArray] w fun e w'=>e = .returned (.bool true)∧St w [] [] w':=by
 have d6:=f_a.Main.Cells_n
 have d7:=f_a.Main.Cells.len
 have d8:=f_a.Alt.Cells_n
 have d9:=f_a.Alt.Cells.len
 have ea:=f_a.Tabs_n
 have ec:=f_a.Tabs.len
 have el:=f_a.Back_n
 have em:=f_a.Back.sl.len
 have es:=f_b.Main.Cells_n
 have et:=f_b.Main.Cells.len
 have eA:=f_b.Alt.Cells_n
 have eO:=f_b.Alt.Cells.len
 have e0:=f_b.Tabs_n
 have e1:=f_b.Tabs.len
 have e2:=f_b.Back_n
 have e3:=f_b.Back.sl.len
 have E:a.W=b.W:=congrArg (·.W) hab
 have G:a.H=b.H:=congrArg (·.H) hab
 have e4:a.Main.dat=b.Main.dat:=congrArg (·.Main) hab
 have I:a.Main.W=b.Main.W:=congrArg (·.Main.W) hab
 have J:a.Main.H=b.Main.H:=congrArg (·.Main.H) hab
 have e5:a.Main.Cells.xs=b.Main.Cells.xs:=congrArg (·.Main.Cells) hab
 have e6:a.Alt.dat=b.Alt.dat:=congrArg (·.Alt) hab
 have M:a.Alt.W=b.Alt.W:=congrArg (·.Alt.W) hab
 have N:a.Alt.H=b.Alt.H:=congrArg (·.Alt.H) hab
 have e7:a.Alt.Cells.xs=b.Alt.Cells.xs:=congrArg (·.Alt.Cells) hab
 have O:a.OnAlt=b.OnAlt:=congrArg (·.OnAlt) hab
 have U:a.X=b.X:=congrArg (·.X) hab
 have V:a.Y=b.Y:=congrArg (·.Y) hab
 have Z:a.Wrap=b.Wrap:=congrArg (·.Wrap) hab
 have e8:a.A=b.A:=congrArg (·.A) hab
 have ad:a.A.Fg=b.A.Fg:=congrArg (·.A.Fg) hab
 have ag:a.A.Bg=b.A.Bg:=congrArg (·.A.Bg) hab
 have al:a.A.Bold=b.A.Bold:=congrArg (·.A.Bold) hab
 have aB:a.A.Under=b.A.Under:=congrArg (·.A.Under) hab
 have a1:a.A.Turn=b.A.Turn:=congrArg (·.A.Turn) hab
 have a2:a.Top=b.Top:=congrArg (·.Top) hab
 have a6:a.Bot=b.Bot:=congrArg (·.Bot) hab
 have a7:a.NoWrap=b.NoWrap:=congrArg (·.NoWrap) hab
 have a8:a.Hide=b.Hide:=congrArg (·.Hide) hab
 have ba:a.SaveX=b.SaveX:=congrArg (·.SaveX) hab
 have bb:a.SaveY=b.SaveY:=congrArg (·.SaveY) hab
 have e9:a.SaveA=b.SaveA:=congrArg (·.SaveA) hab
 have bc:a.SaveA.Fg=b.SaveA.Fg:=congrArg (·.SaveA.Fg) hab
 have bd:a.SaveA.Bg=b.SaveA.Bg:=congrArg (·.SaveA.Bg) hab
 have bg:a.SaveA.Bold=b.SaveA.Bold:=congrArg (·.SaveA.Bold) hab
 have bo:a.SaveA.Under=b.SaveA.Under:=congrArg (·.SaveA.Under) hab
 have b0:a.SaveA.Turn=b.SaveA.Turn:=congrArg (·.SaveA.Turn) hab
 have fb:a.Tabs.xs=b.Tabs.xs:=congrArg (·.Tabs) hab
 have b1:a.Limit=b.Limit:=congrArg (·.Limit) hab
 have fd:a.Back.xs.map dq.dat=b.Back.xs.map dq.dat:=congrArg (·.Back) hab
 refine enter 106 Tryz.func224 rfl Tryz.ntmps224 rfl rfl ?_
 have cq:=St.init w
 refine WC.sr (WL.bx cq rfl (fun b2 _ cD=>WL.bx cD rfl (fun b4 _ b5=>WL.r 1 b5 [] rfl (WL.nil (WC.seq (fun K6 cN=>WC.r1 b5 [1,0] rfl (WC.condF rfl (by simp [E,G,I,J,M,N,O,U,V,Z,ad,ag,al,aB,a1,a2,a6,a7,a8,ba,bb,bc,bd,bg,bo,b0,b1]) ?_)))))))
 refine WC.skip (cN _ _ (WC.seq (fun K8 c1=>WC.r1 b5 [1,0] rfl (WC.condF rfl (by simp [E,G,I,J,M,N,O,U,V,Z,ad,ag,al,aB,a1,a2,a6,a7,a8,ba,bb,bc,bd,bg,bo,b0,b1]) (WC.skip (c1 _ _ (WC.seq (fun f1 c2=>?_))))))))
 refine WC.sr (WL.r 4 b5 [1,0] rfl (WL.c0 b5 Tryz.call279 rfl (BW a.Main b.Main _ (dC.st0 f_a.Main b5) (dC.st0 f_b.Main b5) ?_) (fun _ b8=>?_)))
 · first | assumption | rfl | omega
 refine WL.r 1 b8 [] rfl (WL.nil (WC.condF rfl (by simp [E,G,I,J,M,N,O,U,V,Z,ad,ag,al,aB,a1,a2,a6,a7,a8,ba,bb,bc,bd,bg,bo,b0,b1]) (WC.skip (c2 _ _ (WC.seq (fun f2 c3=>WC.sr ?_))))))
 refine WL.r 4 b8 [1,0] rfl (WL.c0 b8 Tryz.call279 rfl (BW a.Alt b.Alt _ (dC.st0 f_a.Alt b8) (dC.st0 f_b.Alt b8) ?_) (fun _ b6=>?_))
 · first | assumption | rfl | omega
 refine WL.r 1 b6 [] rfl (WL.nil (WC.condF rfl (by simp [E,G,I,J,M,N,O,U,V,Z,ad,ag,al,aB,a1,a2,a6,a7,a8,ba,bb,bc,bd,bg,bo,b0,b1]) (WC.skip (c3 _ _ (WC.seq (fun f3 c4=>WC.r1 b6 [1,0] rfl ?_))))))
 refine WC.condF rfl (by simp [E,G,I,J,M,N,O,U,V,Z,ad,ag,al,aB,a1,a2,a6,a7,a8,ba,bb,bc,bd,bg,bo,b0,b1]) (WC.skip (c4 _ _ (WC.seq (fun f4 c5=>WC.r1 b6 [1,0] rfl (WC.condF rfl (by simp [E,G,I,J,M,N,O,U,V,Z,ad,ag,al,aB,a1,a2,a6,a7,a8,ba,bb,bc,bd,bg,bo,b0,b1]) ?_)))))
 refine WC.skip (c5 _ _ (WC.seq (fun f5 c6=>WC.r1 b6 [1,0] rfl (WC.condF rfl (by simp [E,G,I,J,M,N,O,U,V,Z,ad,ag,al,aB,a1,a2,a6,a7,a8,ba,bb,bc,bd,bg,bo,b0,b1]) (WC.skip (c6 _ _ (WC.seq (fun ga c7=>?_))))))))
 refine WC.r1 b6 [1,0] rfl (WC.condF rfl (by simp [E,G,I,J,M,N,O,U,V,Z,ad,ag,al,aB,a1,a2,a6,a7,a8,ba,bb,bc,bd,bg,bo,b0,b1]) (WC.skip (c7 _ _ (WC.seq (fun gb c8=>WC.sr (WL.r 4 b6 [1,0] rfl ?_))))))
 refine WL.c0 b6 Tryz.call280 rfl (C6 _ _ _ _ _ _ _ _ _ _ _ ?_) (fun _ b3=>?_)
 · first | assumption | rfl | omega
 refine WL.r 1 b3 [] rfl (WL.nil (WC.condF rfl (by simp [E,G,I,J,M,N,O,U,V,Z,ad,ag,al,aB,a1,a2,a6,a7,a8,ba,bb,bc,bd,bg,bo,b0,b1]) (WC.skip (c8 _ _ (WC.seq (fun gc c9=>WC.r1 b3 [1,0] rfl ?_))))))
 refine WC.condF rfl (by simp [E,G,I,J,M,N,O,U,V,Z,ad,ag,al,aB,a1,a2,a6,a7,a8,ba,bb,bc,bd,bg,bo,b0,b1]) (WC.skip (c9 _ _ (WC.seq (fun gm dj=>WC.r1 b3 [1,0] rfl (WC.condF rfl (by simp [E,G,I,J,M,N,O,U,V,Z,ad,ag,al,aB,a1,a2,a6,a7,a8,ba,bb,bc,bd,bg,bo,b0,b1]) ?_)))))
 refine WC.skip (dj _ _ (WC.seq (fun gs dn=>WC.r1 b3 [1,0] rfl (WC.condF rfl (by simp [E,G,I,J,M,N,O,U,V,Z,ad,ag,al,aB,a1,a2,a6,a7,a8,ba,bb,bc,bd,bg,bo,b0,b1]) (WC.skip (dn _ _ (WC.seq (fun gL ds=>?_))))))))
 refine WC.r1 b3 [1,0] rfl (WC.condF rfl (by simp [E,G,I,J,M,N,O,U,V,Z,ad,ag,al,aB,a1,a2,a6,a7,a8,ba,bb,bc,bd,bg,bo,b0,b1]) (WC.skip (ds _ _ (WC.seq (fun gO d0=>WC.r1 b3 [1,0] rfl (WC.condF rfl (by simp [E,G,I,J,M,N,O,U,V,Z,ad,ag,al,aB,a1,a2,a6,a7,a8,ba,bb,bc,bd,bg,bo,b0,b1]) ?_))))))
 refine WC.skip (d0 _ _ (WC.seq (fun g0 d1=>WC.r1 b3 [1,0] rfl (WC.condF rfl (by simp [E,G,I,J,M,N,O,U,V,Z,ad,ag,al,aB,a1,a2,a6,a7,a8,ba,bb,bc,bd,bg,bo,b0,b1]) (WC.skip (d1 _ _ (WC.seq (fun g1 d2=>?_))))))))
 refine WC.sr (WL.r 4 b3 [1,0] rfl (WL.c0 b3 Tryz.call280 rfl (C6 _ _ _ _ _ _ _ _ _ _ _ ?_) (fun _ b9=>?_)))
 · first | assumption | rfl | omega
 refine WL.r 1 b9 [] rfl (WL.nil (WC.condF rfl (by simp [E,G,I,J,M,N,O,U,V,Z,ad,ag,al,aB,a1,a2,a6,a7,a8,ba,bb,bc,bd,bg,bo,b0,b1]) (WC.skip (d2 _ _ (WC.seq (fun g2 d3=>WC.sr ?_))))))
 refine WL.r 4 b9 [1,0] rfl (WL.c0 b9 Tryz.call162 rfl (DF _ _ _ _ _ _ _ _ _ (bN.st0 f_a.Tabs b9) (bN.st0 f_b.Tabs b9) ?_ ?_) (fun _ b7=>?_))
 iterate 2 first | assumption | rfl | omega
 refine WL.r 1 b7 [] rfl (WL.nil (WC.condF rfl (by simp [E,G,I,J,M,N,O,U,V,Z,ad,ag,al,aB,a1,a2,a6,a7,a8,ba,bb,bc,bd,bg,bo,b0,b1]) (WC.skip (d3 _ _ (WC.seq (fun g3 d4=>WC.r1 b7 [1,0] rfl ?_))))))
 refine WC.condF rfl (by simp [E,G,I,J,M,N,O,U,V,Z,ad,ag,al,aB,a1,a2,a6,a7,a8,ba,bb,bc,bd,bg,bo,b0,b1]) (WC.skip (d4 _ _ (WC.seq (fun g4 d5=>WC.sr (WL.r 4 b7 [1,0] rfl ?_)))))
 refine WL.c0 b7 Tryz.call281 rfl (EO _ _ _ _ _ _ _ _ _ (cT.st0 eh.st0 f_a.Back b7) (cT.st0 eh.st0 f_b.Back b7) ?_ ?_) (fun _ ck=>?_)
 iterate 2 first | assumption | rfl | omega
 refine WL.r 1 ck [] rfl (WL.nil (WC.condF rfl (by simp [E,G,I,J,M,N,O,U,V,Z,ad,ag,al,aB,a1,a2,a6,a7,a8,ba,bb,bc,bd,bg,bo,b0,b1]) (WC.skip (d5 _ _ (WC.r1 ck [] rfl (WC.ret ?_))))))
 refine rtv rfl rfl ck ?_
 rfl
set_option maxHeartbeats 4000000 in
theorem D8 (a:eL) (b:eL) (w:World) (f_a:dU 549755813888 w a) (f_b:dU 549755813888 w b) (hab:a.dat=b.dat) :
    Calls Tryz.prog 160 #[.agg (kX a).toArray,.agg (kX b).toArray] w fun e w'=>e = .returned (.bool true)∧St w [] [] w':=by
 have cN:=f_a.P.Args_n
 have c1:=f_a.P.Args.len
 have c2:=f_a.P.Part_n
 have c3:=f_a.P.Part.len
 have c4:=f_a.S.Main.Cells_n
 have c5:=f_a.S.Main.Cells.len
 have c6:=f_a.S.Alt.Cells_n
 have c7:=f_a.S.Alt.Cells.len
 have c8:=f_a.S.Tabs_n
 have c9:=f_a.S.Tabs.len
 have dj:=f_a.S.Back_n
 have dn:=f_a.S.Back.sl.len
 have ds:=f_b.P.Args_n
 have d0:=f_b.P.Args.len
 have d1:=f_b.P.Part_n
 have d2:=f_b.P.Part.len
 have d3:=f_b.S.Main.Cells_n
 have d4:=f_b.S.Main.Cells.len
 have d5:=f_b.S.Alt.Cells_n
 have d6:=f_b.S.Alt.Cells.len
 have d7:=f_b.S.Tabs_n
 have d8:=f_b.S.Tabs.len
 have d9:=f_b.S.Back_n
 have ea:=f_b.S.Back.sl.len
 have ec:a.P.dat=b.P.dat:=congrArg (·.P) hab
 have J:a.P.State=b.P.State:=congrArg (·.P.State) hab
 have M:a.P.Mark=b.P.Mark:=congrArg (·.P.Mark) hab
 have el:a.P.Args.xs=b.P.Args.xs:=congrArg (·.P.Args) hab
 have em:a.P.Part.xs=b.P.Part.xs:=congrArg (·.P.Part) hab
 have es:a.S.dat=b.S.dat:=congrArg (·.S) hab
 have N:a.S.W=b.S.W:=congrArg (·.S.W) hab
 have O:a.S.H=b.S.H:=congrArg (·.S.H) hab
 have et:a.S.Main.dat=b.S.Main.dat:=congrArg (·.S.Main) hab
 have U:a.S.Main.W=b.S.Main.W:=congrArg (·.S.Main.W) hab
 have V:a.S.Main.H=b.S.Main.H:=congrArg (·.S.Main.H) hab
 have eA:a.S.Main.Cells.xs=b.S.Main.Cells.xs:=congrArg (·.S.Main.Cells) hab
 have eO:a.S.Alt.dat=b.S.Alt.dat:=congrArg (·.S.Alt) hab
 have Z:a.S.Alt.W=b.S.Alt.W:=congrArg (·.S.Alt.W) hab
 have ad:a.S.Alt.H=b.S.Alt.H:=congrArg (·.S.Alt.H) hab
 have e0:a.S.Alt.Cells.xs=b.S.Alt.Cells.xs:=congrArg (·.S.Alt.Cells) hab
 have ag:a.S.OnAlt=b.S.OnAlt:=congrArg (·.S.OnAlt) hab
 have al:a.S.X=b.S.X:=congrArg (·.S.X) hab
 have aB:a.S.Y=b.S.Y:=congrArg (·.S.Y) hab
 have a1:a.S.Wrap=b.S.Wrap:=congrArg (·.S.Wrap) hab
 have e1:a.S.A=b.S.A:=congrArg (·.S.A) hab
 have a2:a.S.A.Fg=b.S.A.Fg:=congrArg (·.S.A.Fg) hab
 have a6:a.S.A.Bg=b.S.A.Bg:=congrArg (·.S.A.Bg) hab
 have a7:a.S.A.Bold=b.S.A.Bold:=congrArg (·.S.A.Bold) hab
 have a8:a.S.A.Under=b.S.A.Under:=congrArg (·.S.A.Under) hab
 have ba:a.S.A.Turn=b.S.A.Turn:=congrArg (·.S.A.Turn) hab
 have bb:a.S.Top=b.S.Top:=congrArg (·.S.Top) hab
 have bc:a.S.Bot=b.S.Bot:=congrArg (·.S.Bot) hab
 have bd:a.S.NoWrap=b.S.NoWrap:=congrArg (·.S.NoWrap) hab
 have bg:a.S.Hide=b.S.Hide:=congrArg (·.S.Hide) hab
 have bo:a.S.SaveX=b.S.SaveX:=congrArg (·.S.SaveX) hab
 have b0:a.S.SaveY=b.S.SaveY:=congrArg (·.S.SaveY) hab
 have e2:a.S.SaveA=b.S.SaveA:=congrArg (·.S.SaveA) hab
 have b1:a.S.SaveA.Fg=b.S.SaveA.Fg:=congrArg (·.S.SaveA.Fg) hab
 have b3:a.S.SaveA.Bg=b.S.SaveA.Bg:=congrArg (·.S.SaveA.Bg) hab
 have b5:a.S.SaveA.Bold=b.S.SaveA.Bold:=congrArg (·.S.SaveA.Bold) hab
 have b6:a.S.SaveA.Under=b.S.SaveA.Under:=congrArg (·.S.SaveA.Under) hab
 have b7:a.S.SaveA.Turn=b.S.SaveA.Turn:=congrArg (·.S.SaveA.Turn) hab
 have e3:a.S.Tabs.xs=b.S.Tabs.xs:=congrArg (·.S.Tabs) hab
 have b8:a.S.Limit=b.S.Limit:=congrArg (·.S.Limit) hab
 have e4:a.S.Back.xs.map dq.dat=b.S.Back.xs.map dq.dat:=congrArg (·.S.Back) hab
 refine enter 17 Tryz.func160 rfl Tryz.ntmps160 rfl rfl ?_
 have b9:=St.init w
 refine WC.sr (WL.bx b9 rfl (fun b2 _ ck=>WL.bx ck rfl (fun b4 _ E=>WL.r 1 E [] rfl (WL.nil (WC.seq (fun K6 cq=>WC.sr (WL.r 4 E [1,0] rfl ?_)))))))
 refine WL.c0 E Tryz.call223 rfl (EM a.P b.P _ (gh.st0 f_a.P E) (gh.st0 f_b.P E) ?_) (fun _ G=>?_)
 · first | assumption | rfl | omega
 refine WL.r 1 G [] rfl (WL.nil (WC.condF rfl (by simp [J,M,N,O,U,V,Z,ad,ag,al,aB,a1,a2,a6,a7,a8,ba,bb,bc,bd,bg,bo,b0,b1,b3,b5,b6,b7,b8]) (WC.skip (cq _ _ (WC.seq (fun K9 cD=>WC.sr ?_))))))
 refine WL.r 4 G [1,0] rfl (WL.c0 G Tryz.call224 rfl (D9 a.S b.S _ (fK.st0 f_a.S G) (fK.st0 f_b.S G) ?_) (fun _ I=>?_))
 · first | assumption | rfl | omega
 refine WL.r 1 I [] rfl (WL.nil (WC.condF rfl (by simp [J,M,N,O,U,V,Z,ad,ag,al,aB,a1,a2,a6,a7,a8,ba,bb,bc,bd,bg,bo,b0,b1,b3,b5,b6,b7,b8]) (WC.skip (cD _ _ (WC.r1 I [] rfl (WC.ret ?_))))))
 refine rtv rfl rfl I ?_
 rfl
set_option maxHeartbeats 4000000 in
theorem El (a:cr) (b:cr) (w:World) (f_a:dz 549755813888 w a) (f_b:dz 549755813888 w b) (hab:a.dat=b.dat) :
    Calls Tryz.prog 95 #[.agg (mo a).toArray,.agg (mo b).toArray] w fun e w'=>e = .returned (.bool true)∧St w [] [] w':=by
 have dj:=f_a.Cmd_z
 have dn:=f_a.Dir_z
 have ds:=f_a.Term.P.Args_n
 have d0:=f_a.Term.P.Args.len
 have d1:=f_a.Term.P.Part_n
 have d2:=f_a.Term.P.Part.len
 have d3:=f_a.Term.S.Main.Cells_n
 have d4:=f_a.Term.S.Main.Cells.len
 have d5:=f_a.Term.S.Alt.Cells_n
 have d6:=f_a.Term.S.Alt.Cells.len
 have d7:=f_a.Term.S.Tabs_n
 have d8:=f_a.Term.S.Tabs.len
 have d9:=f_a.Term.S.Back_n
 have ea:=f_a.Term.S.Back.sl.len
 have ec:=f_b.Cmd_z
 have el:=f_b.Dir_z
 have em:=f_b.Term.P.Args_n
 have es:=f_b.Term.P.Args.len
 have et:=f_b.Term.P.Part_n
 have eA:=f_b.Term.P.Part.len
 have eO:=f_b.Term.S.Main.Cells_n
 have e0:=f_b.Term.S.Main.Cells.len
 have e1:=f_b.Term.S.Alt.Cells_n
 have e2:=f_b.Term.S.Alt.Cells.len
 have e3:=f_b.Term.S.Tabs_n
 have e4:=f_b.Term.S.Tabs.len
 have e5:=f_b.Term.S.Back_n
 have e6:=f_b.Term.S.Back.sl.len
 have G:a.Id=b.Id:=congrArg (·.Id) hab
 have I:a.Cmd=b.Cmd:=congrArg (·.Cmd) hab
 have J:a.Dir=b.Dir:=congrArg (·.Dir) hab
 have M:a.Life=b.Life:=congrArg (·.Life) hab
 have N:a.Code=b.Code:=congrArg (·.Code) hab
 have O:a.Pid=b.Pid:=congrArg (·.Pid) hab
 have e7:a.Term.dat=b.Term.dat:=congrArg (·.Term) hab
 have e8:a.Term.P.dat=b.Term.P.dat:=congrArg (·.Term.P) hab
 have U:a.Term.P.State=b.Term.P.State:=congrArg (·.Term.P.State) hab
 have V:a.Term.P.Mark=b.Term.P.Mark:=congrArg (·.Term.P.Mark) hab
 have e9:a.Term.P.Args.xs=b.Term.P.Args.xs:=congrArg (·.Term.P.Args) hab
 have fb:a.Term.P.Part.xs=b.Term.P.Part.xs:=congrArg (·.Term.P.Part) hab
 have fd:a.Term.S.dat=b.Term.S.dat:=congrArg (·.Term.S) hab
 have Z:a.Term.S.W=b.Term.S.W:=congrArg (·.Term.S.W) hab
 have ad:a.Term.S.H=b.Term.S.H:=congrArg (·.Term.S.H) hab
 have fg:a.Term.S.Main.dat=b.Term.S.Main.dat:=congrArg (·.Term.S.Main) hab
 have ag:a.Term.S.Main.W=b.Term.S.Main.W:=congrArg (·.Term.S.Main.W) hab
 have al:a.Term.S.Main.H=b.Term.S.Main.H:=congrArg (·.Term.S.Main.H) hab
 have fl:a.Term.S.Main.Cells.xs=b.Term.S.Main.Cells.xs:=congrArg (·.Term.S.Main.Cells) hab
 have fo:a.Term.S.Alt.dat=b.Term.S.Alt.dat:=congrArg (·.Term.S.Alt) hab
 have aB:a.Term.S.Alt.W=b.Term.S.Alt.W:=congrArg (·.Term.S.Alt.W) hab
 have a1:a.Term.S.Alt.H=b.Term.S.Alt.H:=congrArg (·.Term.S.Alt.H) hab
 have fr:a.Term.S.Alt.Cells.xs=b.Term.S.Alt.Cells.xs:=congrArg (·.Term.S.Alt.Cells) hab
 have a2:a.Term.S.OnAlt=b.Term.S.OnAlt:=congrArg (·.Term.S.OnAlt) hab
 have a6:a.Term.S.X=b.Term.S.X:=congrArg (·.Term.S.X) hab
 have a7:a.Term.S.Y=b.Term.S.Y:=congrArg (·.Term.S.Y) hab
 have a8:a.Term.S.Wrap=b.Term.S.Wrap:=congrArg (·.Term.S.Wrap) hab
 have f1:a.Term.S.A=b.Term.S.A:=congrArg (·.Term.S.A) hab
 have ba:a.Term.S.A.Fg=b.Term.S.A.Fg:=congrArg (·.Term.S.A.Fg) hab
 have bb:a.Term.S.A.Bg=b.Term.S.A.Bg:=congrArg (·.Term.S.A.Bg) hab
 have bc:a.Term.S.A.Bold=b.Term.S.A.Bold:=congrArg (·.Term.S.A.Bold) hab
 have bd:a.Term.S.A.Under=b.Term.S.A.Under:=congrArg (·.Term.S.A.Under) hab
 have bg:a.Term.S.A.Turn=b.Term.S.A.Turn:=congrArg (·.Term.S.A.Turn) hab
 have bo:a.Term.S.Top=b.Term.S.Top:=congrArg (·.Term.S.Top) hab
 have b0:a.Term.S.Bot=b.Term.S.Bot:=congrArg (·.Term.S.Bot) hab
 have b1:a.Term.S.NoWrap=b.Term.S.NoWrap:=congrArg (·.Term.S.NoWrap) hab
 have b3:a.Term.S.Hide=b.Term.S.Hide:=congrArg (·.Term.S.Hide) hab
 have b5:a.Term.S.SaveX=b.Term.S.SaveX:=congrArg (·.Term.S.SaveX) hab
 have b6:a.Term.S.SaveY=b.Term.S.SaveY:=congrArg (·.Term.S.SaveY) hab
 have f2:a.Term.S.SaveA=b.Term.S.SaveA:=congrArg (·.Term.S.SaveA) hab
 have b7:a.Term.S.SaveA.Fg=b.Term.S.SaveA.Fg:=congrArg (·.Term.S.SaveA.Fg) hab
 have b8:a.Term.S.SaveA.Bg=b.Term.S.SaveA.Bg:=congrArg (·.Term.S.SaveA.Bg) hab
 have b9:a.Term.S.SaveA.Bold=b.Term.S.SaveA.Bold:=congrArg (·.Term.S.SaveA.Bold) hab
 have ck:a.Term.S.SaveA.Under=b.Term.S.SaveA.Under:=congrArg (·.Term.S.SaveA.Under) hab
 have cq:a.Term.S.SaveA.Turn=b.Term.S.SaveA.Turn:=congrArg (·.Term.S.SaveA.Turn) hab
 have f3:a.Term.S.Tabs.xs=b.Term.S.Tabs.xs:=congrArg (·.Term.S.Tabs) hab
 have cD:a.Term.S.Limit=b.Term.S.Limit:=congrArg (·.Term.S.Limit) hab
 have f4:a.Term.S.Back.xs.map dq.dat=b.Term.S.Back.xs.map dq.dat:=congrArg (·.Term.S.Back) hab
 refine enter 41 Tryz.func95 rfl Tryz.ntmps95 rfl rfl ?_
 have c1:=St.init w
 refine WC.sr (WL.bx c1 rfl (fun b2 _ c2=>WL.bx c2 rfl (fun b4 _ E=>WL.r 1 E [] rfl (WL.nil (WC.seq (fun K6 c3=>WC.r1 E [1,0] rfl (WC.condF rfl (by simp [G,I,J,M,N,O,U,V,Z,ad,ag,al,aB,a1,a2,a6,a7,a8,ba,bb,bc,bd,bg,bo,b0,b1,b3,b5,b6,b7,b8,b9,ck,cq,cD]) ?_)))))))
 refine WC.skip (c3 _ _ (WC.seq (fun K8 c4=>WC.r1 E [1,0] rfl (WC.condF rfl (by simp [G,I,J,M,N,O,U,V,Z,ad,ag,al,aB,a1,a2,a6,a7,a8,ba,bb,bc,bd,bg,bo,b0,b1,b3,b5,b6,b7,b8,b9,ck,cq,cD]) ?_))))
 refine WC.skip (c4 _ _ (WC.seq (fun gm c5=>WC.r1 E [1,0] rfl (WC.condF rfl (by simp [G,I,J,M,N,O,U,V,Z,ad,ag,al,aB,a1,a2,a6,a7,a8,ba,bb,bc,bd,bg,bo,b0,b1,b3,b5,b6,b7,b8,b9,ck,cq,cD]) ?_))))
 refine WC.skip (c5 _ _ (WC.seq (fun gs c6=>WC.r1 E [1,0] rfl (WC.condF rfl (by simp [G,I,J,M,N,O,U,V,Z,ad,ag,al,aB,a1,a2,a6,a7,a8,ba,bb,bc,bd,bg,bo,b0,b1,b3,b5,b6,b7,b8,b9,ck,cq,cD]) ?_))))
 refine WC.skip (c6 _ _ (WC.seq (fun gL c7=>WC.r1 E [1,0] rfl (WC.condF rfl (by simp [G,I,J,M,N,O,U,V,Z,ad,ag,al,aB,a1,a2,a6,a7,a8,ba,bb,bc,bd,bg,bo,b0,b1,b3,b5,b6,b7,b8,b9,ck,cq,cD]) ?_))))
 refine WC.skip (c7 _ _ (WC.seq (fun gO c8=>WC.r1 E [1,0] rfl (WC.condF rfl (by simp [G,I,J,M,N,O,U,V,Z,ad,ag,al,aB,a1,a2,a6,a7,a8,ba,bb,bc,bd,bg,bo,b0,b1,b3,b5,b6,b7,b8,b9,ck,cq,cD]) ?_))))
 refine WC.skip (c8 _ _ (WC.seq (fun g0 c9=>WC.sr (WL.r 4 E [1,0] rfl ?_))))
 refine WL.c0 E Tryz.call160 rfl (D8 a.Term b.Term _ (dU.st0 f_a.Term E) (dU.st0 f_b.Term E) ?_) (fun _ cN=>?_)
 · first | assumption | rfl | omega
 refine WL.r 1 cN [] rfl (WL.nil (WC.condF rfl (by simp [G,I,J,M,N,O,U,V,Z,ad,ag,al,aB,a1,a2,a6,a7,a8,ba,bb,bc,bd,bg,bo,b0,b1,b3,b5,b6,b7,b8,b9,ck,cq,cD]) (WC.skip (c9 _ _ ?_))))
 refine WC.r1 cN [] rfl (WC.ret (rtv rfl rfl cN ?_))
 rfl
set_option maxHeartbeats 4000000 in
theorem EA (a:dd) (b:dd) (w:World) (f_a:ei 549755813888 w a) (f_b:ei 549755813888 w b) (hab:a.dat=b.dat) :
    Calls Tryz.prog 96 #[.agg (nU a).toArray,.agg (nU b).toArray] w fun e w'=>e = .returned (.bool true)∧St w [] [] w':=by
 have aB:=f_a.Name_z
 have a1:=f_a.Tree_n
 have a2:=f_a.Tree.len
 have a6:=f_b.Name_z
 have a7:=f_b.Tree_n
 have a8:=f_b.Tree.len
 have G:a.Id=b.Id:=congrArg (·.Id) hab
 have I:a.Name=b.Name:=congrArg (·.Name) hab
 have ba:a.Tree.xs=b.Tree.xs:=congrArg (·.Tree) hab
 have J:a.Active=b.Active:=congrArg (·.Active) hab
 have M:a.Zoom=b.Zoom:=congrArg (·.Zoom) hab
 refine enter 31 Tryz.func96 rfl Tryz.ntmps96 rfl rfl ?_
 have O:=St.init w
 refine WC.sr (WL.bx O rfl (fun b2 _ U=>WL.bx U rfl (fun b4 _ E=>WL.r 1 E [] rfl (WL.nil (WC.seq (fun K6 V=>WC.r1 E [1,0] rfl (WC.condF rfl (by simp [G,I,J,M]) ?_)))))))
 refine WC.skip (V _ _ (WC.seq (fun K8 Z=>WC.r1 E [1,0] rfl (WC.condF rfl (by simp [G,I,J,M]) (WC.skip (Z _ _ (WC.seq (fun bo ad=>?_))))))))
 refine WC.sr (WL.r 4 E [1,0] rfl (WL.c0 E Tryz.call161 rfl (FQ _ _ _ _ _ _ _ _ _ (bN.st0 f_a.Tree E) (bN.st0 f_b.Tree E) ?_ ?_) (fun _ N=>?_)))
 iterate 2 first | assumption | rfl | omega
 refine WL.r 1 N [] rfl (WL.nil (WC.condF rfl (by simp [G,I,J,M]) (WC.skip (ad _ _ (WC.seq (fun b0 ag=>WC.r1 N [1,0] rfl ?_))))))
 refine WC.condF rfl (by simp [G,I,J,M]) (WC.skip (ag _ _ (WC.seq (fun b1 al=>WC.r1 N [1,0] rfl (WC.condF rfl (by simp [G,I,J,M]) (WC.skip (al _ _ ?_)))))))
 refine WC.r1 N [] rfl (WC.ret (rtv rfl rfl N ?_))
 rfl
set_option maxHeartbeats 4000000 in
theorem D4 (a:da) (b:da) (w:World) (f_a:ep 549755813888 w a) (f_b:ep 549755813888 w b) (hab:a.dat=b.dat) :
    Calls Tryz.prog 97 #[.agg (xu a).toArray,.agg (xu b).toArray] w fun e w'=>e = .returned (.bool true)∧St w [] [] w':=by
 have Z:=f_a.Name_z
 have ad:=f_a.Wins_n
 have ag:=f_a.Wins.len
 have al:=f_b.Name_z
 have aB:=f_b.Wins_n
 have a1:=f_b.Wins.len
 have I:a.Name=b.Name:=congrArg (·.Name) hab
 have a2:a.Wins.xs=b.Wins.xs:=congrArg (·.Wins) hab
 have J:a.Active=b.Active:=congrArg (·.Active) hab
 refine enter 21 Tryz.func97 rfl Tryz.ntmps97 rfl rfl ?_
 have M:=St.init w
 refine WC.sr (WL.bx M rfl (fun b2 _ N=>WL.bx N rfl (fun b4 _ E=>WL.r 1 E [] rfl (WL.nil (WC.seq (fun K6 O=>WC.r1 E [1,0] rfl (WC.condF rfl (by simp [I,J]) ?_)))))))
 refine WC.skip (O _ _ (WC.seq (fun K8 U=>WC.sr (WL.r 4 E [1,0] rfl ?_))))
 refine WL.c0 E Tryz.call162 rfl (DF _ _ _ _ _ _ _ _ _ (bN.st0 f_a.Wins E) (bN.st0 f_b.Wins E) ?_ ?_) (fun _ G=>?_)
 iterate 2 first | assumption | rfl | omega
 refine WL.r 1 G [] rfl (WL.nil (WC.condF rfl (by simp [I,J]) (WC.skip (U _ _ (WC.seq (fun bb V=>WC.r1 G [1,0] rfl ?_))))))
 refine WC.condF rfl (by simp [I,J]) (WC.skip (V _ _ (WC.r1 G [] rfl (WC.ret (rtv rfl rfl G ?_)))))
 rfl
theorem D2 (A_a:Option Addr) (n_a c_a:Nat) (a:List cr) (A_b:Option Addr) (n_b c_b:Nat) (b:List cr) (w:World) (f_a:cT bW (dz 549755813888) w A_a n_a a) (f_b:cT bW (dz 549755813888) w A_b n_b b) (hn:n_a≤549755813888) (hab:a.map cr.dat=b.map cr.dat) :
    Calls Tryz.prog 39 #[.slice A_a n_a c_a,.slice A_b n_b c_b] w fun e w'=>e = .returned (.bool true)∧St w [] [] w':=by
 have M:=f_a.sl.len
 obtain rfl:n_a=n_b:=by have I:=congrArg List.length hab;simp only [List.length_map] at I;rw [← M,I];exact f_b.sl.len
 refine enter 27 Tryz.func39 rfl Tryz.ntmps39 rfl rfl ?_
 have E:=St.init w
 refine WC.r1 E [] rfl (WC.seq (fun K2 N=>WC.r1 E [] rfl (WC.condF rfl (by simp) (WC.skip (N _ _ (WC.seq (fun K4 O=>WC.r1 E [] rfl ?_)))))))
 refine WC.block (WC.lS [0,1,10] rfl E (fun k_ f w'=>∃ (i:Nat),k_=n_a-i∧(i≤n_a)∧cC [(5,.int .i64 i)] f) ((fun (i:Nat)=>n_a-i) (0)) ?_ ?_)
 ·refine ⟨0,rfl,?_,⟨rfl,trivial⟩⟩
  · exact Nat.zero_le _
 clear E
 rintro _ f w ⟨i,rfl,p0,hG⟩ hF G
 refine WC.sub _ (hG.app hF) ?_
 clear hG hF
 refine WC.seq (fun K6 U=>WC.r1 G [] rfl ?_)
 refine WC.cD rfl (fun V=>?_) (fun V=>?_)
 ·have a1:=qD (F:=bW) (i:=i) hab (by omega)
  refine WC.skip (U _ _ (WC.seq (fun K8 Z=>WC.block (WC.sq1 G (WQ.r 2 [] rfl ?_)))))
  refine WQ.val rfl rfl rfl (fun w_ hs_=>(bP.idxN af ab rfl rfl rfl ?_ ?_ ?_)) ?_
  · exact bN.some_ (bN.st0 f_a.sl (hs_:St _ _ _ _))
  · omega
  · omega
  refine WQ.val rfl rfl rfl (fun w_ hs_=>(bP.loadA aT ab rfl rfl (bN.whole (bN.st0 f_a.sl (hs_:St _ _ _ _)) ?_))) ?_
  · omega
  refine WQ.r 2 [] rfl ?_
  refine WQ.val rfl rfl rfl (fun w_ hs_=>(bP.idxN af ab rfl rfl rfl ?_ ?_ ?_)) ?_
  · exact bN.some_ (bN.st0 f_b.sl (hs_:St _ _ _ _))
  · omega
  · omega
  refine WQ.val rfl rfl rfl (fun w_ hs_=>(bP.loadA aT ab rfl rfl (bN.whole (bN.st0 f_b.sl (hs_:St _ _ _ _)) ?_))) ?_
  · omega
  refine WQ.c0 Tryz.call95 rfl (fun w_ hs_=>El (bO bW a i) (bO bW b i) _ (dz.st0 (cT.nth f_a (by omega)) (hs_:St _ _ _ _)) (dz.st0 (cT.nth f_b (by omega)) (hs_:St _ _ _ _)) ?_) ?_
  · first | assumption | rfl | omega
  refine WQ.r 1 [] rfl (WQ.nil (fun _ (J:St _ _ _ _)=>WC.condF rfl (by simp) (WC.skip (Z _ _ (WC.region (WL.r 3 J [] rfl (WL.nil ?_)))))))
  refine cQ (⟨cR rfl,J,_,?_,i+1,rfl,?_,⟨rfl,trivial⟩⟩)
  · omega
  · omega
 refine WC.exit (O _ _ (WC.r1 G [] rfl (WC.ret (rtv rfl rfl G ?_))))
 rfl
theorem Em (A_a:Option Addr) (n_a c_a:Nat) (a:List dd) (A_b:Option Addr) (n_b c_b:Nat) (b:List dd) (w:World) (f_a:cT bY (ei 549755813888) w A_a n_a a) (f_b:cT bY (ei 549755813888) w A_b n_b b) (hn:n_a≤549755813888) (hab:a.map dd.dat=b.map dd.dat) :
    Calls Tryz.prog 40 #[.slice A_a n_a c_a,.slice A_b n_b c_b] w fun e w'=>e = .returned (.bool true)∧St w [] [] w':=by
 have M:=f_a.sl.len
 obtain rfl:n_a=n_b:=by have I:=congrArg List.length hab;simp only [List.length_map] at I;rw [← M,I];exact f_b.sl.len
 refine enter 27 Tryz.func40 rfl Tryz.ntmps40 rfl rfl ?_
 have E:=St.init w
 refine WC.r1 E [] rfl (WC.seq (fun K2 N=>WC.r1 E [] rfl (WC.condF rfl (by simp) (WC.skip (N _ _ (WC.seq (fun K4 O=>WC.r1 E [] rfl ?_)))))))
 refine WC.block (WC.lS [0,1,10] rfl E (fun k_ f w'=>∃ (i:Nat),k_=n_a-i∧(i≤n_a)∧cC [(5,.int .i64 i)] f) ((fun (i:Nat)=>n_a-i) (0)) ?_ ?_)
 ·refine ⟨0,rfl,?_,⟨rfl,trivial⟩⟩
  · exact Nat.zero_le _
 clear E
 rintro _ f w ⟨i,rfl,p0,hG⟩ hF G
 refine WC.sub _ (hG.app hF) ?_
 clear hG hF
 refine WC.seq (fun K6 U=>WC.r1 G [] rfl ?_)
 refine WC.cD rfl (fun V=>?_) (fun V=>?_)
 ·have a1:=qD (F:=bY) (i:=i) hab (by omega)
  refine WC.skip (U _ _ (WC.seq (fun K8 Z=>WC.block (WC.sq1 G (WQ.r 2 [] rfl ?_)))))
  refine WQ.val rfl rfl rfl (fun w_ hs_=>(bP.idxN au am rfl rfl rfl ?_ ?_ ?_)) ?_
  · exact bN.some_ (bN.st0 f_a.sl (hs_:St _ _ _ _))
  · omega
  · omega
  refine WQ.val rfl rfl rfl (fun w_ hs_=>(bP.loadA aL am rfl rfl (bN.whole (bN.st0 f_a.sl (hs_:St _ _ _ _)) ?_))) ?_
  · omega
  refine WQ.r 2 [] rfl ?_
  refine WQ.val rfl rfl rfl (fun w_ hs_=>(bP.idxN au am rfl rfl rfl ?_ ?_ ?_)) ?_
  · exact bN.some_ (bN.st0 f_b.sl (hs_:St _ _ _ _))
  · omega
  · omega
  refine WQ.val rfl rfl rfl (fun w_ hs_=>(bP.loadA aL am rfl rfl (bN.whole (bN.st0 f_b.sl (hs_:St _ _ _ _)) ?_))) ?_
  · omega
  refine WQ.c0 Tryz.call96 rfl (fun w_ hs_=>EA (bO bY a i) (bO bY b i) _ (ei.st0 (cT.nth f_a (by omega)) (hs_:St _ _ _ _)) (ei.st0 (cT.nth f_b (by omega)) (hs_:St _ _ _ _)) ?_) ?_
  · first | assumption | rfl | omega
  refine WQ.r 1 [] rfl (WQ.nil (fun _ (J:St _ _ _ _)=>WC.condF rfl (by simp) (WC.skip (Z _ _ (WC.region (WL.r 3 J [] rfl (WL.nil ?_)))))))
  refine cQ (⟨cR rfl,J,_,?_,i+1,rfl,?_,⟨rfl,trivial⟩⟩)
  · omega
  · omega
 refine WC.exit (O _ _ (WC.r1 G [] rfl (WC.ret (rtv rfl rfl G ?_))))
 rfl
theorem D5 (A_a:Option Addr) (n_a c_a:Nat) (a:List da) (A_b:Option Addr) (n_b c_b:Nat) (b:List da) (w:World) (f_a:cT ci (ep 549755813888) w A_a n_a a) (f_b:cT ci (ep 549755813888) w A_b n_b b) (hn:n_a≤549755813888) (hab:a.map da.dat=b.map da.dat) :
    Calls Tryz.prog 41 #[.slice A_a n_a c_a,.slice A_b n_b c_b] w fun e w'=>e = .returned (.bool true)∧St w [] [] w':=by
 have M:=f_a.sl.len
 obtain rfl:n_a=n_b:=by have I:=congrArg List.length hab;simp only [List.length_map] at I;rw [← M,I];exact f_b.sl.len
 refine enter 27 Tryz.func41 rfl Tryz.ntmps41 rfl rfl ?_
 have E:=St.init w
 refine WC.r1 E [] rfl (WC.seq (fun K2 N=>WC.r1 E [] rfl (WC.condF rfl (by simp) (WC.skip (N _ _ (WC.seq (fun K4 O=>WC.r1 E [] rfl ?_)))))))
 refine WC.block (WC.lS [0,1,10] rfl E (fun k_ f w'=>∃ (i:Nat),k_=n_a-i∧(i≤n_a)∧cC [(5,.int .i64 i)] f) ((fun (i:Nat)=>n_a-i) (0)) ?_ ?_)
 ·refine ⟨0,rfl,?_,⟨rfl,trivial⟩⟩
  · exact Nat.zero_le _
 clear E
 rintro _ f w ⟨i,rfl,p0,hG⟩ hF G
 refine WC.sub _ (hG.app hF) ?_
 clear hG hF
 refine WC.seq (fun K6 U=>WC.r1 G [] rfl ?_)
 refine WC.cD rfl (fun V=>?_) (fun V=>?_)
 ·have a1:=qD (F:=ci) (i:=i) hab (by omega)
  refine WC.skip (U _ _ (WC.seq (fun K8 Z=>WC.block (WC.sq1 G (WQ.r 2 [] rfl ?_)))))
  refine WQ.val rfl rfl rfl (fun w_ hs_=>(bP.idxN aF ax rfl rfl rfl ?_ ?_ ?_)) ?_
  · exact bN.some_ (bN.st0 f_a.sl (hs_:St _ _ _ _))
  · omega
  · omega
  refine WQ.val rfl rfl rfl (fun w_ hs_=>(bP.loadA aX ax rfl rfl (bN.whole (bN.st0 f_a.sl (hs_:St _ _ _ _)) ?_))) ?_
  · omega
  refine WQ.r 2 [] rfl ?_
  refine WQ.val rfl rfl rfl (fun w_ hs_=>(bP.idxN aF ax rfl rfl rfl ?_ ?_ ?_)) ?_
  · exact bN.some_ (bN.st0 f_b.sl (hs_:St _ _ _ _))
  · omega
  · omega
  refine WQ.val rfl rfl rfl (fun w_ hs_=>(bP.loadA aX ax rfl rfl (bN.whole (bN.st0 f_b.sl (hs_:St _ _ _ _)) ?_))) ?_
  · omega
  refine WQ.c0 Tryz.call97 rfl (fun w_ hs_=>D4 (bO ci a i) (bO ci b i) _ (ep.st0 (cT.nth f_a (by omega)) (hs_:St _ _ _ _)) (ep.st0 (cT.nth f_b (by omega)) (hs_:St _ _ _ _)) ?_) ?_
  · first | assumption | rfl | omega
  refine WQ.r 1 [] rfl (WQ.nil (fun _ (J:St _ _ _ _)=>WC.condF rfl (by simp) (WC.skip (Z _ _ (WC.region (WL.r 3 J [] rfl (WL.nil ?_)))))))
  refine cQ (⟨cR rfl,J,_,?_,i+1,rfl,?_,⟨rfl,trivial⟩⟩)
  · omega
  · omega
 refine WC.exit (O _ _ (WC.r1 G [] rfl (WC.ret (rtv rfl rfl G ?_))))
 rfl
set_option maxHeartbeats 4000000 in
theorem wZ (a:cu) (b:cu) (w:World) (f_a:cI 549755813888 w a) (f_b:cI 549755813888 w b) (hab:a.dat=b.dat) :
    Calls Tryz.prog 9 #[.agg (eH a).toArray,.agg (eH b).toArray] w fun e w'=>e = .returned (.bool true)∧St w [] [] w':=by
 have a7:=f_a.Panes_n
 have a8:=f_a.Panes.sl.len
 have ba:=f_a.Wins_n
 have bb:=f_a.Wins.sl.len
 have bc:=f_a.Sess_n
 have bd:=f_a.Sess.sl.len
 have bg:=f_b.Panes_n
 have bo:=f_b.Panes.sl.len
 have b0:=f_b.Wins_n
 have b1:=f_b.Wins.sl.len
 have b3:=f_b.Sess_n
 have b5:=f_b.Sess.sl.len
 have G:a.W=b.W:=congrArg (·.W) hab
 have I:a.H=b.H:=congrArg (·.H) hab
 have J:a.Limit=b.Limit:=congrArg (·.Limit) hab
 have M:a.Next=b.Next:=congrArg (·.Next) hab
 have b6:a.Panes.xs.map cr.dat=b.Panes.xs.map cr.dat:=congrArg (·.Panes) hab
 have b7:a.Wins.xs.map dd.dat=b.Wins.xs.map dd.dat:=congrArg (·.Wins) hab
 have b8:a.Sess.xs.map da.dat=b.Sess.xs.map da.dat:=congrArg (·.Sess) hab
 refine enter 43 Tryz.func9 rfl Tryz.ntmps9 rfl rfl ?_
 have V:=St.init w
 refine WC.sr (WL.bx V rfl (fun b2 _ Z=>WL.bx Z rfl (fun b4 _ E=>WL.r 1 E [] rfl (WL.nil (WC.seq (fun K6 ad=>WC.r1 E [1,0] rfl (WC.condF rfl (by simp [G,I,J,M]) ?_)))))))
 refine WC.skip (ad _ _ (WC.seq (fun K8 ag=>WC.r1 E [1,0] rfl (WC.condF rfl (by simp [G,I,J,M]) (WC.skip (ag _ _ (WC.seq (fun cN al=>?_))))))))
 refine WC.r1 E [1,0] rfl (WC.condF rfl (by simp [G,I,J,M]) (WC.skip (al _ _ (WC.seq (fun c1 aB=>WC.r1 E [1,0] rfl (WC.condF rfl (by simp [G,I,J,M]) (WC.skip ?_)))))))
 refine aB _ _ (WC.seq (fun c2 a1=>WC.sr (WL.r 4 E [1,0] rfl ?_)))
 refine WL.c0 E Tryz.call39 rfl (D2 _ _ _ _ _ _ _ _ _ (cT.st0 dz.st0 f_a.Panes E) (cT.st0 dz.st0 f_b.Panes E) ?_ ?_) (fun _ N=>?_)
 iterate 2 first | assumption | rfl | omega
 refine WL.r 1 N [] rfl (WL.nil (WC.condF rfl (by simp [G,I,J,M]) (WC.skip (a1 _ _ (WC.seq (fun c3 a2=>WC.sr ?_))))))
 refine WL.r 4 N [1,0] rfl (WL.c0 N Tryz.call40 rfl (Em _ _ _ _ _ _ _ _ _ (cT.st0 ei.st0 f_a.Wins N) (cT.st0 ei.st0 f_b.Wins N) ?_ ?_) (fun _ O=>?_))
 iterate 2 first | assumption | rfl | omega
 refine WL.r 1 O [] rfl (WL.nil (WC.condF rfl (by simp [G,I,J,M]) (WC.skip (a2 _ _ (WC.seq (fun c4 a6=>WC.sr ?_))))))
 refine WL.r 4 O [1,0] rfl (WL.c0 O Tryz.call41 rfl (D5 _ _ _ _ _ _ _ _ _ (cT.st0 ep.st0 f_a.Sess O) (cT.st0 ep.st0 f_b.Sess O) ?_ ?_) (fun _ U=>?_))
 iterate 2 first | assumption | rfl | omega
 refine WL.r 1 U [] rfl (WL.nil (WC.condF rfl (by simp [G,I,J,M]) (WC.skip (a6 _ _ (WC.r1 U [] rfl (WC.ret ?_))))))
 refine rtv rfl rfl U ?_
 rfl
theorem yc (f:Nat) (a:List UInt8):mh f 0 a=a:=by
 cases f with
 | zero=>rfl
 | succ f=>unfold mh;rw [if_pos rfl]
theorem tT {f n:Nat} {a:List UInt8} (h:n<10 ^ f) (E:0<n):n/10<10 ^ (f-1)∧mh f n a=mh (f-1) (n/10) (ub (48+((n%10:Nat):Int))::a):=by
 cases f with
 | zero=>rw [Nat.pow_zero] at h;omega
 | succ f=>
  rw [Nat.add_sub_cancel]
  refine ⟨?_,?_⟩
  ·rw [Nat.pow_succ] at h
   omega
  ·rw [mh,if_neg (by omega)]
theorem yp {f n:Nat} {a:List UInt8} {b:UInt8} (h:n<10 ^ f) (E:0<n) (hl:a.length+f≤40):(b::a).length+(f-1)≤40:=by
 cases f with
 | zero=>rw [Nat.pow_zero] at h;omega
 | succ f=>rw [List.length_cons];omega
theorem nl (k:Int) (w:World) (hk:k≤1099511627776) :
    Calls Tryz.prog 98 #[i64 k] w fun e w'=>e = .returned (.string (iW k))∧St w [] [] w':=by
 refine enter 20 Tryz.func98 rfl Tryz.ntmps98 rfl rfl ?_
 have E:=St.init w
 refine WC.r1 E [] rfl (WC.seq (fun K2 M=>WC.r1 E [] rfl ?_))
 refine WC.cD rfl (fun O=>?_) (fun O=>?_)
 ·refine WC.r1 E [] rfl (WC.ret (cd ?_))
  clear M
  refine rtv rfl rfl E ?_
  rw [show iW k=⟨#[109,48]⟩ from by unfold iW;rw [if_pos (by omega)]]
 refine WC.skip (M _ _ (WC.r1 E [] rfl (WC.seq (fun K4 U=>WC.block ?_))))
 refine WC.lS [2,5] rfl E (fun k_ f w'=>∃ (d n:Nat) (z:List UInt8),k_=n+n∧(n<10 ^ d)∧(mh 40 k.toNat []=mh d n z)∧(z.length+d≤40)∧(n≤1099511627776)∧cC [(0,.int .i64 (n:Int)),(3,.string ⟨z.toArray⟩)] f) ((fun (d n:Nat) (z:List UInt8)=>n+n) (40) (k.toNat) ([])) ?_ ?_
 ·refine ⟨40,k.toNat,[],rfl,?_,?_,?_,?_,⟨?_,?_,trivial⟩⟩
  · exact Nat.lt_of_le_of_lt (by omega:k.toNat≤1099511627776) (by decide)
  · rfl
  · exact Nat.le_refl _
  · omega
  · (refine congrArg some (congrArg (Value.int _) ?_);omega)
  · rfl
 clear E
 rintro _ f w ⟨d,n,z,rfl,J,N,V,p3,hG⟩ hF G
 refine WC.sub _ (hG.app hF) ?_
 clear hG hF
 refine WC.seq (fun K6 Z=>WC.r1 G [] rfl ?_)
 refine WC.cD rfl (fun ad=>?_) (fun ad=>?_)
 ·refine WC.skip (Z _ _ (WC.block (WC.sr (WL.r 1 G [] rfl ?_))))
  refine WL.val rfl rfl rfl (bP.rem rfl rfl rfl ?_ ?_) ?_
  · omega
  · omega
  refine WL.r 2 G [] rfl (WL.buildSlice G aj ai aC rfl rfl rfl rfl rfl rfl rfl rfl rfl rfl (fun b8 a6 I=>WL.val rfl rfl rfl (bP.strOf (bN.own1 (I.own _ (cH (i:=0) rfl)).1) ah aH aG rfl rfl) (WL.r 1 I [] rfl ?_)))
  refine WL.val rfl rfl rfl (bP.addS rfl rfl rfl ?_) ?_
  · (show List.length _+List.length _≤_;simp;omega)
  refine WL.r 1 I [] rfl (WL.nil (WC.region (WL.r 1 I [] rfl (WL.val rfl rfl rfl (bP.quo rfl rfl rfl ?_ ?_ ?_) ?_))))
  · omega
  · omega
  · omega
  refine WL.r 1 I [] rfl (WL.nil (sc (cQ (⟨cR rfl,(I.drop (by repeat (first | exact List.Sublist.refl _ | exact List.sublist_append_left _ _ | exact List.Sublist.trans (List.sublist_append_left _ _) (List.sublist_append_left _ _) | apply List.Sublist.cons | refine List.Sublist.trans ?_ (sR _)))),_,?_,(d-1),(n/10),(ub (48+((n%10:Nat):Int))::z),rfl,?_,?_,?_,?_,⟨?_,?_,trivial⟩⟩))))
  · omega
  · exact (tT (f:=d) (n:=n) (a:=z) J (by omega)).1
  · exact N.trans (tT (f:=d) (n:=n) (a:=z) J (by omega)).2
  · exact yp J (by omega) V
  · omega
  · (refine congrArg some (congrArg (Value.int _) ?_);omega)
  · (refine congrArg some (congrArg Value.string ?_);first | rfl | exact ByteArray.ext (by simp))
 refine WC.exit (U _ _ (WC.sr (WL.r 1 G [] rfl ?_)))
 refine WL.val rfl rfl rfl (bP.addS rfl rfl rfl ?_) ?_
 · (show List.length _+List.length _≤_;simp;omega)
 refine WL.r 1 G [] rfl (WL.nil (WC.ret (rtv rfl rfl G ?_)))
 rw [show iW k=⟨(109::z).toArray⟩ from by unfold iW;rw [if_neg (by omega),N,show n=0 by omega,yc]];first | rfl | (congr 1;exact ByteArray.ext (by simp))
theorem B5 (v_a:Value) (a:List UInt8) (L_a:Hp) (k:Int) (w:World) (o_a:bS cj 5 v_a a L_a) (h_a:Hh w L_a) (h1:0≤k) (h2:k≤1099511627776) (h3:a.length≤1099511627776) :
    Calls Tryz.prog 11 #[v_a,i64 k] w fun e w'=>∃ L1,e = .returned (.int .i64 (k+1*a.length))∧St w (L_a.map (·.1)) L1 w'∧bS cj 5 v_a (eP ub 1 k a.length) L1:=by
 obtain ⟨A_a,c_a,rfl⟩:=o_a.shape
 refine enter 20 Tryz.func11 rfl Tryz.ntmps11 rfl rfl ?_
 have G:=St.lent1 w L_a o_a h_a
 refine WC.r1 G [] rfl (WC.seq (fun K2 N=>WC.r1 G [] rfl (WC.block ?_)))
 refine WC.lO [4] rfl G (fun k_ f L_=>∃ (i:Nat) (q:Int),k_=a.length-i∧(i≤a.length)∧(q=k+1*i)∧bS cj 5 (.slice A_a (a.length) c_a) (eZ ub 1 k a i) L_∧cC [(0,.slice A_a (a.length) c_a),(5,.int .i64 i),(1,.int .i64 q)] f) (((fun (i:Nat) (q:Int)=>a.length-i) (0) (k))) ?_ ?_
 ·refine ⟨0,k,rfl,?_,?_,(mw.symm ▸ o_a),⟨rfl,rfl,rfl,trivial⟩⟩
  · exact Nat.zero_le _
  · simp
 clear G
 rintro _ f w L5 ⟨i,q,rfl,O,U,I,hG⟩ hF E
 refine WC.sub _ (hG.app hF) ?_
 clear hG hF
 have a8:(eZ ub 1 k a i).length=a.length:=nI O
 have V:k+((1:Nat):Int)*(i:Int)=q:=by omega
 refine WC.seq (fun K8 Z=>WC.r1 E [] rfl ?_)
 refine WC.cq rfl (fun h9 ag=>?_) (fun h9 ag=>?_)
 ·refine WC.skip (Z _ _ (WC.seq (fun bb al=>WC.block (WC.sr (WL.r 4 E [] rfl ?_)))))
  refine WL.ix aj ai rfl rfl rfl rfl rfl rfl (bN.ofOwn I (E.ow L5)) ?_
  refine WL.storeF1 (x':=_) E I ai rfl rfl rfl rfl rfl rfl rfl rfl rfl ?_ (by first | rfl | (rw [eK (by (try simp only [List.length_set]);omega) rfl];rfl)) (fun bc bd J M _=>?_)
  · omega
  refine WL.nil (WC.region (WL.r 3 J [] rfl (WL.nil (al _ _ (WC.region (WL.r 3 J [] rfl (WL.nil ?_)))))))
  refine cQ ?_
  try simp only [List.set_set] at M
  rw [nq (i:=i) (by omega) (by rw [V]) (by simp)] at M
  refine ⟨cR rfl,_,J,_,?_,i+1,_,rfl,?_,?_,M,⟨rfl,rfl,rfl,trivial⟩⟩
  · omega
  · omega
  · omega
 refine WC.exit (N _ _ (WC.r1 E [] rfl (WC.ret (cO rfl (cb.tmp rfl) ?_))))
 have aB:=bS.eqOf (xs:=eP ub 1 k a.length) I (mA (by omega))
 have a1:i=a.length:=by omega
 refine ⟨_,?_,(St.keep1 E),aB ▸ I⟩
 rw [U,a1]
theorem E9 (A_a:Option Addr) (n_a c_a:Nat) (a:List UInt8) (k:Int) (m:Nat) (w:World) (f_a:bN cj w A_a n_a a) (hm:a=eP ub 1 k m) (h1:0≤k) (h2:k≤1099511627776) (h3:n_a≤1099511627776) :
    Calls Tryz.prog 104 #[.slice A_a n_a c_a,i64 k] w fun e w'=>e = .returned (.int .i64 (k+1*m))∧St w [] [] w':=by
 have I:n_a=m:=by rw [← f_a.len,hm,er]
 subst I
 refine enter 22 Tryz.func104 rfl Tryz.ntmps104 rfl rfl ?_
 have G:=St.init w
 refine WC.r1 G [] rfl (WC.seq (fun K2 J=>WC.r1 G [] rfl (WC.block ?_)))
 refine WC.lS [0] rfl G (fun k_ f w'=>∃ (i:Nat) (q:Int),k_=n_a-i∧(i≤n_a)∧(q=k+1*i)∧cC [(5,.int .i64 i),(1,.int .i64 q)] f) ((fun (i:Nat) (q:Int)=>n_a-i) (0) (k)) ?_ ?_
 ·refine ⟨0,k,rfl,?_,?_,⟨rfl,rfl,trivial⟩⟩
  · exact Nat.zero_le _
  · simp
 clear G
 rintro _ f w ⟨i,q,rfl,p0,M,hG⟩ hF E
 refine WC.sub _ (hG.app hF) ?_
 clear hG hF
 have N:k+((1:Nat):Int)*(i:Int)=q:=by omega
 refine WC.seq (fun K4 O=>WC.r1 E [] rfl ?_)
 refine WC.cD rfl (fun U=>?_) (fun U=>?_)
 ·have V:bO cj a i=ub q:=by rw [hm,nw (by omega),N]
  refine WC.skip (O _ _ (WC.seq (fun K6 Z=>WC.block (WC.seq (fun K7 ad=>WC.sr (WL.r 2 E [] rfl ?_))))))
  refine WL.ix aj ai rfl rfl rfl rfl rfl rfl (bN.st0 f_a E) ?_
  refine WL.val rfl rfl rfl (bP.load az rfl rfl (bN.one1 (bN.st0 f_a E) ?_ rfl)) ?_
  · omega
  refine WL.r 3 E [] rfl (WL.nil (WC.condF rfl (by simp [V]) (WC.skip (ad _ _ (WC.region (WL.r 3 E [] rfl (WL.nil ?_)))))))
  refine Z _ _ (WC.region (WL.r 3 E [] rfl (WL.nil (cQ ?_))))
  refine ⟨cR rfl,E,_,?_,i+1,_,rfl,?_,?_,⟨rfl,rfl,trivial⟩⟩
  · omega
  · omega
  · omega
 refine WC.exit (J _ _ (WC.r1 E [] rfl (WC.ret (rtv rfl rfl E ?_))))
 rw [M,show i=n_a from by omega]
theorem wI (v_a:Value) (a:List cF) (L_a:Hp) (k:Int) (w:World) (o_a:bS ce 188 v_a a L_a) (h_a:Hh w L_a) (h1:0≤k) (h2:k≤1099511627776) (h3:a.length≤1099511627776) :
    Calls Tryz.prog 100 #[v_a,i64 k] w fun e w'=>∃ L1,e = .returned (.int .i64 (k+6*a.length))∧St w (L_a.map (·.1)) L1 w'∧bS ce 188 v_a (eP eu 6 k a.length) L1:=by
 obtain ⟨A_a,c_a,rfl⟩:=o_a.shape
 refine enter 66 Tryz.func100 rfl Tryz.ntmps100 rfl rfl ?_
 have M:=St.lent1 w L_a o_a h_a
 refine WC.r1 M [] rfl (WC.seq (fun K2 a2=>WC.r1 M [] rfl (WC.block ?_)))
 refine WC.lO [4] rfl M (fun k_ f L_=>∃ (i:Nat) (q:Int),k_=a.length-i∧(i≤a.length)∧(q=k+6*i)∧bS ce 188 (.slice A_a (a.length) c_a) (eZ eu 6 k a i) L_∧cC [(0,.slice A_a (a.length) c_a),(5,.int .i64 i),(1,.int .i64 q)] f) (((fun (i:Nat) (q:Int)=>a.length-i) (0) (k))) ?_ ?_
 ·refine ⟨0,k,rfl,?_,?_,(mw.symm ▸ o_a),⟨rfl,rfl,rfl,trivial⟩⟩
  · exact Nat.zero_le _
  · simp
 clear M
 rintro _ f w L5 ⟨i,q,rfl,p0,p1,N,hG⟩ hF E
 refine WC.sub _ (hG.app hF) ?_
 clear hG hF
 have b7:(eZ eu 6 k a i).length=a.length:=nI p0
 have hq:k+((6:Nat):Int)*(i:Int)=q:=by omega
 refine WC.seq (fun K8 ba=>WC.r1 E [] rfl ?_)
 refine WC.cq rfl (fun h9 bc=>?_) (fun h9 bc=>?_)
 ·refine WC.skip (ba _ _ (WC.seq (fun b9 bd=>WC.block (WC.sr (WL.r 3 E [] rfl ?_)))))
  refine WL.ix ar ak rfl rfl rfl rfl rfl rfl (bN.ofOwn N (E.ow L5)) ?_
  refine WL.fs 0 rfl ?_
  refine WL.storeF (x':=⟨q,⟨(bO ce (eZ eu 6 k a i) i).A.Fg,(bO ce (eZ eu 6 k a i) i).A.Bg,(bO ce (eZ eu 6 k a i) i).A.Bold,(bO ce (eZ eu 6 k a i) i).A.Under,(bO ce (eZ eu 6 k a i) i).A.Turn⟩⟩) E N aa rfl rfl rfl rfl rfl rfl rfl rfl rfl ?_ (by first | rfl | (rw [eK (by (try simp only [List.length_set]);omega) rfl];rfl)) (fun bg ck O ad _=>?_)
  · omega
  refine WL.nil (WC.r1 O [] rfl (WC.sr (WL.r 3 O [] rfl (WL.ix ar ak rfl rfl rfl rfl rfl rfl (bN.ofOwn ad (O.ow bg)) ?_))))
  refine WL.fs 1 rfl ?_
  refine WL.storeF (x':=⟨q,⟨(q+1),(bO ce (eZ eu 6 k a i) i).A.Bg,(bO ce (eZ eu 6 k a i) i).A.Bold,(bO ce (eZ eu 6 k a i) i).A.Under,(bO ce (eZ eu 6 k a i) i).A.Turn⟩⟩) O ad aa rfl rfl rfl rfl rfl rfl rfl rfl rfl ?_ (by first | rfl | (rw [eK (by (try simp only [List.length_set]);omega) rfl];rfl)) (fun bo cD U ag _=>?_)
  · omega
  refine WL.nil (WC.r1 U [] rfl (WC.sr (WL.r 3 U [] rfl (WL.ix ar ak rfl rfl rfl rfl rfl rfl (bN.ofOwn ag (U.ow bo)) ?_))))
  refine WL.fs 1 rfl ?_
  refine WL.storeF (x':=⟨q,⟨(q+1),(q+1+1),(bO ce (eZ eu 6 k a i) i).A.Bold,(bO ce (eZ eu 6 k a i) i).A.Under,(bO ce (eZ eu 6 k a i) i).A.Turn⟩⟩) U ag aa rfl rfl rfl rfl rfl rfl rfl rfl rfl ?_ (by first | rfl | (rw [eK (by (try simp only [List.length_set]);omega) rfl];rfl)) (fun bx cN G al _=>?_)
  · omega
  refine WL.nil (WC.r1 G [] rfl (WC.sr (WL.r 3 G [] rfl (WL.val rfl rfl rfl (bP.rem rfl rfl rfl ?_ ?_) ?_))))
  · omega
  · omega
  refine WL.r 1 G [] rfl (WL.ix ar ak rfl rfl rfl rfl rfl rfl (bN.ofOwn al (G.ow bx)) ?_)
  refine WL.fs 1 rfl ?_
  refine WL.storeF (x':=⟨q,⟨(q+1),(q+1+1),decide ((q+1+1+1)%3=0),(bO ce (eZ eu 6 k a i) i).A.Under,(bO ce (eZ eu 6 k a i) i).A.Turn⟩⟩) G al ap rfl rfl rfl rfl rfl rfl rfl rfl rfl ?_ (by first | rfl | (rw [eK (by (try simp only [List.length_set]);omega) rfl];rfl)) (fun b0 c0 I aB _=>?_)
  · omega
  refine WL.nil (WC.r1 I [] rfl (WC.sr (WL.r 3 I [] rfl (WL.val rfl rfl rfl (bP.rem rfl rfl rfl ?_ ?_) ?_))))
  · omega
  · omega
  refine WL.r 1 I [] rfl (WL.ix ar ak rfl rfl rfl rfl rfl rfl (bN.ofOwn aB (I.ow b0)) ?_)
  refine WL.fs 1 rfl ?_
  refine WL.storeF (x':=⟨q,⟨(q+1),(q+1+1),decide ((q+1+1+1)%3=0),decide ((q+1+1+1+1)%3=0),(bO ce (eZ eu 6 k a i) i).A.Turn⟩⟩) I aB ap rfl rfl rfl rfl rfl rfl rfl rfl rfl ?_ (by first | rfl | (rw [eK (by (try simp only [List.length_set]);omega) rfl];rfl)) (fun b1 c1 J a1 _=>?_)
  · omega
  refine WL.nil (WC.r1 J [] rfl (WC.sr (WL.r 3 J [] rfl (WL.val rfl rfl rfl (bP.rem rfl rfl rfl ?_ ?_) ?_))))
  · omega
  · omega
  refine WL.r 1 J [] rfl (WL.ix ar ak rfl rfl rfl rfl rfl rfl (bN.ofOwn a1 (J.ow b1)) ?_)
  refine WL.fs 1 rfl ?_
  refine WL.storeF (x':=⟨q,⟨(q+1),(q+1+1),decide ((q+1+1+1)%3=0),decide ((q+1+1+1+1)%3=0),decide ((q+1+1+1+1+1)%3=0)⟩⟩) J a1 ap rfl rfl rfl rfl rfl rfl rfl rfl rfl ?_ (by first | rfl | (rw [eK (by (try simp only [List.length_set]);omega) rfl];rfl)) (fun c2 c3 V Z _=>?_)
  · omega
  refine WL.nil (WC.region (WL.r 3 V [] rfl (WL.nil (bd _ _ (WC.region (WL.r 3 V [] rfl (WL.nil ?_)))))))
  refine cQ ?_
  try simp only [List.set_set] at Z
  rw [nq (i:=i) (by omega) (by rw [hq];rfl) (by simp)] at Z
  refine ⟨cR rfl,_,V,_,?_,i+1,_,rfl,?_,?_,Z,⟨rfl,rfl,rfl,trivial⟩⟩
  · omega
  · omega
  · omega
 refine WC.exit (a2 _ _ (WC.r1 E [] rfl (WC.ret (cO rfl (cb.tmp rfl) ?_))))
 have b2:=bS.eqOf (xs:=eP eu 6 k a.length) N (mA (by omega))
 have b3:i=a.length:=by omega
 refine ⟨_,?_,(St.keep1 E),b2 ▸ N⟩
 rw [p1,b3]
theorem xe (A_a:Option Addr) (n_a c_a:Nat) (a:List cF) (k:Int) (m:Nat) (w:World) (f_a:bN ce w A_a n_a a) (hm:a=eP eu 6 k m) (h1:0≤k) (h2:k≤1099511627776) (h3:n_a≤1099511627776) :
    Calls Tryz.prog 105 #[.slice A_a n_a c_a,i64 k] w fun e w'=>e = .returned (.int .i64 (k+6*m))∧St w [] [] w':=by
 have J:n_a=m:=by rw [← f_a.len,hm,er]
 subst J
 refine enter 78 Tryz.func105 rfl Tryz.ntmps105 rfl rfl ?_
 have I:=St.init w
 refine WC.r1 I [] rfl (WC.seq (fun K2 M=>WC.r1 I [] rfl (WC.block ?_)))
 refine WC.lS [0] rfl I (fun k_ f w'=>∃ (i:Nat) (q:Int),k_=n_a-i∧(i≤n_a)∧(q=k+6*i)∧cC [(5,.int .i64 i),(1,.int .i64 q)] f) ((fun (i:Nat) (q:Int)=>n_a-i) (0) (k)) ?_ ?_
 ·refine ⟨0,k,rfl,?_,?_,⟨rfl,rfl,trivial⟩⟩
  · exact Nat.zero_le _
  · simp
 clear I
 rintro _ f w ⟨i,q,rfl,p0,N,hG⟩ hF E
 refine WC.sub _ (hG.app hF) ?_
 clear hG hF
 have O:k+((6:Nat):Int)*(i:Int)=q:=by omega
 refine WC.seq (fun K4 U=>WC.r1 E [] rfl ?_)
 refine WC.cD rfl (fun V=>?_) (fun V=>?_)
 ·have G:bO ce a i=eu q:=by rw [hm,nw (by omega),O]
  refine WC.skip (U _ _ (WC.seq (fun K6 Z=>WC.block (WC.seq (fun K7 ad=>WC.sr (WL.r 2 E [] rfl ?_))))))
  refine WL.ix ar ak rfl rfl rfl rfl rfl rfl (bN.st0 f_a E) ?_
  refine WL.fs 0 rfl (WL.val rfl rfl rfl (bP.load ac rfl rfl (bN.fld (bN.st0 f_a E) ?_ rfl)) ?_)
  · omega
  refine WL.r 2 E [] rfl (WL.nil (WC.condF rfl (by simp [G,eu]) (WC.skip (ad _ _ (WC.r1 E [] rfl (WC.seq (fun K9 ag=>WC.sr ?_)))))))
  refine WL.r 2 E [] rfl (WL.ix ar ak rfl rfl rfl rfl rfl rfl (bN.st0 f_a E) ?_)
  refine WL.fs 1 rfl (WL.val rfl rfl rfl (bP.load ac rfl rfl (bN.fld (bN.st0 f_a E) ?_ rfl)) ?_)
  · omega
  refine WL.r 2 E [] rfl (WL.nil (WC.condF rfl (by simp [G,eu]) (WC.skip (ag _ _ (WC.r1 E [] rfl (WC.seq (fun bo al=>WC.sr ?_)))))))
  refine WL.r 2 E [] rfl (WL.ix ar ak rfl rfl rfl rfl rfl rfl (bN.st0 f_a E) ?_)
  refine WL.fs 1 rfl (WL.val rfl rfl rfl (bP.load ac rfl rfl (bN.fld (bN.st0 f_a E) ?_ rfl)) ?_)
  · omega
  refine WL.r 2 E [] rfl (WL.nil (WC.condF rfl (by simp [G,eu]) (WC.skip (al _ _ (WC.r1 E [] rfl (WC.seq (fun bx aB=>WC.sr ?_)))))))
  refine WL.r 2 E [] rfl (WL.ix ar ak rfl rfl rfl rfl rfl rfl (bN.st0 f_a E) ?_)
  refine WL.fs 1 rfl (WL.val rfl rfl rfl (bP.load aw rfl rfl (bN.fld (bN.st0 f_a E) ?_ rfl)) ?_)
  · omega
  refine WL.r 1 E [] rfl (WL.val rfl rfl rfl (bP.rem rfl rfl rfl ?_ ?_) ?_)
  · omega
  · omega
  refine WL.r 2 E [] rfl (WL.nil (WC.condF rfl (by simp [G,eu]) (WC.skip (aB _ _ (WC.r1 E [] rfl (WC.seq (fun b0 a1=>WC.sr ?_)))))))
  refine WL.r 2 E [] rfl (WL.ix ar ak rfl rfl rfl rfl rfl rfl (bN.st0 f_a E) ?_)
  refine WL.fs 1 rfl (WL.val rfl rfl rfl (bP.load aw rfl rfl (bN.fld (bN.st0 f_a E) ?_ rfl)) ?_)
  · omega
  refine WL.r 1 E [] rfl (WL.val rfl rfl rfl (bP.rem rfl rfl rfl ?_ ?_) ?_)
  · omega
  · omega
  refine WL.r 2 E [] rfl (WL.nil (WC.condF rfl (by simp [G,eu]) (WC.skip (a1 _ _ (WC.r1 E [] rfl (WC.seq (fun b1 a2=>WC.sr ?_)))))))
  refine WL.r 2 E [] rfl (WL.ix ar ak rfl rfl rfl rfl rfl rfl (bN.st0 f_a E) ?_)
  refine WL.fs 1 rfl (WL.val rfl rfl rfl (bP.load aw rfl rfl (bN.fld (bN.st0 f_a E) ?_ rfl)) ?_)
  · omega
  refine WL.r 1 E [] rfl (WL.val rfl rfl rfl (bP.rem rfl rfl rfl ?_ ?_) ?_)
  · omega
  · omega
  refine WL.r 2 E [] rfl (WL.nil (WC.condF rfl (by simp [G,eu]) (WC.skip (a2 _ _ (WC.region (WL.r 3 E [] rfl (WL.nil ?_)))))))
  refine Z _ _ (WC.region (WL.r 3 E [] rfl (WL.nil (cQ ?_))))
  refine ⟨cR rfl,E,_,?_,i+1,_,rfl,?_,?_,⟨rfl,rfl,trivial⟩⟩
  · omega
  · omega
  · omega
 refine WC.exit (M _ _ (WC.r1 E [] rfl (WC.ret (rtv rfl rfl E ?_))))
 rw [N,show i=n_a from by omega]
theorem xL (v_a:Value) (a:List Int) (L_a:Hp) (k:Int) (w:World) (o_a:bS cf 3 v_a a L_a) (h_a:Hh w L_a) (h1:0≤k) (h2:k≤1099511627776) (h3:a.length≤1099511627776) :
    Calls Tryz.prog 99 #[v_a,i64 k] w fun e w'=>∃ L1,e = .returned (.int .i64 (k+1*a.length))∧St w (L_a.map (·.1)) L1 w'∧bS cf 3 v_a (eP (fun k=>k) 1 k a.length) L1:=by
 obtain ⟨A_a,c_a,rfl⟩:=o_a.shape
 refine enter 19 Tryz.func99 rfl Tryz.ntmps99 rfl rfl ?_
 have G:=St.lent1 w L_a o_a h_a
 refine WC.r1 G [] rfl (WC.seq (fun K2 N=>WC.r1 G [] rfl (WC.block ?_)))
 refine WC.lO [4] rfl G (fun k_ f L_=>∃ (i:Nat) (q:Int),k_=a.length-i∧(i≤a.length)∧(q=k+1*i)∧bS cf 3 (.slice A_a (a.length) c_a) (eZ (fun k=>k) 1 k a i) L_∧cC [(0,.slice A_a (a.length) c_a),(5,.int .i64 i),(1,.int .i64 q)] f) (((fun (i:Nat) (q:Int)=>a.length-i) (0) (k))) ?_ ?_
 ·refine ⟨0,k,rfl,?_,?_,(mw.symm ▸ o_a),⟨rfl,rfl,rfl,trivial⟩⟩
  · exact Nat.zero_le _
  · simp
 clear G
 rintro _ f w L5 ⟨i,q,rfl,O,U,I,hG⟩ hF E
 refine WC.sub _ (hG.app hF) ?_
 clear hG hF
 have a8:(eZ (fun k=>k) 1 k a i).length=a.length:=nI O
 have V:k+((1:Nat):Int)*(i:Int)=q:=by omega
 refine WC.seq (fun K8 Z=>WC.r1 E [] rfl ?_)
 refine WC.cq rfl (fun h9 ag=>?_) (fun h9 ag=>?_)
 ·refine WC.skip (Z _ _ (WC.seq (fun bb al=>WC.block (WC.sr (WL.r 3 E [] rfl ?_)))))
  refine WL.ix ae aa rfl rfl rfl rfl rfl rfl (bN.ofOwn I (E.ow L5)) ?_
  refine WL.storeF1 (x':=_) E I aa rfl rfl rfl rfl rfl rfl rfl rfl rfl ?_ (by first | rfl | (rw [eK (by (try simp only [List.length_set]);omega) rfl];rfl)) (fun bc bd J M _=>?_)
  · omega
  refine WL.nil (WC.region (WL.r 3 J [] rfl (WL.nil (al _ _ (WC.region (WL.r 3 J [] rfl (WL.nil ?_)))))))
  refine cQ ?_
  try simp only [List.set_set] at M
  rw [nq (i:=i) (by omega) (by rw [V]) (by simp)] at M
  refine ⟨cR rfl,_,J,_,?_,i+1,_,rfl,?_,?_,M,⟨rfl,rfl,rfl,trivial⟩⟩
  · omega
  · omega
  · omega
 refine WC.exit (N _ _ (WC.r1 E [] rfl (WC.ret (cO rfl (cb.tmp rfl) ?_))))
 have aB:=bS.eqOf (xs:=eP (fun k=>k) 1 k a.length) I (mA (by omega))
 have a1:i=a.length:=by omega
 refine ⟨_,?_,(St.keep1 E),aB ▸ I⟩
 rw [U,a1]
theorem xF (A_a:Option Addr) (n_a c_a:Nat) (a:List Int) (k:Int) (m:Nat) (w:World) (f_a:bN cf w A_a n_a a) (hm:a=eP (fun k=>k) 1 k m) (h1:0≤k) (h2:k≤1099511627776) (h3:n_a≤1099511627776) :
    Calls Tryz.prog 103 #[.slice A_a n_a c_a,i64 k] w fun e w'=>e = .returned (.int .i64 (k+1*m))∧St w [] [] w':=by
 have I:n_a=m:=by rw [← f_a.len,hm,er]
 subst I
 refine enter 21 Tryz.func103 rfl Tryz.ntmps103 rfl rfl ?_
 have G:=St.init w
 refine WC.r1 G [] rfl (WC.seq (fun K2 J=>WC.r1 G [] rfl (WC.block ?_)))
 refine WC.lS [0] rfl G (fun k_ f w'=>∃ (i:Nat) (q:Int),k_=n_a-i∧(i≤n_a)∧(q=k+1*i)∧cC [(5,.int .i64 i),(1,.int .i64 q)] f) ((fun (i:Nat) (q:Int)=>n_a-i) (0) (k)) ?_ ?_
 ·refine ⟨0,k,rfl,?_,?_,⟨rfl,rfl,trivial⟩⟩
  · exact Nat.zero_le _
  · simp
 clear G
 rintro _ f w ⟨i,q,rfl,p0,M,hG⟩ hF E
 refine WC.sub _ (hG.app hF) ?_
 clear hG hF
 have N:k+((1:Nat):Int)*(i:Int)=q:=by omega
 refine WC.seq (fun K4 O=>WC.r1 E [] rfl ?_)
 refine WC.cD rfl (fun U=>?_) (fun U=>?_)
 ·have V:bO cf a i=(fun k=>k) q:=by rw [hm,nw (by omega),N]
  refine WC.skip (O _ _ (WC.seq (fun K6 Z=>WC.block (WC.seq (fun K7 ad=>WC.sr (WL.r 2 E [] rfl ?_))))))
  refine WL.ix ae aa rfl rfl rfl rfl rfl rfl (bN.st0 f_a E) ?_
  refine WL.val rfl rfl rfl (bP.load ac rfl rfl (bN.one1 (bN.st0 f_a E) ?_ rfl)) ?_
  · omega
  refine WL.r 2 E [] rfl (WL.nil (WC.condF rfl (by simp [V]) (WC.skip (ad _ _ (WC.region (WL.r 3 E [] rfl (WL.nil ?_)))))))
  refine Z _ _ (WC.region (WL.r 3 E [] rfl (WL.nil (cQ ?_))))
  refine ⟨cR rfl,E,_,?_,i+1,_,rfl,?_,?_,⟨rfl,rfl,trivial⟩⟩
  · omega
  · omega
  · omega
 refine WC.exit (J _ _ (WC.r1 E [] rfl (WC.ret (rtv rfl rfl E ?_))))
 rw [M,show i=n_a from by omega]
theorem ER (v_a:Value) (a:List cn) (L_a:Hp) (k:Int) (w:World) (o_a:bS cc 119 v_a a L_a) (h_a:Hh w L_a) (h1:0≤k) (h2:k≤1099511627776) (h3:a.length≤1099511627776) :
    Calls Tryz.prog 102 #[v_a,i64 k] w fun e w'=>∃ L1,e = .returned (.int .i64 (k+3*a.length))∧St w (L_a.map (·.1)) L1 w'∧bS cc 119 v_a (eP iC 3 k a.length) L1:=by
 obtain ⟨A_a,c_a,rfl⟩:=o_a.shape
 refine enter 36 Tryz.func102 rfl Tryz.ntmps102 rfl rfl ?_
 have I:=St.lent1 w L_a o_a h_a
 refine WC.r1 I [] rfl (WC.seq (fun K2 Z=>WC.r1 I [] rfl (WC.block ?_)))
 refine WC.lO [4] rfl I (fun k_ f L_=>∃ (i:Nat) (q:Int),k_=a.length-i∧(i≤a.length)∧(q=k+3*i)∧bS cc 119 (.slice A_a (a.length) c_a) (eZ iC 3 k a i) L_∧cC [(0,.slice A_a (a.length) c_a),(5,.int .i64 i),(1,.int .i64 q)] f) (((fun (i:Nat) (q:Int)=>a.length-i) (0) (k))) ?_ ?_
 ·refine ⟨0,k,rfl,?_,?_,(mw.symm ▸ o_a),⟨rfl,rfl,rfl,trivial⟩⟩
  · exact Nat.zero_le _
  · simp
 clear I
 rintro _ f w L5 ⟨i,q,rfl,p0,p1,J,hG⟩ hF E
 refine WC.sub _ (hG.app hF) ?_
 clear hG hF
 have bo:(eZ iC 3 k a i).length=a.length:=nI p0
 have hq:k+((3:Nat):Int)*(i:Int)=q:=by omega
 refine WC.seq (fun K8 aB=>WC.r1 E [] rfl ?_)
 refine WC.cq rfl (fun h9 a2=>?_) (fun h9 a2=>?_)
 ·refine WC.skip (aB _ _ (WC.seq (fun b0 a6=>WC.block (WC.sr (WL.r 3 E [] rfl ?_)))))
  refine WL.ix ay aq rfl rfl rfl rfl rfl rfl (bN.ofOwn J (E.ow L5)) ?_
  refine WL.fs 0 rfl ?_
  refine WL.storeF (x':=⟨q,(bO cc (eZ iC 3 k a i) i).Down,(bO cc (eZ iC 3 k a i) i).First⟩) E J aa rfl rfl rfl rfl rfl rfl rfl rfl rfl ?_ (by first | rfl | (rw [eK (by (try simp only [List.length_set]);omega) rfl];rfl)) (fun a7 b1 G U _=>?_)
  · omega
  refine WL.nil (WC.r1 G [] rfl (WC.sr (WL.r 3 G [] rfl (WL.val rfl rfl rfl (bP.rem rfl rfl rfl ?_ ?_) ?_))))
  · omega
  · omega
  refine WL.r 1 G [] rfl (WL.ix ay aq rfl rfl rfl rfl rfl rfl (bN.ofOwn U (G.ow a7)) ?_)
  refine WL.fs 0 rfl ?_
  refine WL.storeF (x':=⟨q,decide ((q+1)%3=0),(bO cc (eZ iC 3 k a i) i).First⟩) G U ap rfl rfl rfl rfl rfl rfl rfl rfl rfl ?_ (by first | rfl | (rw [eK (by (try simp only [List.length_set]);omega) rfl];rfl)) (fun a8 b2 M V _=>?_)
  · omega
  refine WL.nil (WC.r1 M [] rfl (WC.sr (WL.r 3 M [] rfl (WL.ix ay aq rfl rfl rfl rfl rfl rfl (bN.ofOwn V (M.ow a8)) ?_))))
  refine WL.fs 0 rfl ?_
  refine WL.storeF (x':=⟨q,decide ((q+1)%3=0),(q+1+1)⟩) M V aa rfl rfl rfl rfl rfl rfl rfl rfl rfl ?_ (by first | rfl | (rw [eK (by (try simp only [List.length_set]);omega) rfl];rfl)) (fun b3 b4 N O _=>?_)
  · omega
  refine WL.nil (WC.region (WL.r 3 N [] rfl (WL.nil (a6 _ _ (WC.region (WL.r 3 N [] rfl (WL.nil ?_)))))))
  refine cQ ?_
  try simp only [List.set_set] at O
  rw [nq (i:=i) (by omega) (by rw [hq];rfl) (by simp)] at O
  refine ⟨cR rfl,_,N,_,?_,i+1,_,rfl,?_,?_,O,⟨rfl,rfl,rfl,trivial⟩⟩
  · omega
  · omega
  · omega
 refine WC.exit (Z _ _ (WC.r1 E [] rfl (WC.ret (cO rfl (cb.tmp rfl) ?_))))
 have ba:=bS.eqOf (xs:=eP iC 3 k a.length) J (mA (by omega))
 have bb:i=a.length:=by omega
 refine ⟨_,?_,(St.keep1 E),ba ▸ J⟩
 rw [p1,bb]
theorem Eh (A_a:Option Addr) (n_a c_a:Nat) (a:List cn) (k:Int) (m:Nat) (w:World) (f_a:bN cc w A_a n_a a) (hm:a=eP iC 3 k m) (h1:0≤k) (h2:k≤1099511627776) (h3:n_a≤1099511627776) :
    Calls Tryz.prog 107 #[.slice A_a n_a c_a,i64 k] w fun e w'=>e = .returned (.int .i64 (k+3*m))∧St w [] [] w':=by
 have J:n_a=m:=by rw [← f_a.len,hm,er]
 subst J
 refine enter 42 Tryz.func107 rfl Tryz.ntmps107 rfl rfl ?_
 have G:=St.init w
 refine WC.r1 G [] rfl (WC.seq (fun K2 M=>WC.r1 G [] rfl (WC.block ?_)))
 refine WC.lS [0] rfl G (fun k_ f w'=>∃ (i:Nat) (q:Int),k_=n_a-i∧(i≤n_a)∧(q=k+3*i)∧cC [(5,.int .i64 i),(1,.int .i64 q)] f) ((fun (i:Nat) (q:Int)=>n_a-i) (0) (k)) ?_ ?_
 ·refine ⟨0,k,rfl,?_,?_,⟨rfl,rfl,trivial⟩⟩
  · exact Nat.zero_le _
  · simp
 clear G
 rintro _ f w ⟨i,q,rfl,p0,N,hG⟩ hF E
 refine WC.sub _ (hG.app hF) ?_
 clear hG hF
 have O:k+((3:Nat):Int)*(i:Int)=q:=by omega
 refine WC.seq (fun K4 U=>WC.r1 E [] rfl ?_)
 refine WC.cD rfl (fun V=>?_) (fun V=>?_)
 ·have I:bO cc a i=iC q:=by rw [hm,nw (by omega),O]
  refine WC.skip (U _ _ (WC.seq (fun K6 Z=>WC.block (WC.seq (fun K7 ad=>WC.sr (WL.r 2 E [] rfl ?_))))))
  refine WL.ix ay aq rfl rfl rfl rfl rfl rfl (bN.st0 f_a E) ?_
  refine WL.fs 0 rfl (WL.val rfl rfl rfl (bP.load ac rfl rfl (bN.fld (bN.st0 f_a E) ?_ rfl)) ?_)
  · omega
  refine WL.r 2 E [] rfl (WL.nil (WC.condF rfl (by simp [I,iC]) (WC.skip (ad _ _ (WC.r1 E [] rfl (WC.seq (fun K9 ag=>WC.sr ?_)))))))
  refine WL.r 2 E [] rfl (WL.ix ay aq rfl rfl rfl rfl rfl rfl (bN.st0 f_a E) ?_)
  refine WL.fs 0 rfl (WL.val rfl rfl rfl (bP.load aw rfl rfl (bN.fld (bN.st0 f_a E) ?_ rfl)) ?_)
  · omega
  refine WL.r 1 E [] rfl (WL.val rfl rfl rfl (bP.rem rfl rfl rfl ?_ ?_) ?_)
  · omega
  · omega
  refine WL.r 2 E [] rfl (WL.nil (WC.condF rfl (by simp [I,iC]) (WC.skip (ag _ _ (WC.r1 E [] rfl (WC.seq (fun bc al=>WC.sr ?_)))))))
  refine WL.r 2 E [] rfl (WL.ix ay aq rfl rfl rfl rfl rfl rfl (bN.st0 f_a E) ?_)
  refine WL.fs 0 rfl (WL.val rfl rfl rfl (bP.load ac rfl rfl (bN.fld (bN.st0 f_a E) ?_ rfl)) ?_)
  · omega
  refine WL.r 2 E [] rfl (WL.nil (WC.condF rfl (by simp [I,iC]) (WC.skip (al _ _ (WC.region (WL.r 3 E [] rfl (WL.nil ?_)))))))
  refine Z _ _ (WC.region (WL.r 3 E [] rfl (WL.nil (cQ ?_))))
  refine ⟨cR rfl,E,_,?_,i+1,_,rfl,?_,?_,⟨rfl,rfl,trivial⟩⟩
  · omega
  · omega
  · omega
 refine WC.exit (M _ _ (WC.r1 E [] rfl (WC.ret (rtv rfl rfl E ?_))))
 rw [N,show i=n_a from by omega]
theorem EI (v_a:Value) (a:List dq) (L_a:Hp) (k:Int) (w:World) (o_a:cv cB fF 177 v_a a L_a) (h_a:Hh w L_a) (hd_:((L_a).map (·.1)).Nodup) (h1:0≤k) (h2:k+dm dv a≤549755813888) (h3:a.length≤549755813888) :
    Calls Tryz.prog 101 #[v_a,i64 k] w fun e w'=>∃ L1,e = .returned (.int .i64 (k+dm dv a))∧St w (L_a.map (·.1)) L1 w'∧cv cB fF 177 v_a (ex gU dv k a) L1:=by
 obtain ⟨A_a,c_a,rfl⟩:=o_a.shape
 have M:∀ x,0≤dv x:=fun x=>by simp only [dv];omega
 refine enter 20 Tryz.func101 rfl Tryz.ntmps101 rfl rfl ?_
 have I:=St.takes1 w L_a h_a hd_
 refine WC.r1 I [] rfl (WC.seq (fun K2 ad=>WC.r1 I [] rfl (WC.block ?_)))
 refine WC.lO [4] rfl I (fun k_ f L_=>∃ (i:Nat),k_=a.length-i∧(i≤a.length)∧cv cB fF 177 (.slice A_a (a.length) c_a) (dD gU dv k a i) L_∧cC [(0,.slice A_a (a.length) c_a),(5,.int .i64 i),(1,.int .i64 (k+dm dv (a.take i)))] f) (((fun (i:Nat)=>a.length-i) (0))) ?_ ?_
 ·refine ⟨0,rfl,?_,(mp.symm ▸ o_a),⟨rfl,rfl,?_,trivial⟩⟩
  · exact Nat.zero_le _
  · (refine congrArg some (congrArg (Value.int _) ?_);simp [dm])
 clear I
 rintro _ f w L5 ⟨i,rfl,p0,J,hG⟩ hF E
 refine WC.sub _ (hG.app hF) ?_
 clear hG hF
 have al:(dD gU dv k a i).length=a.length:=gj p0
 have c0:=dJ (c:=dv) M (a.take i)
 have c1:=eJ M a i
 refine WC.seq (fun K8 aB=>WC.r1 E [] rfl ?_)
 refine WC.cq rfl (fun h9 a2=>?_) (fun h9 a2=>?_)
 ·have G:=ni (mk:=gU) (c:=dv) (F:=cB) (k:=k) (xs:=a) (i:=i) (by omega)
  have a6:=fM (c:=dv) (F:=cB) (xs:=a) (i:=i) (by omega)
  have c3:=eJ M a (i+1)
  have a7:=a6
  simp only [dv,← G] at a7
  have c4:(bO cB (dD gU dv k a i) i)=bO cB a i:=G
  refine WC.skip (aB _ _ (WC.seq (fun c5 a8=>WC.block (WC.region (WL.r 2 E [] rfl ?_)))))
  refine WL.ix aN aD rfl rfl rfl rfl rfl rfl (cv.sl J (E.ow L5)) ?_
  refine WL.fs 0 rfl (WL.val rfl rfl rfl (bP.load bk rfl rfl (bN.fld (cv.sl J (E.ow L5)) ?_ rfl)) ?_)
  · omega
  refine WL.r 1 E [] rfl ?_
  obtain ⟨ba,bb,bc,bd,bg⟩:=cv.open_ E J
  obtain ⟨bo,bx,b0,U,b1,b2⟩:=ew.out (F:=cB) (i:=i) (bc.fr bb) bg (by rw [gj (by omega)];omega)
  refine WL.l1 U Tryz.call100 rfl (wI _ _ _ _ _ b1 (U.ow bx) ?_ ?_ ?_) (fun _ b3 b4 N=>?_)
  iterate 3 first | assumption | rfl | omega
  refine WL.r 1 N [] rfl (WL.nil (a8 _ _ (WC.region (WL.r 3 N [] rfl (WL.nil (cQ ?_))))))
  obtain ⟨c6,b5,V⟩:=b2 (gU (k+dm dv (a.take i)) (bO cB a i)) _ ((N.fr (bo++b0)).fr b3) (by have O:=b4;first | exact O | (simp only [G] at O;exact O))
  rw [jl (F:=cB) (by omega) rfl] at V
  have b6:=bS.recast (ys:=dD gU dv k a (i+1)) bd (by rw [gj (by omega)];(try simp only [List.length_set]);exact al.symm) (by rw [← jl (F:=cB) (i:=i) (by omega) rfl];exact qY (by rw [gj (by omega)];omega) (by rw [G];rfl))
  obtain ⟨c7,b7,b8⟩:=cv.fold (b5.fr ba) b6 V
  refine ⟨cR rfl,_,b7,_,?_,i+1,rfl,?_,b8,⟨rfl,rfl,?_,trivial⟩⟩
  · omega
  · omega
  · (refine congrArg some (congrArg (Value.int _) ?_);rw [fM (F:=cB) (by omega)];simp only [dv,G];omega)
 refine WC.exit (ad _ _ (WC.r1 E [] rfl (WC.ret (cO rfl (cb.tmp rfl) ?_))))
 have b9:i=a.length:=by omega
 have Z:=J
 rw [mn (by omega)] at Z
 refine ⟨_,?_,(St.keep1 E),Z⟩
 rw [b9,List.take_of_length_le (Nat.le_refl _)]
theorem Fh (A_a:Option Addr) (n_a c_a:Nat) (a:List dq) (k:Int) (w:World) (f_a:cT cB (eh 549755813888) w A_a n_a (ex gU dv k a)) (h1:0≤k) (h2:k+dm dv a≤549755813888) (h3:n_a≤549755813888) :
    Calls Tryz.prog 106 #[.slice A_a n_a c_a,i64 k] w fun e w'=>e = .returned (.int .i64 (k+dm dv a))∧St w [] [] w':=by
 have hl:a.length=n_a:=by have O:=f_a.sl.len;simpa [eW] using O
 have M:∀ x,0≤dv x:=fun x=>by simp only [dv];omega
 refine enter 22 Tryz.func106 rfl Tryz.ntmps106 rfl rfl ?_
 have I:=St.init w
 refine WC.r1 I [] rfl (WC.seq (fun K2 U=>WC.r1 I [] rfl (WC.block ?_)))
 refine WC.lS [0] rfl I (fun k_ f w'=>∃ (i:Nat),k_=n_a-i∧(i≤n_a)∧cC [(5,.int .i64 i),(1,.int .i64 (k+dm dv (a.take i)))] f) ((fun (i:Nat)=>n_a-i) (0)) ?_ ?_
 ·refine ⟨0,rfl,?_,⟨rfl,?_,trivial⟩⟩
  · exact Nat.zero_le _
  · (refine congrArg some (congrArg (Value.int _) ?_);simp [dm])
 clear I
 rintro _ f w ⟨i,rfl,p0,hG⟩ hF E
 refine WC.sub _ (hG.app hF) ?_
 clear hG hF
 have bb:=dJ (c:=dv) M (a.take i)
 have bc:=eJ M a i
 refine WC.seq (fun K4 V=>WC.r1 E [] rfl ?_)
 refine WC.cD rfl (fun Z=>?_) (fun Z=>?_)
 ·have G:=nf (mk:=gU) (c:=dv) (F:=cB) (k:=k) (xs:=a) (i:=i) (by omega)
  have ad:=fM (c:=dv) (F:=cB) (xs:=a) (i:=i) (by omega)
  have bg:=eJ M a (i+1)
  simp only [dv] at ad
  have N:=(cT.nth f_a (show i<n_a by omega))
  rw [G] at N
  have ag:=N.Cells.len
  have al:=N.Cells_n
  simp only [gU,er,eW] at ag al
  have bo:(bO cB (ex gU dv k a) i).Cells.n=(bO cB a i).Cells.n:=by rw [G];rfl
  have aB:(bO cB (ex gU dv k a) i).Cells.xs=eP eu 6 (k+dm dv (a.take i)) (bO cB a i).Cells.xs.length:=by rw [G];rfl
  refine WC.skip (V _ _ (WC.seq (fun K6 a1=>WC.block (WC.sr (WL.r 2 E [] rfl ?_)))))
  refine WL.ix aN aD rfl rfl rfl rfl rfl rfl (bN.st0 f_a.sl E) ?_
  refine WL.fs 0 rfl (WL.val rfl rfl rfl (bP.load bk rfl rfl (bN.fld (bN.st0 f_a.sl E) ?_ rfl)) ?_)
  · omega
  refine WL.r 1 E [] rfl (WL.c0 E Tryz.call105 rfl (xe _ _ _ _ _ _ _ (bN.st0 (cT.nth f_a (by omega)).Cells E) aB ?_ ?_ ?_) (fun _ J=>?_))
  iterate 3 first | assumption | rfl | omega
  refine WL.r 1 J [] rfl (WL.nil (WC.r1 J [] rfl ?_))
  refine WC.condF rfl (by first | (simp [G,gU];done) | (simp [G,gU];omega)) (WC.skip (a1 _ _ (WC.region (WL.r 3 J [] rfl (WL.nil (cQ ?_))))))
  refine ⟨cR rfl,J,_,?_,i+1,rfl,?_,⟨rfl,?_,trivial⟩⟩
  · omega
  · omega
  · (refine congrArg some (congrArg (Value.int _) ?_);rw [fM (F:=cB) (by omega)];simp only [dv];omega)
 refine WC.exit (U _ _ (WC.r1 E [] rfl (WC.ret (rtv rfl rfl E ?_))))
 rw [show i=a.length from by omega,List.take_of_length_le (Nat.le_refl _)]
set_option maxHeartbeats 16000000 in
set_option maxRecDepth 20000 in
theorem EG (v_a:Value) (a:List cr) (L_a:Hp) (k:Int) (w:World) (o_a:cv bW dE 55 v_a a L_a) (h_a:Hh w L_a) (hd_:((L_a).map (·.1)).Nodup) (h1:0≤k) (h2:k+dm cw a≤549755813888) (h3:a.length≤549755813888) (h4_Term_S_Back:∀ x,x∈a→x.Term.S.Back.xs.length≤549755813888) :
    Calls Tryz.prog 42 #[v_a,i64 k] w fun e w'=>∃ L1,e = .returned (.int .i64 (k+dm cw a))∧St w (L_a.map (·.1)) L1 w'∧cv bW dE 55 v_a (ex ct cw k a) L1:=by
 obtain ⟨A_a,c_a,rfl⟩:=o_a.shape
 have f1:∀ x,0≤cw x:=kq
 refine enter 410 Tryz.func42 rfl Tryz.ntmps42 rfl rfl ?_
 have d4:=St.takes1 w L_a h_a hd_
 refine WC.r1 d4 [] rfl (WC.seq (fun K2 hE=>WC.r1 d4 [] rfl (WC.block ?_)))
 refine WC.lO [4] rfl d4 (fun k_ f L_=>∃ (i:Nat),k_=a.length-i∧(i≤a.length)∧cv bW dE 55 (.slice A_a (a.length) c_a) (dD ct cw k a i) L_∧cC [(0,.slice A_a (a.length) c_a),(5,.int .i64 i),(1,.int .i64 (k+dm cw (a.take i)))] f) (((fun (i:Nat)=>a.length-i) (0))) ?_ ?_
 ·refine ⟨0,rfl,?_,(mp.symm ▸ o_a),⟨rfl,rfl,?_,trivial⟩⟩
  · exact Nat.zero_le _
  · (refine congrArg some (congrArg (Value.int _) ?_);simp [dm])
 clear d4
 rintro _ f w L5 ⟨i,rfl,p0,f2,hG⟩ hF ba
 refine WC.sub _ (hG.app hF) ?_
 clear hG hF
 have hK:(dD ct cw k a i).length=a.length:=gj p0
 have rG:=dJ (c:=cw) f1 (a.take i)
 have rH:=eJ f1 a i
 refine WC.seq (fun K8 hL=>WC.r1 ba [] rfl ?_)
 refine WC.cq rfl (fun h9 hN=>?_) (fun h9 hN=>?_)
 ·have r2:=dJ (c:=dv) oU ((bO bW (dD ct cw k a i) i).Term.S.Back.xs)
  have hg:=ni (mk:=ct) (c:=cw) (F:=bW) (k:=k) (xs:=a) (i:=i) (by omega)
  have hP:=fM (c:=cw) (F:=bW) (xs:=a) (i:=i) (by omega)
  have r3:=eJ f1 a (i+1)
  have hQ:=hP
  simp only [cw,← hg] at hQ
  have hR:=h4_Term_S_Back _ (dg (F:=bW) (show i<a.length by omega))
  rw [← hg] at hR
  refine WC.skip (hL _ _ (WC.seq (fun r4 hS=>WC.block (WC.sr (WL.r 3 ba [] rfl ?_)))))
  refine WL.ix af ab rfl rfl rfl rfl rfl rfl (cv.sl f2 (ba.ow L5)) ?_
  refine WL.fs 0 rfl ?_
  obtain ⟨r9,hT,hV,hW,h0⟩:=cv.open_ ba f2
  refine WL.sF i64 (fun z_=>({(bO bW (dD ct cw k a i) i) with Id:=z_}:cr)) hV hW aa rfl rfl rfl rfl rfl rfl rfl rfl rfl (fun h4 sq h5 E f3 gL=>WL.nil (WC.r1 f3 [] rfl (WC.sr (WL.r 3 f3 [] rfl ?_))))
  refine WL.c0 f3 Tryz.call98 rfl (nl _ _ ?_) (fun _ gO=>?_)
  · first | assumption | rfl | omega
  refine WL.ix af ab rfl rfl rfl rfl rfl rfl (bN.ofOwn gL (gO.ow h4)) ?_
  refine WL.fs 0 rfl (WL.sF Value.string (fun z_=>({h5 with Cmd:=z_}:cr)) gO gL aK rfl rfl rfl rfl rfl rfl rfl rfl rfl (fun h6 st h7 G f4 g0=>WL.nil (WC.r1 f4 [] rfl (WC.sr (WL.r 3 f4 [] rfl ?_)))))
  refine WL.c0 f4 Tryz.call98 rfl (nl _ _ ?_) (fun _ g1=>?_)
  · first | assumption | rfl | omega
  refine WL.ix af ab rfl rfl rfl rfl rfl rfl (bN.ofOwn g0 (g1.ow h6)) ?_
  refine WL.fs 0 rfl (WL.sF Value.string (fun z_=>({h7 with Dir:=z_}:cr)) g1 g0 aK rfl rfl rfl rfl rfl rfl rfl rfl rfl (fun h8 sR ia I d5 g2=>WL.nil (WC.r1 d5 [] rfl (WC.sr (WL.r 3 d5 [] rfl ?_)))))
  refine WL.ix af ab rfl rfl rfl rfl rfl rfl (bN.ofOwn g2 (d5.ow h8)) ?_
  refine WL.fs 0 rfl (WL.sF i64 (fun z_=>({ia with Life:=z_}:cr)) d5 g2 aa rfl rfl rfl rfl rfl rfl rfl rfl rfl (fun ib s0 ic J d6 g3=>WL.nil (WC.r1 d6 [] rfl (WC.sr (WL.r 3 d6 [] rfl ?_)))))
  refine WL.ix af ab rfl rfl rfl rfl rfl rfl (bN.ofOwn g3 (d6.ow ib)) ?_
  refine WL.fs 0 rfl (WL.sF i64 (fun z_=>({ic with Code:=z_}:cr)) d6 g3 aa rfl rfl rfl rfl rfl rfl rfl rfl rfl (fun ih s1 i0 M d7 g4=>WL.nil (WC.r1 d7 [] rfl (WC.sr (WL.r 3 d7 [] rfl ?_)))))
  refine WL.ix af ab rfl rfl rfl rfl rfl rfl (bN.ofOwn g4 (d7.ow ih)) ?_
  refine WL.fs 0 rfl (WL.sF i64 (fun z_=>({i0 with Pid:=z_}:cr)) d7 g4 aa rfl rfl rfl rfl rfl rfl rfl rfl rfl (fun i1 s2 i2 N d8 g5=>WL.nil (WC.r1 d8 [] rfl (WC.sr (WL.r 3 d8 [] rfl ?_)))))
  refine WL.ix af ab rfl rfl rfl rfl rfl rfl (bN.ofOwn g5 (d8.ow i1)) ?_
  refine WL.fs 2 rfl (WL.sF i64 (fun z_=>({i2 with Term.P.State:=z_}:cr)) d8 g5 aa rfl rfl rfl rfl rfl rfl rfl rfl rfl (fun i3 s3 j1 O bo g6=>WL.nil (WC.r1 bo [] rfl (WC.sr (WL.r 3 bo [] rfl ?_)))))
  refine WL.val rfl rfl rfl (bP.rem rfl rfl rfl ?_ ?_) ?_
  · omega
  · omega
  refine WL.r 1 bo [] rfl (WL.ix af ab rfl rfl rfl rfl rfl rfl (bN.ofOwn g6 (bo.ow i3)) ?_)
  refine WL.fs 2 rfl (WL.sF Value.bool (fun z_=>({j1 with Term.P.Mark:=z_}:cr)) bo g6 ap rfl rfl rfl rfl rfl rfl rfl rfl rfl (fun bb s4 j2 U bc bd=>WL.nil (WC.r1 bc [] rfl (WC.sr (WL.r 2 bc [] rfl ?_)))))
  refine WL.ix af ab rfl rfl rfl rfl rfl rfl (bN.ofOwn bd (bc.ow bb)) ?_
  refine WL.fs 2 rfl (WL.val rfl rfl rfl (bP.load be rfl rfl (bN.fld (v:=.slice (bO bW (dD ct cw k a i) i).Term.P.Args.A (bO bW (dD ct cw k a i) i).Term.P.Args.n (bO bW (dD ct cw k a i) i).Term.P.Args.c) (bN.ofOwn bd (bc.ow bb)) ?_ ?_)) ?_)
  · omega
  · first | (rw [eK (by (try simp only [List.length_set]);omega) rfl];simp only [U,O,N,M,J,I,G,E];done) | (rw [eK (by (try simp only [List.length_set]);omega) rfl];simp only [U,O,N,M,J,I,G,E];rfl) | rfl
  refine WL.r 1 bc [] rfl ?_
  obtain ⟨ka,tk,kb,kc,kd,kk⟩:=ew.out (F:=bW) (i:=i) (bc.fr hT) h0 (by rw [gj (by omega)];omega)
  obtain ⟨ks,g7,g8,g9,ha,f5,hb,kt,kv,k0,k1,k2,k3⟩:=dE.op kc kd
  refine WL.l1 hb Tryz.call99 rfl (xL _ _ _ _ _ kt (hb.ow ks) ?_ ?_ ?_) (fun _ tu k4 aB=>?_)
  iterate 3 first | assumption | rfl | omega
  refine WL.r 1 aB [] rfl (WL.nil (WC.sr (WL.r 2 aB [] rfl (WL.ix af ab rfl rfl rfl rfl rfl rfl (bN.ofOwn bd (aB.ow bb)) ?_))))
  refine WL.fs 2 rfl (WL.val rfl rfl rfl (bP.load Tryz.isAgg22 rfl rfl (bN.fld (v:=.slice (bO bW (dD ct cw k a i) i).Term.P.Part.A (bO bW (dD ct cw k a i) i).Term.P.Part.n (bO bW (dD ct cw k a i) i).Term.P.Part.c) (bN.ofOwn bd (aB.ow bb)) ?_ ?_)) ?_)
  · omega
  · first | (rw [eK (by (try simp only [List.length_set]);omega) rfl];simp only [U,O,N,M,J,I,G,E];done) | (rw [eK (by (try simp only [List.length_set]);omega) rfl];simp only [U,O,N,M,J,I,G,E];rfl) | rfl
  refine WL.r 1 aB [] rfl (WL.l1 (aB.fr g7) Tryz.call11 rfl (B5 _ _ _ _ _ kv (aB.ow g7) ?_ ?_ ?_) (fun _ tx k5 d9=>?_))
  iterate 3 first | assumption | rfl | omega
  refine WL.r 1 d9 [] rfl (WL.nil (WC.sr (WL.r 3 d9 [] rfl (WL.ix af ab rfl rfl rfl rfl rfl rfl (bN.ofOwn bd (d9.ow bb)) ?_))))
  refine WL.fs 2 rfl (WL.sF i64 (fun z_=>({j2 with Term.S.W:=z_}:cr)) (d9.fr bb) bd aa rfl rfl rfl rfl rfl rfl rfl rfl rfl (fun k6 t1 la V ea hc=>WL.nil (WC.r1 ea [] rfl (WC.sr (WL.r 3 ea [] rfl ?_)))))
  refine WL.ix af ab rfl rfl rfl rfl rfl rfl (bN.ofOwn hc (ea.ow k6)) ?_
  refine WL.fs 2 rfl (WL.sF i64 (fun z_=>({la with Term.S.H:=z_}:cr)) ea hc aa rfl rfl rfl rfl rfl rfl rfl rfl rfl (fun lm t2 lt Z ec hd=>WL.nil (WC.r1 ec [] rfl (WC.sr (WL.r 3 ec [] rfl ?_)))))
  refine WL.ix af ab rfl rfl rfl rfl rfl rfl (bN.ofOwn hd (ec.ow lm)) ?_
  refine WL.fs 3 rfl (WL.sF i64 (fun z_=>({lt with Term.S.Main.W:=z_}:cr)) ec hd aa rfl rfl rfl rfl rfl rfl rfl rfl rfl (fun lS un lV ad el he=>WL.nil (WC.r1 el [] rfl (WC.sr ?_))))
  refine WL.r 3 el [] rfl (WL.ix af ab rfl rfl rfl rfl rfl rfl (bN.ofOwn he (el.ow lS)) ?_)
  refine WL.fs 3 rfl (WL.sF i64 (fun z_=>({lV with Term.S.Main.H:=z_}:cr)) el he aa rfl rfl rfl rfl rfl rfl rfl rfl rfl (fun em u0 l0 ag a1 es=>WL.nil (WC.r1 a1 [] rfl (WC.sr ?_))))
  refine WL.r 2 a1 [] rfl (WL.ix af ab rfl rfl rfl rfl rfl rfl (bN.ofOwn es (a1.ow em)) ?_)
  refine WL.fs 3 rfl (WL.val rfl rfl rfl (bP.load bk rfl rfl (bN.fld (v:=.slice (bO bW (dD ct cw k a i) i).Term.S.Main.Cells.A (bO bW (dD ct cw k a i) i).Term.S.Main.Cells.n (bO bW (dD ct cw k a i) i).Term.S.Main.Cells.c) (bN.ofOwn es (a1.ow em)) ?_ ?_)) ?_)
  · omega
  · first | (rw [eK (by (try simp only [List.length_set]);omega) rfl];simp only [ag,ad,Z,V,U,O,N,M,J,I,G,E];done) | (rw [eK (by (try simp only [List.length_set]);omega) rfl];simp only [ag,ad,Z,V,U,O,N,M,J,I,G,E];rfl) | rfl
  refine WL.r 1 a1 [] rfl (WL.l1 (a1.fr g8) Tryz.call100 rfl (wI _ _ _ _ _ k0 (a1.ow g8) ?_ ?_ ?_) (fun _ u1 l2 et=>?_))
  iterate 3 first | assumption | rfl | omega
  refine WL.r 1 et [] rfl (WL.nil (WC.sr (WL.r 3 et [] rfl (WL.ix af ab rfl rfl rfl rfl rfl rfl (bN.ofOwn es (et.ow em)) ?_))))
  refine WL.fs 3 rfl (WL.sF i64 (fun z_=>({l0 with Term.S.Alt.W:=z_}:cr)) (et.fr em) es aa rfl rfl rfl rfl rfl rfl rfl rfl rfl (fun l3 u2 m1 a2 eA hf=>WL.nil (WC.r1 eA [] rfl (WC.sr ?_))))
  refine WL.r 3 eA [] rfl (WL.ix af ab rfl rfl rfl rfl rfl rfl (bN.ofOwn hf (eA.ow l3)) ?_)
  refine WL.fs 3 rfl (WL.sF i64 (fun z_=>({m1 with Term.S.Alt.H:=z_}:cr)) eA hf aa rfl rfl rfl rfl rfl rfl rfl rfl rfl (fun eO u3 m2 a6 a7 e0=>WL.nil (WC.r1 a7 [] rfl (WC.sr ?_))))
  refine WL.r 2 a7 [] rfl (WL.ix af ab rfl rfl rfl rfl rfl rfl (bN.ofOwn e0 (a7.ow eO)) ?_)
  refine WL.fs 3 rfl (WL.val rfl rfl rfl (bP.load bk rfl rfl (bN.fld (v:=.slice (bO bW (dD ct cw k a i) i).Term.S.Alt.Cells.A (bO bW (dD ct cw k a i) i).Term.S.Alt.Cells.n (bO bW (dD ct cw k a i) i).Term.S.Alt.Cells.c) (bN.ofOwn e0 (a7.ow eO)) ?_ ?_)) ?_)
  · omega
  · first | (rw [eK (by (try simp only [List.length_set]);omega) rfl];simp only [a6,a2,ag,ad,Z,V,U,O,N,M,J,I,G,E];done) | (rw [eK (by (try simp only [List.length_set]);omega) rfl];simp only [a6,a2,ag,ad,Z,V,U,O,N,M,J,I,G,E];rfl) | rfl
  refine WL.r 1 a7 [] rfl (WL.l1 (a7.fr g9) Tryz.call100 rfl (wI _ _ _ _ _ k1 (a7.ow g9) ?_ ?_ ?_) (fun _ u4 m3 bx=>?_))
  iterate 3 first | assumption | rfl | omega
  refine WL.r 1 bx [] rfl (WL.nil (WC.sr (WL.r 3 bx [] rfl (WL.val rfl rfl rfl (bP.rem rfl rfl rfl ?_ ?_) ?_))))
  · omega
  · omega
  refine WL.r 1 bx [] rfl (WL.ix af ab rfl rfl rfl rfl rfl rfl (bN.ofOwn e0 (bx.ow eO)) ?_)
  refine WL.fs 2 rfl (WL.sF Value.bool (fun z_=>({m2 with Term.S.OnAlt:=z_}:cr)) (bx.fr eO) e0 ap rfl rfl rfl rfl rfl rfl rfl rfl rfl (fun m4 u8 m5 b0 e1 hh=>WL.nil (WC.r1 e1 [] rfl (WC.sr (WL.r 3 e1 [] rfl ?_)))))
  refine WL.ix af ab rfl rfl rfl rfl rfl rfl (bN.ofOwn hh (e1.ow m4)) ?_
  refine WL.fs 2 rfl (WL.sF i64 (fun z_=>({m5 with Term.S.X:=z_}:cr)) e1 hh aa rfl rfl rfl rfl rfl rfl rfl rfl rfl (fun m6 vl m7 b1 e2 hj=>WL.nil (WC.r1 e2 [] rfl (WC.sr (WL.r 3 e2 [] rfl ?_)))))
  refine WL.ix af ab rfl rfl rfl rfl rfl rfl (bN.ofOwn hj (e2.ow m6)) ?_
  refine WL.fs 2 rfl (WL.sF i64 (fun z_=>({m7 with Term.S.Y:=z_}:cr)) e2 hj aa rfl rfl rfl rfl rfl rfl rfl rfl rfl (fun m8 vx n1 b2 b3 hk=>WL.nil (WC.r1 b3 [] rfl (WC.sr (WL.r 3 b3 [] rfl ?_)))))
  refine WL.val rfl rfl rfl (bP.rem rfl rfl rfl ?_ ?_) ?_
  · omega
  · omega
  refine WL.r 1 b3 [] rfl (WL.ix af ab rfl rfl rfl rfl rfl rfl (bN.ofOwn hk (b3.ow m8)) ?_)
  refine WL.fs 2 rfl (WL.sF Value.bool (fun z_=>({n1 with Term.S.Wrap:=z_}:cr)) b3 hk ap rfl rfl rfl rfl rfl rfl rfl rfl rfl (fun n2 vy n3 b4 e3 hl=>WL.nil (WC.r1 e3 [] rfl (WC.sr (WL.r 3 e3 [] rfl ?_)))))
  refine WL.ix af ab rfl rfl rfl rfl rfl rfl (bN.ofOwn hl (e3.ow n2)) ?_
  refine WL.fs 3 rfl (WL.sF i64 (fun z_=>({n3 with Term.S.A.Fg:=z_}:cr)) e3 hl aa rfl rfl rfl rfl rfl rfl rfl rfl rfl (fun n4 v6 n5 b5 e4 hm=>WL.nil (WC.r1 e4 [] rfl (WC.sr ?_))))
  refine WL.r 3 e4 [] rfl (WL.ix af ab rfl rfl rfl rfl rfl rfl (bN.ofOwn hm (e4.ow n4)) ?_)
  refine WL.fs 3 rfl (WL.sF i64 (fun z_=>({n5 with Term.S.A.Bg:=z_}:cr)) e4 hm aa rfl rfl rfl rfl rfl rfl rfl rfl rfl (fun n6 v7 oc b6 b7 hn=>WL.nil (WC.r1 b7 [] rfl (WC.sr ?_))))
  refine WL.r 3 b7 [] rfl (WL.val rfl rfl rfl (bP.rem rfl rfl rfl ?_ ?_) ?_)
  · omega
  · omega
  refine WL.r 1 b7 [] rfl (WL.ix af ab rfl rfl rfl rfl rfl rfl (bN.ofOwn hn (b7.ow n6)) ?_)
  refine WL.fs 3 rfl (WL.sF Value.bool (fun z_=>({oc with Term.S.A.Bold:=z_}:cr)) b7 hn ap rfl rfl rfl rfl rfl rfl rfl rfl rfl (fun oi v8 oj b8 b9 ho=>WL.nil (WC.r1 b9 [] rfl (WC.sr ?_))))
  refine WL.r 3 b9 [] rfl (WL.val rfl rfl rfl (bP.rem rfl rfl rfl ?_ ?_) ?_)
  · omega
  · omega
  refine WL.r 1 b9 [] rfl (WL.ix af ab rfl rfl rfl rfl rfl rfl (bN.ofOwn ho (b9.ow oi)) ?_)
  refine WL.fs 3 rfl (WL.sF Value.bool (fun z_=>({oj with Term.S.A.Under:=z_}:cr)) b9 ho ap rfl rfl rfl rfl rfl rfl rfl rfl rfl (fun oq wf oK ck cD hp=>WL.nil (WC.r1 cD [] rfl (WC.sr ?_))))
  refine WL.r 3 cD [] rfl (WL.val rfl rfl rfl (bP.rem rfl rfl rfl ?_ ?_) ?_)
  · omega
  · omega
  refine WL.r 1 cD [] rfl (WL.ix af ab rfl rfl rfl rfl rfl rfl (bN.ofOwn hp (cD.ow oq)) ?_)
  refine WL.fs 3 rfl (WL.sF Value.bool (fun z_=>({oK with Term.S.A.Turn:=z_}:cr)) cD hp ap rfl rfl rfl rfl rfl rfl rfl rfl rfl (fun o0 wp o1 cN e5 hq=>WL.nil (WC.r1 e5 [] rfl (WC.sr ?_))))
  refine WL.r 3 e5 [] rfl (WL.ix af ab rfl rfl rfl rfl rfl rfl (bN.ofOwn hq (e5.ow o0)) ?_)
  refine WL.fs 2 rfl (WL.sF i64 (fun z_=>({o1 with Term.S.Top:=z_}:cr)) e5 hq aa rfl rfl rfl rfl rfl rfl rfl rfl rfl (fun o2 w2 o3 c1 e6 hr=>WL.nil (WC.r1 e6 [] rfl (WC.sr (WL.r 3 e6 [] rfl ?_)))))
  refine WL.ix af ab rfl rfl rfl rfl rfl rfl (bN.ofOwn hr (e6.ow o2)) ?_
  refine WL.fs 2 rfl (WL.sF i64 (fun z_=>({o3 with Term.S.Bot:=z_}:cr)) e6 hr aa rfl rfl rfl rfl rfl rfl rfl rfl rfl (fun o4 w3 o5 c2 c3 hs=>WL.nil (WC.r1 c3 [] rfl (WC.sr (WL.r 3 c3 [] rfl ?_)))))
  refine WL.val rfl rfl rfl (bP.rem rfl rfl rfl ?_ ?_) ?_
  · omega
  · omega
  refine WL.r 1 c3 [] rfl (WL.ix af ab rfl rfl rfl rfl rfl rfl (bN.ofOwn hs (c3.ow o4)) ?_)
  refine WL.fs 2 rfl (WL.sF Value.bool (fun z_=>({o5 with Term.S.NoWrap:=z_}:cr)) c3 hs ap rfl rfl rfl rfl rfl rfl rfl rfl rfl (fun o6 w4 ps c4 c5 ht=>WL.nil (WC.r1 c5 [] rfl (WC.sr (WL.r 3 c5 [] rfl ?_)))))
  refine WL.val rfl rfl rfl (bP.rem rfl rfl rfl ?_ ?_) ?_
  · omega
  · omega
  refine WL.r 1 c5 [] rfl (WL.ix af ab rfl rfl rfl rfl rfl rfl (bN.ofOwn ht (c5.ow o6)) ?_)
  refine WL.fs 2 rfl (WL.sF Value.bool (fun z_=>({ps with Term.S.Hide:=z_}:cr)) c5 ht ap rfl rfl rfl rfl rfl rfl rfl rfl rfl (fun pA w5 pO c6 e7 hu=>WL.nil (WC.r1 e7 [] rfl (WC.sr (WL.r 3 e7 [] rfl ?_)))))
  refine WL.ix af ab rfl rfl rfl rfl rfl rfl (bN.ofOwn hu (e7.ow pA)) ?_
  refine WL.fs 2 rfl (WL.sF i64 (fun z_=>({pO with Term.S.SaveX:=z_}:cr)) e7 hu aa rfl rfl rfl rfl rfl rfl rfl rfl rfl (fun p1 w6 p2 c7 e8 hv=>WL.nil (WC.r1 e8 [] rfl (WC.sr (WL.r 3 e8 [] rfl ?_)))))
  refine WL.ix af ab rfl rfl rfl rfl rfl rfl (bN.ofOwn hv (e8.ow p1)) ?_
  refine WL.fs 2 rfl (WL.sF i64 (fun z_=>({p2 with Term.S.SaveY:=z_}:cr)) e8 hv aa rfl rfl rfl rfl rfl rfl rfl rfl rfl (fun p3 x2 p4 c8 e9 hw=>WL.nil (WC.r1 e9 [] rfl (WC.sr (WL.r 3 e9 [] rfl ?_)))))
  refine WL.ix af ab rfl rfl rfl rfl rfl rfl (bN.ofOwn hw (e9.ow p3)) ?_
  refine WL.fs 3 rfl (WL.sF i64 (fun z_=>({p4 with Term.S.SaveA.Fg:=z_}:cr)) e9 hw aa rfl rfl rfl rfl rfl rfl rfl rfl rfl (fun qb x3 qc c9 fb hx=>WL.nil (WC.r1 fb [] rfl (WC.sr ?_))))
  refine WL.r 3 fb [] rfl (WL.ix af ab rfl rfl rfl rfl rfl rfl (bN.ofOwn hx (fb.ow qb)) ?_)
  refine WL.fs 3 rfl (WL.sF i64 (fun z_=>({qc with Term.S.SaveA.Bg:=z_}:cr)) fb hx aa rfl rfl rfl rfl rfl rfl rfl rfl rfl (fun qs x4 q0 dj dn hy=>WL.nil (WC.r1 dn [] rfl (WC.sr ?_))))
  refine WL.r 3 dn [] rfl (WL.val rfl rfl rfl (bP.rem rfl rfl rfl ?_ ?_) ?_)
  · omega
  · omega
  refine WL.r 1 dn [] rfl (WL.ix af ab rfl rfl rfl rfl rfl rfl (bN.ofOwn hy (dn.ow qs)) ?_)
  refine WL.fs 3 rfl (WL.sF Value.bool (fun z_=>({q0 with Term.S.SaveA.Bold:=z_}:cr)) dn hy ap rfl rfl rfl rfl rfl rfl rfl rfl rfl (fun q1 x5 q2 ds d0 hA=>WL.nil (WC.r1 d0 [] rfl (WC.sr ?_))))
  refine WL.r 3 d0 [] rfl (WL.val rfl rfl rfl (bP.rem rfl rfl rfl ?_ ?_) ?_)
  · omega
  · omega
  refine WL.r 1 d0 [] rfl (WL.ix af ab rfl rfl rfl rfl rfl rfl (bN.ofOwn hA (d0.ow q1)) ?_)
  refine WL.fs 3 rfl (WL.sF Value.bool (fun z_=>({q2 with Term.S.SaveA.Under:=z_}:cr)) d0 hA ap rfl rfl rfl rfl rfl rfl rfl rfl rfl (fun q3 x6 q4 d1 d2 hB=>WL.nil (WC.r1 d2 [] rfl (WC.sr ?_))))
  refine WL.r 3 d2 [] rfl (WL.val rfl rfl rfl (bP.rem rfl rfl rfl ?_ ?_) ?_)
  · omega
  · omega
  refine WL.r 1 d2 [] rfl (WL.ix af ab rfl rfl rfl rfl rfl rfl (bN.ofOwn hB (d2.ow q3)) ?_)
  refine WL.fs 3 rfl (WL.sF Value.bool (fun z_=>({q4 with Term.S.SaveA.Turn:=z_}:cr)) d2 hB ap rfl rfl rfl rfl rfl rfl rfl rfl rfl (fun fd x7 q5 d3 a8 fg=>WL.nil (WC.r1 a8 [] rfl (WC.sr ?_))))
  refine WL.r 2 a8 [] rfl (WL.ix af ab rfl rfl rfl rfl rfl rfl (bN.ofOwn fg (a8.ow fd)) ?_)
  refine WL.fs 2 rfl (WL.val rfl rfl rfl (bP.load be rfl rfl (bN.fld (v:=.slice (bO bW (dD ct cw k a i) i).Term.S.Tabs.A (bO bW (dD ct cw k a i) i).Term.S.Tabs.n (bO bW (dD ct cw k a i) i).Term.S.Tabs.c) (bN.ofOwn fg (a8.ow fd)) ?_ ?_)) ?_)
  · omega
  · first | (rw [eK (by (try simp only [List.length_set]);omega) rfl];simp only [d3,d1,ds,dj,c9,c8,c7,c6,c4,c2,c1,cN,ck,b8,b6,b5,b4,b2,b1,b0,a6,a2,ag,ad,Z,V,U,O,N,M,J,I,G,E];done) | (rw [eK (by (try simp only [List.length_set]);omega) rfl];simp only [d3,d1,ds,dj,c9,c8,c7,c6,c4,c2,c1,cN,ck,b8,b6,b5,b4,b2,b1,b0,a6,a2,ag,ad,Z,V,U,O,N,M,J,I,G,E];rfl) | rfl
  refine WL.r 1 a8 [] rfl (WL.l1 (a8.fr ha) Tryz.call99 rfl (xL _ _ _ _ _ k2 (a8.ow ha) ?_ ?_ ?_) (fun _ x8 q6 fo=>?_))
  iterate 3 first | assumption | rfl | omega
  refine WL.r 1 fo [] rfl (WL.nil (WC.sr (WL.r 3 fo [] rfl (WL.ix af ab rfl rfl rfl rfl rfl rfl (bN.ofOwn fg (fo.ow fd)) ?_))))
  refine WL.fs 2 rfl (WL.sF i64 (fun z_=>({q5 with Term.S.Limit:=z_}:cr)) (fo.fr fd) fg aa rfl rfl rfl rfl rfl rfl rfl rfl rfl (fun ga x9 y2 gb al gc=>WL.nil (WC.r1 al [] rfl (WC.region (WL.r 2 al [] rfl ?_)))))
  refine WL.ix af ab rfl rfl rfl rfl rfl rfl (bN.ofOwn gc (al.ow ga)) ?_
  refine WL.fs 2 rfl (WL.val rfl rfl rfl (bP.load Tryz.isAgg49 rfl rfl (bN.fld (v:=.slice (bO bW (dD ct cw k a i) i).Term.S.Back.A (bO bW (dD ct cw k a i) i).Term.S.Back.n (bO bW (dD ct cw k a i) i).Term.S.Back.c) (bN.ofOwn gc (al.ow ga)) ?_ ?_)) ?_)
  · omega
  · first | (rw [eK (by (try simp only [List.length_set]);omega) rfl];simp only [gb,d3,d1,ds,dj,c9,c8,c7,c6,c4,c2,c1,cN,ck,b8,b6,b5,b4,b2,b1,b0,a6,a2,ag,ad,Z,V,U,O,N,M,J,I,G,E];done) | (rw [eK (by (try simp only [List.length_set]);omega) rfl];simp only [gb,d3,d1,ds,dj,c9,c8,c7,c6,c4,c2,c1,cN,ck,b8,b6,b5,b4,b2,b1,b0,a6,a2,ag,ad,Z,V,U,O,N,M,J,I,G,E];rfl) | rfl
  refine WL.r 1 al [] rfl (WL.l1 (al.fr f5) Tryz.call101 rfl (EI _ _ _ _ _ k3 (al.ow f5) (St.nodupL (al.fr f5)) ?_ ?_ ?_) (fun _ y3 q7 gm=>?_))
  iterate 3 first | assumption | omega
  refine WL.r 1 gm [] rfl (WL.nil (hS _ _ (WC.region (WL.r 3 gm [] rfl (WL.nil (cQ ?_))))))
  obtain ⟨q8,q9,ra⟩:=dE.fl gm k4 k5 l2 m3 q6 q7
  obtain ⟨y4,rb,hC⟩:=kk (ct (k+dm cw (a.take i)) (bO bW a i)) _ ((q9.fr (ka++kb)).fr q8) (by have h_:=ra;first | exact h_ | (simp only [hg] at h_;exact h_))
  rw [jl (F:=bW) (by omega) rfl] at hC
  have rc:=bS.recast (ys:=dD ct cw k a (i+1)) gc (by rw [gj (by omega)];(try simp only [List.length_set]);exact hK.symm) (by rw [← jl (F:=bW) (i:=i) (by omega) rfl];try simp only [List.set_set];exact mO (by simp only [gb,d3,d1,ds,dj,c9,c8,c7,c6,c4,c2,c1,cN,ck,b8,b6,b5,b4,b2,b1,b0,a6,a2,ag,ad,Z,V,U,O,N,M,J,I,G,E,hg];rfl))
  obtain ⟨y5,rm,rn⟩:=cv.fold (rb.fr ga) rc hC
  refine ⟨cR rfl,_,rm,_,?_,i+1,rfl,?_,rn,⟨rfl,rfl,?_,trivial⟩⟩
  · omega
  · omega
  · (refine congrArg some (congrArg (Value.int _) ?_);rw [fM (F:=bW) (by omega)];simp only [cw,hg];omega)
 refine WC.exit (hE _ _ (WC.r1 ba [] rfl (WC.ret (cO rfl (cb.tmp rfl) ?_))))
 have rq:i=a.length:=by omega
 have hD:=f2
 rw [mn (by omega)] at hD
 refine ⟨_,?_,(St.keep1 ba),hD⟩
 rw [rq,List.take_of_length_le (Nat.le_refl _)]
end Go.Proofs.YtmomhohmknlmkaaGreat
