/-
  What the proof stands on, part 5.
-/
import Derived.Test.YtjmegoiclgancaaGreatKF4
namespace Go.Proofs.YtjmegoiclgancaaGreat
open Go Go.RowKit
set_option linter.unusedVariables false
set_option linter.unusedSimpArgs false
theorem k117_ (A_l : Option Addr) (n_l c_l : Nat) (l : List Int) (d : Int) (w : World) (f_l : SlF encI w A_l n_l l) (hn : n_l ≤ 549755813888) :
    Calls Tryz.prog 233 #[.slice A_l n_l c_l, i64 0, i64 d] w fun e w' => e = .returned (i64 (argI l 0 d)) ∧ St w [] [] w' := by
 have hl := f_l.len
 refine enter 23 Tryz.func233 rfl Tryz.ntmps233 rfl rfl ?_
 have hs1 := St.init w
 refine WC.r1 hs1 [] rfl (WC.seq (fun K2 hK2 => WC.sr (WL.r 5 hs1 [] rfl ?_)))
 apply WL.gA 5 Acts.nil hs1 rfl
 ·intro g3 J4
  have qg3 := g3
  try simp only [bf, within_iff, within_not] at qg3
  refine WL.runA tbk 2 (Acts.nil.cons (j := 4) rfl g3) hs1 [] rfl trivial (WL.val (wantT rfl g3) rfl rfl (Run.idx Tryz.runUnderlying23 Tryz.sizeOf3 rfl rfl rfl ?_ ?_ ?_) ?_)
  · exact SlF.some_ (SlF.st0 f_l hs1)
  · omega
  · omega
  refine WL.val (wantT rfl g3) rfl rfl (Run.load Tryz.isAgg3 rfl rfl (SlF.one1 (SlF.st0 f_l hs1) ?_ rfl)) ?_
  · omega
  refine WL.runA tbk 1 (Acts.nil.cons (j := 4) rfl g3) hs1 [] rfl trivial (WL.eA 5 Acts.nil J4 hs1 g3 rfl rfl)
 intro _ hs5
 refine WL.nil (WC.cq rfl (fun h6 qh6 => ?_) (fun h6 qh6 => ?_))
 ·have hp : 0 < l.length ∧ iat l 0 ≠ 0 := by have h9 := h6; simp at h9; exact ⟨by omega, h9.2⟩
  refine WC.sr (WL.r 2 hs5 [] rfl (WL.val rfl rfl rfl (Run.idx Tryz.runUnderlying23 Tryz.sizeOf3 rfl rfl rfl ?_ ?_ ?_) ?_))
  · exact SlF.some_ (SlF.st0 f_l hs5)
  · omega
  · omega
  refine WL.val rfl rfl rfl (Run.load Tryz.isAgg3 rfl rfl (SlF.one1 (SlF.st0 f_l hs5) ?_ rfl)) ?_
  · omega
  refine WL.r 1 hs5 [] rfl (WL.nil (WC.ret (tkR ?_)))
  clear hK2
  refine rtv rfl rfl hs5 ?_
  rw [show argI l 0 d = iat l 0 from by unfold argI; rw [if_pos hp]]; rfl
 have hp : ¬ (0 < l.length ∧ iat l 0 ≠ 0) := by rintro ⟨h7, h8⟩; have h9 := h6; simp at h9; exact h8 (h9 (by omega))
 refine WC.skip (hK2 _ _ (WC.r1 hs5 [] rfl (WC.ret (rtv rfl rfl hs5 ?_))))
 rw [show argI l 0 d = d from by unfold argI; rw [if_neg hp]]
theorem k118_ (A_l : Option Addr) (n_l c_l : Nat) (l : List Int) (d : Int) (w : World) (f_l : SlF encI w A_l n_l l) (hn : n_l ≤ 549755813888) :
    Calls Tryz.prog 233 #[.slice A_l n_l c_l, i64 1, i64 d] w fun e w' => e = .returned (i64 (argI l 1 d)) ∧ St w [] [] w' := by
 have hl := f_l.len
 refine enter 23 Tryz.func233 rfl Tryz.ntmps233 rfl rfl ?_
 have hs1 := St.init w
 refine WC.r1 hs1 [] rfl (WC.seq (fun K2 hK2 => WC.sr (WL.r 5 hs1 [] rfl ?_)))
 apply WL.gA 5 Acts.nil hs1 rfl
 ·intro g3 J4
  have qg3 := g3
  try simp only [bf, within_iff, within_not] at qg3
  refine WL.runA tbk 2 (Acts.nil.cons (j := 4) rfl g3) hs1 [] rfl trivial (WL.val (wantT rfl g3) rfl rfl (Run.idx Tryz.runUnderlying23 Tryz.sizeOf3 rfl rfl rfl ?_ ?_ ?_) ?_)
  · exact SlF.some_ (SlF.st0 f_l hs1)
  · omega
  · omega
  refine WL.val (wantT rfl g3) rfl rfl (Run.load Tryz.isAgg3 rfl rfl (SlF.one1 (SlF.st0 f_l hs1) ?_ rfl)) ?_
  · omega
  refine WL.runA tbk 1 (Acts.nil.cons (j := 4) rfl g3) hs1 [] rfl trivial (WL.eA 5 Acts.nil J4 hs1 g3 rfl rfl)
 intro _ hs5
 refine WL.nil (WC.cq rfl (fun h6 qh6 => ?_) (fun h6 qh6 => ?_))
 ·have hp : 1 < l.length ∧ iat l 1 ≠ 0 := by have h9 := h6; simp at h9; exact ⟨by omega, h9.2⟩
  refine WC.sr (WL.r 2 hs5 [] rfl (WL.val rfl rfl rfl (Run.idx Tryz.runUnderlying23 Tryz.sizeOf3 rfl rfl rfl ?_ ?_ ?_) ?_))
  · exact SlF.some_ (SlF.st0 f_l hs5)
  · omega
  · omega
  refine WL.val rfl rfl rfl (Run.load Tryz.isAgg3 rfl rfl (SlF.one1 (SlF.st0 f_l hs5) ?_ rfl)) ?_
  · omega
  refine WL.r 1 hs5 [] rfl (WL.nil (WC.ret (tkR ?_)))
  clear hK2
  refine rtv rfl rfl hs5 ?_
  rw [show argI l 1 d = iat l 1 from by unfold argI; rw [if_pos hp]]; rfl
 have hp : ¬ (1 < l.length ∧ iat l 1 ≠ 0) := by rintro ⟨h7, h8⟩; have h9 := h6; simp at h9; exact h8 (h9 (by omega))
 refine WC.skip (hK2 _ _ (WC.r1 hs5 [] rfl (WC.ret (rtv rfl rfl hs5 ?_))))
 rw [show argI l 1 d = d from by unfold argI; rw [if_neg hp]]
theorem k119_ (u_0 u_1 u_2 u_3 : Value) (b_s : Nat) (s : ScrR) (L_s : Hp) (x : Int) (y : Int) (w : World) (hb_s : w.heap[b_s]? = some (oS u_0 u_1 u_2 u_3 s)) (o_s : ownScrR s L_s) (h_s : Hh w L_s) (hd_ : (b_s :: L_s.map (·.1)).Nodup) (hwh : (1 ≤ s.W ∧ s.W ≤ 120) ∧ 1 ≤ s.H ∧ s.H ≤ 120) :
    Calls Tryz.prog 225 #[.pointer (some ⟨b_s, 4, none⟩), i64 x, i64 y] w fun e w' => ∃ r L1, e = .returned (.tuple #[]) ∧ St w (b_s :: L_s.map (·.1)) ([(b_s, oS u_0 u_1 u_2 u_3 r)] ++ L1) w' ∧ ownScrR r L1 ∧ r.dat = moveD s.dat x y := by
 refine enter 31 Tryz.func225 rfl Tryz.ntmps225 rfl rfl ?_
 have hs1 := St.takeP w b_s _ L_s hb_s h_s hd_
 refine WC.rG 21 hs1.d1 hs1 hs1 (fun _ hs2 => ?_)
 refine WG.rn [0, 1, 2, 3, 4, 5, 6, 7, 8, 9, 10, 11, 12, 13, 14, 15, 16, 17, 18, 19, 20] hs2 [0, 0] rfl rfl (WG.oK rfl (WL.st tbk hs2 0 rfl rfl (fun _ hs3 => WL.nil ⟨hs3.d1, WH.rn [22, 23] hs3.d1 [] rfl rfl (WH.o1 24 rfl (WL.st tbk hs3 0 rfl rfl (fun _ hs4 => WL.nil ⟨hs4.d1, ?_⟩)))⟩)))
 refine WH.rn [25, 26] hs4.d1 [] rfl rfl (WH.o1 27 rfl (WL.st tbk hs4 0 rfl rfl (fun _ hs5 => WL.nil ⟨hs5.d1, WH.dn (retK0 rfl ?_)⟩)))
 obtain ⟨L6, L7, L8, L9, hs14, ho10, ho11, ho12, ho13⟩ := ownScrR.op hs5 o_s
 have hs15 := (hs14.fb b_s)
 obtain ⟨L17, hs16, ho18⟩ := ownScrR.fl hs15 ho10 ho11 ho12 ho13
 have hs19 := (hs16.fb b_s)
 refine ownScrR.retp4 rfl ((hs19.fr L17).fb b_s) ho18 ?_
 · rfl
theorem k120_ (u_0 u_1 u_2 u_3 : Value) (b_s : Nat) (s : ScrR) (L_s : Hp) (n : Int) (m : Int) (b : Int) (w : World) (hb_s : w.heap[b_s]? = some (oS u_0 u_1 u_2 u_3 s)) (o_s : ownScrR s L_s) (h_s : Hh w L_s) (hd_ : (b_s :: L_s.map (·.1)).Nodup) (hf : ScrFine s.dat) (hn : 0 ≤ n ∧ n ≤ 9999) (hm : 0 ≤ m ∧ m ≤ 9999) :
    Calls Tryz.prog 234 #[.pointer (some ⟨b_s, 4, none⟩), i64 n, i64 m, i64 b] w fun e w' => ∃ r L1, e = .returned (.bool (isMove b)) ∧ St w (b_s :: L_s.map (·.1)) ([(b_s, oS u_0 u_1 u_2 u_3 r)] ++ L1) w' ∧ ownScrR r L1 ∧ r.dat = moveByD s.dat n m b := by
 have hwh : (1 ≤ s.W ∧ s.W ≤ 120) ∧ 1 ≤ s.H ∧ s.H ≤ 120 := ⟨(isSize_bnd hf.size).1, (isSize_bnd hf.size).2.1⟩
 have hxy := hf.pos
 simp only [ScrR.dat, GridR.dat] at hxy
 refine enter 95 Tryz.func234 rfl Tryz.ntmps234 rfl rfl ?_
 have hs1 := St.takeP w b_s _ L_s hb_s h_s hd_
 refine WC.r1 hs1 [] rfl (WC.seq (fun K2 hK2 => WC.r1 hs1 [] rfl (WC.block (WC.r1 hs1 [] rfl ?_))))
 refine WC.cq rfl (fun h3 qh3 => ?_) (fun h3 qh3 => ?_)
 ·have e65 : b = 65 := by have h9 := h3; simpa using h9
  refine WC.rG 11 (hs1.d1.rm L_s) hs1 hs1 (fun _ hs4 => ?_)
  refine WG.rn [0, 1, 2, 3, 4, 5, 6, 7, 8, 9, 10] hs4 [0, 0] rfl rfl (WG.oK rfl ?_)
  have hF5 := ((hs4.fr L_s).fb b_s)
  refine WL.cl Tryz.call225 rfl (k119_ _ _ _ _ _ s _ _ _ _ (St.headP hF5) o_s (St.ownP hF5) (St.nodupP hF5) ?_) ?_
  · first | assumption | rfl | omega
  rintro _ whs6 ⟨r7, L8, rfl, hs6, ho9, hd10⟩
  replace hs6 := St.lendP hF5 hs6
  refine ⟨_, rfl, WL.nil ⟨(hs6.d1.rm L8), WH.dn (hK2 _ _ (WC.r1 hs6 [] rfl (WC.ret (retV1 rfl (resV.tmp rfl) ?_))))⟩⟩
  have hmv : isMove b = true := by unfold isMove; rw [decide_eq_true_eq]; omega
  refine ⟨r7, _, (by rw [hmv]), St.keepP (L1 := L8) ((hs6.fr L8).fb b_s), ho9, ?_⟩
  · unfold moveByD; rw [if_pos e65]; exact hd10
 have e65 : ¬ b = 65 := by have h9 := h3; simpa using h9
 refine WC.r1 hs1 [] rfl (WC.cq rfl (fun h11 qh11 => ?_) (fun h11 qh11 => ?_))
 ·have e66 : b = 66 := by have h9 := h11; simpa using h9
  refine WC.rG 11 (hs1.d1.rm L_s) hs1 hs1 (fun _ hs12 => ?_)
  refine WG.rn [0, 1, 2, 3, 4, 5, 6, 7, 8, 9, 10] hs12 [0, 0] rfl rfl (WG.oK rfl ?_)
  have hF13 := ((hs12.fr L_s).fb b_s)
  refine WL.cl Tryz.call225 rfl (k119_ _ _ _ _ _ s _ _ _ _ (St.headP hF13) o_s (St.ownP hF13) (St.nodupP hF13) ?_) ?_
  · first | assumption | rfl | omega
  rintro _ whs14 ⟨r15, L16, rfl, hs14, ho17, hd18⟩
  replace hs14 := St.lendP hF13 hs14
  refine ⟨_, rfl, WL.nil ⟨(hs14.d1.rm L16), WH.dn (hK2 _ _ (WC.r1 hs14 [] rfl (WC.ret (retV1 rfl (resV.tmp rfl) ?_))))⟩⟩
  have hmv : isMove b = true := by unfold isMove; rw [decide_eq_true_eq]; omega
  refine ⟨r15, _, (by rw [hmv]), St.keepP (L1 := L16) ((hs14.fr L16).fb b_s), ho17, ?_⟩
  · unfold moveByD; rw [if_neg e65, if_pos e66]; exact hd18
 have e66 : ¬ b = 66 := by have h9 := h11; simpa using h9
 refine WC.r1 hs1 [] rfl (WC.cq rfl (fun h19 qh19 => ?_) (fun h19 qh19 => ?_))
 ·have e67 : b = 67 := by have h9 := h19; simpa using h9
  refine WC.rG 11 (hs1.d1.rm L_s) hs1 hs1 (fun _ hs20 => ?_)
  refine WG.rn [0, 1, 2, 3, 4, 5, 6, 7, 8, 9, 10] hs20 [0, 0] rfl rfl (WG.oK rfl ?_)
  have hF21 := ((hs20.fr L_s).fb b_s)
  refine WL.cl Tryz.call225 rfl (k119_ _ _ _ _ _ s _ _ _ _ (St.headP hF21) o_s (St.ownP hF21) (St.nodupP hF21) ?_) ?_
  · first | assumption | rfl | omega
  rintro _ whs22 ⟨r23, L24, rfl, hs22, ho25, hd26⟩
  replace hs22 := St.lendP hF21 hs22
  refine ⟨_, rfl, WL.nil ⟨(hs22.d1.rm L24), WH.dn (hK2 _ _ (WC.r1 hs22 [] rfl (WC.ret (retV1 rfl (resV.tmp rfl) ?_))))⟩⟩
  have hmv : isMove b = true := by unfold isMove; rw [decide_eq_true_eq]; omega
  refine ⟨r23, _, (by rw [hmv]), St.keepP (L1 := L24) ((hs22.fr L24).fb b_s), ho25, ?_⟩
  · unfold moveByD; rw [if_neg e65, if_neg e66, if_pos e67]; exact hd26
 have e67 : ¬ b = 67 := by have h9 := h19; simpa using h9
 refine WC.r1 hs1 [] rfl (WC.cq rfl (fun h27 qh27 => ?_) (fun h27 qh27 => ?_))
 ·have e68 : b = 68 := by have h9 := h27; simpa using h9
  refine WC.rG 11 (hs1.d1.rm L_s) hs1 hs1 (fun _ hs28 => ?_)
  refine WG.rn [0, 1, 2, 3, 4, 5, 6, 7, 8, 9, 10] hs28 [0, 0] rfl rfl (WG.oK rfl ?_)
  have hF29 := ((hs28.fr L_s).fb b_s)
  refine WL.cl Tryz.call225 rfl (k119_ _ _ _ _ _ s _ _ _ _ (St.headP hF29) o_s (St.ownP hF29) (St.nodupP hF29) ?_) ?_
  · first | assumption | rfl | omega
  rintro _ whs30 ⟨r31, L32, rfl, hs30, ho33, hd34⟩
  replace hs30 := St.lendP hF29 hs30
  refine ⟨_, rfl, WL.nil ⟨(hs30.d1.rm L32), WH.dn (hK2 _ _ (WC.r1 hs30 [] rfl (WC.ret (retV1 rfl (resV.tmp rfl) ?_))))⟩⟩
  have hmv : isMove b = true := by unfold isMove; rw [decide_eq_true_eq]; omega
  refine ⟨r31, _, (by rw [hmv]), St.keepP (L1 := L32) ((hs30.fr L32).fb b_s), ho33, ?_⟩
  · unfold moveByD; rw [if_neg e65, if_neg e66, if_neg e67, if_pos e68]; exact hd34
 have e68 : ¬ b = 68 := by have h9 := h27; simpa using h9
 refine WC.r1 hs1 [] rfl (WC.cq rfl (fun h35 qh35 => ?_) (fun h35 qh35 => ?_))
 ·have e71 : b = 71 := by have h9 := h35; simpa using h9
  refine WC.region (WL.r 7 hs1 [0] rfl ?_)
  have hF36 := ((hs1.fr L_s).fb b_s)
  refine WL.cl Tryz.call225 rfl (k119_ _ _ _ _ _ s _ _ _ _ (St.headP hF36) o_s (St.ownP hF36) (St.nodupP hF36) ?_) ?_
  · first | assumption | rfl | omega
  rintro _ whs37 ⟨r38, L39, rfl, hs37, ho40, hd41⟩
  replace hs37 := St.lendP hF36 hs37
  refine ⟨_, rfl, WL.nil (hK2 _ _ (WC.r1 hs37 [] rfl (WC.ret (retV1 rfl (resV.tmp rfl) ?_))))⟩
  have hmv : isMove b = true := by unfold isMove; rw [decide_eq_true_eq]; omega
  refine ⟨r38, _, (by rw [hmv]), St.keepP (L1 := L39) ((hs37.fr L39).fb b_s), ho40, ?_⟩
  · unfold moveByD; rw [if_neg e65, if_neg e66, if_neg e67, if_neg e68, if_pos e71]; exact hd41
 have e71 : ¬ b = 71 := by have h9 := h35; simpa using h9
 refine WC.r1 hs1 [] rfl (WC.cq rfl (fun h42 qh42 => ?_) (fun h42 qh42 => ?_))
 ·have e100 : b = 100 := by have h9 := h42; simpa using h9
  refine WC.region (WL.r 7 hs1 [0] rfl ?_)
  have hF43 := ((hs1.fr L_s).fb b_s)
  refine WL.cl Tryz.call225 rfl (k119_ _ _ _ _ _ s _ _ _ _ (St.headP hF43) o_s (St.ownP hF43) (St.nodupP hF43) ?_) ?_
  · first | assumption | rfl | omega
  rintro _ whs44 ⟨r45, L46, rfl, hs44, ho47, hd48⟩
  replace hs44 := St.lendP hF43 hs44
  refine ⟨_, rfl, WL.nil (hK2 _ _ (WC.r1 hs44 [] rfl (WC.ret (retV1 rfl (resV.tmp rfl) ?_))))⟩
  have hmv : isMove b = true := by unfold isMove; rw [decide_eq_true_eq]; omega
  refine ⟨r45, _, (by rw [hmv]), St.keepP (L1 := L46) ((hs44.fr L46).fb b_s), ho47, ?_⟩
  · unfold moveByD; rw [if_neg e65, if_neg e66, if_neg e67, if_neg e68, if_neg e71, if_pos e100]; exact hd48
 have e100 : ¬ b = 100 := by have h9 := h42; simpa using h9
 refine WC.seq (fun K49 hK49 => WC.r1 hs1 [] rfl ?_)
 refine WC.cq rfl (fun h50 qh50 => ?_) (fun h50 qh50 => ?_)
 ·have e72 : b = 72 := by have h9 := h50; simpa using h9
  refine WC.skip (hK49 _ _ (WC.condT rfl h50 (WC.region (WL.r 5 hs1 [] rfl ?_))))
  have hF52 := ((hs1.fr L_s).fb b_s)
  refine WL.cl Tryz.call225 rfl (k119_ _ _ _ _ _ s _ _ _ _ (St.headP hF52) o_s (St.ownP hF52) (St.nodupP hF52) ?_) ?_
  · first | assumption | rfl | omega
  rintro _ whs53 ⟨r54, L55, rfl, hs53, ho56, hd57⟩
  replace hs53 := St.lendP hF52 hs53
  refine ⟨_, rfl, WL.nil (hK2 _ _ (WC.r1 hs53 [] rfl (WC.ret (retV1 rfl (resV.tmp rfl) ?_))))⟩
  have hmv : isMove b = true := by unfold isMove; rw [decide_eq_true_eq]; omega
  refine ⟨r54, _, (by rw [hmv]), St.keepP (L1 := L55) ((hs53.fr L55).fb b_s), ho56, ?_⟩
  · unfold moveByD; rw [if_neg e65, if_neg e66, if_neg e67, if_neg e68, if_neg e71, if_neg e100, if_pos (show b = 72 ∨ b = 102 by omega)]; exact hd57
 have e72 : ¬ b = 72 := by have h9 := h50; simpa using h9
 refine WC.region (WL.r 2 hs1 [] rfl (WL.nil (hK49 _ _ ?_)))
 refine WC.cq rfl (fun h58 qh58 => ?_) (fun h58 qh58 => ?_)
 ·have e102 : b = 102 := by have h9 := h58; simpa using h9
  refine WC.region (WL.r 5 hs1 [] rfl ?_)
  have hF59 := ((hs1.fr L_s).fb b_s)
  refine WL.cl Tryz.call225 rfl (k119_ _ _ _ _ _ s _ _ _ _ (St.headP hF59) o_s (St.ownP hF59) (St.nodupP hF59) ?_) ?_
  · first | assumption | rfl | omega
  rintro _ whs60 ⟨r61, L62, rfl, hs60, ho63, hd64⟩
  replace hs60 := St.lendP hF59 hs60
  refine ⟨_, rfl, WL.nil (hK2 _ _ (WC.r1 hs60 [] rfl (WC.ret (retV1 rfl (resV.tmp rfl) ?_))))⟩
  have hmv : isMove b = true := by unfold isMove; rw [decide_eq_true_eq]; omega
  refine ⟨r61, _, (by rw [hmv]), St.keepP (L1 := L62) ((hs60.fr L62).fb b_s), ho63, ?_⟩
  · unfold moveByD; rw [if_neg e65, if_neg e66, if_neg e67, if_neg e68, if_neg e71, if_neg e100, if_pos (show b = 72 ∨ b = 102 by omega)]; exact hd64
 have e102 : ¬ b = 102 := by have h9 := h58; simpa using h9
 refine WC.r1 hs1 [] rfl (WC.ret (ibR (tkR ?_)))
 clear hK2
 refine retV1 rfl (resV.tmp rfl) ?_
 have hmv : isMove b = false := by unfold isMove; rw [decide_eq_false_iff_not]; omega
 refine ⟨s, _, (by rw [hmv]), St.keepP (L1 := L_s) ((hs1.fr L_s).fb b_s), o_s, ?_⟩
 · unfold moveByD; rw [if_neg e65, if_neg e66, if_neg e67, if_neg e68, if_neg e71, if_neg e100, if_neg (show ¬ (b = 72 ∨ b = 102) by omega)]
theorem k121_ (u_0 u_1 u_2 u_3 : Value) (b_s : Nat) (s : ScrR) (L_s : Hp) (A_l : Option Addr) (n_l c_l : Nat) (l : List Int) (n : Int) (w : World) (hb_s : w.heap[b_s]? = some (oS u_0 u_1 u_2 u_3 s)) (o_s : ownScrR s L_s) (h_s : Hh w L_s) (f_l : SlF encI w A_l n_l l) (hd_ : (b_s :: L_s.map (·.1)).Nodup) (s_l : 0 < n_l → (adr A_l).block ∉ (b_s :: L_s.map (·.1))) (hf : ScrFine s.dat) (hna : n = argI l 0 1) (hl : areArgs l = true) (hll : n_l ≤ 549755813888) :
    Calls Tryz.prog 239 #[.pointer (some ⟨b_s, 4, none⟩), .slice A_l n_l c_l, i64 n] w fun e w' => ∃ r L1, e = .returned (.tuple #[]) ∧ St w (b_s :: L_s.map (·.1)) ([(b_s, oS u_0 u_1 u_2 u_3 r)] ++ L1) w' ∧ ownScrR r L1 ∧ r.dat = regionD s.dat l := by
 have hwh : (1 ≤ s.W ∧ s.W ≤ 120) ∧ 1 ≤ s.H ∧ s.H ≤ 120 := ⟨(isSize_bnd hf.size).1, (isSize_bnd hf.size).2.1⟩
 have hxy := hf.pos
 simp only [ScrR.dat, GridR.dat] at hxy
 have ha0 := argI_bnd (k := 0) (d := 1) hl (by omega)
 have ha1 : 0 ≤ argI l 1 s.H ∧ argI l 1 s.H ≤ 9999 := argI_bnd hl (by omega)
 refine enter 38 Tryz.func239 rfl Tryz.ntmps239 rfl rfl ?_
 have hs1 := St.takeP w b_s _ L_s hb_s h_s hd_
 refine WC.sr (WL.r 7 hs1 [0] rfl (WL.cl Tryz.call233 rfl (k118_ _ _ _ _ _ _ (SlF.st f_l hs1 s_l) ?_) ?_))
 · first | assumption | rfl | omega
 rintro _ whs2 ⟨rfl, hs2⟩
 replace hs2 := hs1.call0 hs2
 refine ⟨_, rfl, WL.r 3 hs2 [] rfl (WL.nil (WC.sr (WL.r 4 hs2 [] rfl (WL.pA tbk 6 Acts.nil hs2 [0] rfl rfl rfl rfl (fun g_ => ⟨rfl, trivial⟩) (WL.nil (WC.cq rfl (fun h3 qh3 => ?_) (fun h3 qh3 => ?_)))))))⟩
 ·have hr : n - 1 < argI l 1 s.H - 1 ∧ argI l 1 s.H - 1 < s.H := by have h9 := h3; simp at h9; omega
  refine WC.sr (WL.r 6 hs2 [] rfl (WL.st tbk hs2 0 rfl rfl (fun _ hs4 => WL.r 2 hs4 [] rfl (WL.st tbk hs4 0 rfl rfl (fun _ hs5 => WL.nil (WC.region (WL.r 1 hs5 [] rfl ?_)))))))
  obtain ⟨L6, L7, L8, L9, hs14, ho10, ho11, ho12, ho13⟩ := ownScrR.op hs5 o_s
  have hs15 := (hs14.fb b_s)
  obtain ⟨L17, hs16, ho18⟩ := ownScrR.fl hs15 ho10 ho11 ho12 ho13
  have hs19 := (hs16.fb b_s)
  have hF20 := ((hs19.fr L17).fb b_s)
  refine WL.cl Tryz.call225 rfl (k119_ _ _ _ _ _ ⟨s.W, s.H, ⟨s.Main.W, s.Main.H, SlD.of ho10⟩, ⟨s.Alt.W, s.Alt.H, SlD.of ho11⟩, s.OnAlt, s.X, s.Y, s.Wrap, ⟨s.A.Fg, s.A.Bg, s.A.Bold, s.A.Under, s.A.Turn⟩, (n - (1)), _, s.NoWrap, s.Hide, s.SaveX, s.SaveY, ⟨s.SaveA.Fg, s.SaveA.Bg, s.SaveA.Bold, s.SaveA.Under, s.SaveA.Turn⟩, SlD.of ho12, s.Limit, SlD.ofN ho13⟩ _ _ _ _ (St.headP hF20) (by exact ho18) (St.ownP hF20) (St.nodupP hF20) ?_) ?_
  · first | assumption | rfl | omega
  rintro _ whs21 ⟨r22, L23, rfl, hs21, ho24, hd25⟩
  replace hs21 := St.lendP hF20 hs21
  refine ⟨_, rfl, WL.nil (retK0 rfl (⟨r22, _, rfl, St.keepP (L1 := L23) ((hs21.fr L23).fb b_s), ho24, ?_⟩))⟩
  · unfold regionD; rw [if_pos (show argI l 0 1 - 1 < argI l 1 s.dat.H - 1 ∧ argI l 1 s.dat.H - 1 < s.dat.H from hna ▸ hr), ← hna]; exact hd25
 have hr : ¬ (n - 1 < argI l 1 s.H - 1 ∧ argI l 1 s.H - 1 < s.H) := by rintro ⟨h7, h8⟩; have h9 := h3; simp at h9; have := h9 (by omega); omega
 refine WC.skip (retK0 rfl (⟨s, _, rfl, St.keepP (L1 := L_s) ((hs2.fr L_s).fb b_s), o_s, ?_⟩))
 · unfold regionD; rw [if_neg (show ¬ (argI l 0 1 - 1 < argI l 1 s.dat.H - 1 ∧ argI l 1 s.dat.H - 1 < s.dat.H) from hna ▸ hr)]
theorem k122_ (u_0 u_1 u_2 u_3 : Value) (b_s : Nat) (s : ScrR) (L_s : Hp) (n : Int) (on : Bool) (w : World) (hb_s : w.heap[b_s]? = some (oS u_0 u_1 u_2 u_3 s)) (o_s : ownScrR s L_s) (h_s : Hh w L_s) (hd_ : (b_s :: L_s.map (·.1)).Nodup) (hf : ScrFine s.dat) (hsmB : smScr 549755813888 s.dat) :
    Calls Tryz.prog 190 #[.pointer (some ⟨b_s, 4, none⟩), i64 n, .bool on] w fun e w' => ∃ r L1, e = .returned (.tuple #[]) ∧ St w (b_s :: L_s.map (·.1)) ([(b_s, oS u_0 u_1 u_2 u_3 r)] ++ L1) w' ∧ ownScrR r L1 ∧ r.dat = modeD s.dat n on := by
 have hwh : (1 ≤ s.W ∧ s.W ≤ 120) ∧ 1 ≤ s.H ∧ s.H ≤ 120 := ⟨(isSize_bnd hf.size).1, (isSize_bnd hf.size).2.1⟩
 have hxy := hf.pos
 simp only [ScrR.dat, GridR.dat] at hxy
 have hsz : isSize s.W s.H = true := hf.size
 refine enter 80 Tryz.func190 rfl Tryz.ntmps190 rfl rfl ?_
 have hs1 := St.takeP w b_s _ L_s hb_s h_s hd_
 refine WC.block (WC.r1 hs1 [] rfl (WC.cq rfl (fun h2 qh2 => ?_) (fun h2 qh2 => ?_)))
 ·have e7 : n = 7 := by have h9 := h2; simpa using h9
  refine WC.region (WL.r 9 hs1 [0] rfl (WL.pA tbk 1 Acts.nil hs1 [] rfl rfl rfl rfl (fun g_ => trivial) (WL.r 2 hs1 [] rfl (WL.st tbk hs1 0 rfl rfl (fun _ hs3 => WL.r 2 hs3 [] rfl (WL.st tbk hs3 0 rfl rfl (fun _ hs4 => WL.nil ?_)))))))
  refine ibN (retK0 rfl ?_)
  obtain ⟨L5, L6, L7, L8, hs13, ho9, ho10, ho11, ho12⟩ := ownScrR.op hs4 o_s
  have hs14 := (hs13.fb b_s)
  obtain ⟨L16, hs15, ho17⟩ := ownScrR.fl hs14 ho9 ho10 ho11 ho12
  have hs18 := (hs15.fb b_s)
  refine ownScrR.retp4 rfl ((hs18.fr L16).fb b_s) ho17 ?_
  · unfold modeD; rw [if_pos e7]; rfl
 have e7 : ¬ n = 7 := by have h9 := h2; simpa using h9
 refine WC.r1 hs1 [] rfl (WC.cq rfl (fun h19 qh19 => ?_) (fun h19 qh19 => ?_))
 ·have e25 : n = 25 := by have h9 := h19; simpa using h9
  refine WC.region (WL.r 5 hs1 [] rfl (WL.st tbk hs1 0 rfl rfl (fun _ hs20 => WL.nil (ibN (retK0 rfl ?_)))))
  obtain ⟨L21, L22, L23, L24, hs29, ho25, ho26, ho27, ho28⟩ := ownScrR.op hs20 o_s
  have hs30 := (hs29.fb b_s)
  obtain ⟨L32, hs31, ho33⟩ := ownScrR.fl hs30 ho25 ho26 ho27 ho28
  have hs34 := (hs31.fb b_s)
  refine ownScrR.retp4 rfl ((hs34.fr L32).fb b_s) ho33 ?_
  · unfold modeD; rw [if_neg e7, if_pos e25]; rfl
 have e25 : ¬ n = 25 := by have h9 := h19; simpa using h9
 refine WC.sr (WL.r 3 hs1 [] rfl (WL.pA tbk 1 Acts.nil hs1 [] rfl rfl rfl rfl (fun g_ => trivial) (WL.r 1 hs1 [] rfl (WL.pA tbk 5 Acts.nil hs1 [0] rfl rfl rfl rfl (fun g_ => ⟨rfl, trivial⟩) (WL.r 1 hs1 [] rfl (WL.nil (WC.cq rfl (fun h35 qh35 => ?_) (fun h35 qh35 => ?_))))))))
 ·have a1 : (n = 1049 ∧ on = true) ∧ s.dat.OnAlt = false := by show (n = 1049 ∧ on = true) ∧ s.OnAlt = false; have h9 := h35; simp at h9; first | exact h9 | exact ⟨⟨h9.1.1, h9.1.2⟩, h9.2⟩ | exact ⟨⟨h9.1, h9.2.1⟩, h9.2.2⟩
  refine WC.sr (WL.r 1 hs1 [] rfl ?_)
  have hF36 := ((hs1.fr L_s).fb b_s)
  refine WL.cl Tryz.call153 rfl (k97_ _ _ _ _ _ s _ _ (St.headP hF36) o_s (St.ownP hF36) (St.nodupP hF36) ?_) ?_
  · first | assumption | rfl | omega
  rintro _ whs37 ⟨r38, L39, rfl, hs37, ho40, hd41⟩
  replace hs37 := St.lendP hF36 hs37
  refine ⟨_, rfl, ?_⟩
  have hrW : r38.W = s.W := congrArg ScrD.W hd41
  have hrH : r38.H = s.H := congrArg ScrD.H hd41
  have hszr : isSize r38.W r38.H = true := by rw [hrW, hrH]; exact hsz
  refine WL.nil (WC.rG 13 hs37.d1 hs37 hs37 (fun _ hs42 => ?_))
  refine WG.rn [0, 1, 2, 3, 4, 5, 6, 7, 8, 9] hs42 [0, 0] rfl rfl (WG.o1 10 rfl rfl (WL.cl Tryz.call215 rfl (k61_ _ _ _ ?_) ?_))
  · first | assumption | rfl | omega
  rintro _ whs43 ⟨r44, L1_45, rfl, hs43, ho46, hd47⟩
  replace hs43 := hs42.callF hs43
  refine ⟨_, rfl, ?_⟩
  replace hs43 := St.back [_] hs43
  refine WL.nil ⟨(hs43.rm L1_45), WG.rn [11, 12] (hs43.rm L1_45) [] rfl rfl (WG.oK rfl (WL.st tbk hs43 0 rfl rfl (fun _ hs48 => WL.nil ⟨(hs48.d1.rm L1_45), WH.rn [14, 15] (hs48.d1.rm L1_45) [] rfl rfl (WH.o1 16 rfl (WL.st tbk hs48 0 rfl rfl (fun _ hs49 => ?_)))⟩)))⟩
  refine WL.nil ⟨(hs49.d1.rm L1_45), WH.dn (ibN (retK0 rfl ?_))⟩
  obtain ⟨L50, L51, L52, L53, hs58, ho54, ho55, ho56, ho57⟩ := ownScrR.op hs49 ho40
  have hs59 := (hs58.fb b_s)
  obtain ⟨L61, hs60, ho62⟩ := ownScrR.fl hs59 ho54 ho46 ho56 ho57
  have hs63 := (hs60.fb b_s)
  refine ownScrR.retp4 rfl ((hs63.fr L61).fb b_s) ho62 ?_
  · unfold modeD; rw [if_neg e7, if_neg e25, if_pos a1]; show _ = ({ saveD s.dat with Alt := gridNew s.W s.H, OnAlt := true } : ScrD); rw [← hrW, ← hrH, ← hd47, ← hd41]; rfl
 have a1 : ¬ ((n = 1049 ∧ on = true) ∧ s.dat.OnAlt = false) := by show ¬ ((n = 1049 ∧ on = true) ∧ s.OnAlt = false); rintro ⟨⟨h1, h2⟩, h3⟩; have h9 := h35; simp [h1, h2, h3] at h9
 refine WC.sr (WL.r 3 hs1 [] rfl (WL.pA tbk 2 Acts.nil hs1 [] rfl rfl rfl rfl (fun g_ => trivial) (WL.r 1 hs1 [] rfl (WL.pA tbk 4 Acts.nil hs1 [0] rfl rfl rfl rfl (fun g_ => ⟨rfl, trivial⟩) (WL.r 1 hs1 [] rfl (WL.nil (WC.cq rfl (fun h64 qh64 => ?_) (fun h64 qh64 => ?_))))))))
 ·have a2 : (n = 1049 ∧ on = false) ∧ s.dat.OnAlt = true := by show (n = 1049 ∧ on = false) ∧ s.OnAlt = true; have h9 := h64; simp at h9; first | exact h9 | exact ⟨⟨h9.1.1, h9.1.2⟩, h9.2⟩ | exact ⟨⟨h9.1, h9.2.1⟩, h9.2.2⟩
  refine WC.sr (WL.r 3 hs1 [] rfl (WL.st tbk hs1 0 rfl rfl (fun _ hs65 => WL.nil (WC.region (WL.r 1 hs65 [] rfl ?_)))))
  obtain ⟨L66, L67, L68, L69, hs74, ho70, ho71, ho72, ho73⟩ := ownScrR.op hs65 o_s
  have hs75 := (hs74.fb b_s)
  obtain ⟨L77, hs76, ho78⟩ := ownScrR.fl hs75 ho70 ho71 ho72 ho73
  have hs79 := (hs76.fb b_s)
  have hF80 := ((hs79.fr L77).fb b_s)
  refine WL.cl Tryz.call154 rfl (k98_ _ _ _ _ _ ⟨s.W, s.H, ⟨s.Main.W, s.Main.H, SlD.of ho70⟩, ⟨s.Alt.W, s.Alt.H, SlD.of ho71⟩, false, s.X, s.Y, s.Wrap, ⟨s.A.Fg, s.A.Bg, s.A.Bold, s.A.Under, s.A.Turn⟩, s.Top, s.Bot, s.NoWrap, s.Hide, s.SaveX, s.SaveY, ⟨s.SaveA.Fg, s.SaveA.Bg, s.SaveA.Bold, s.SaveA.Under, s.SaveA.Turn⟩, SlD.of ho72, s.Limit, SlD.ofN ho73⟩ _ _ (St.headP hF80) (by exact ho78) (St.ownP hF80) (St.nodupP hF80) ?_) ?_
  · first | assumption | rfl | omega
  rintro _ whs81 ⟨r82, L83, rfl, hs81, ho84, hd85⟩
  replace hs81 := St.lendP hF80 hs81
  refine ⟨_, rfl, WL.nil (ibN (retK0 rfl (⟨r82, _, rfl, St.keepP (L1 := L83) ((hs81.fr L83).fb b_s), ho84, ?_⟩)))⟩
  · unfold modeD; rw [if_neg e7, if_neg e25, if_neg a1, if_pos a2]; exact hd85
 have a2 : ¬ ((n = 1049 ∧ on = false) ∧ s.dat.OnAlt = true) := by show ¬ ((n = 1049 ∧ on = false) ∧ s.OnAlt = true); rintro ⟨⟨h1, h2⟩, h3⟩; have h9 := h64; simp [h1, h2, h3] at h9
 refine WC.skip (ibN (retK0 rfl (⟨s, _, rfl, St.keepP (L1 := L_s) ((hs1.fr L_s).fb b_s), o_s, ?_⟩)))
 · unfold modeD; rw [if_neg e7, if_neg e25, if_neg a1, if_neg a2]
theorem k123_ (u_0 u_1 u_2 u_3 : Value) (b_s : Nat) (s : ScrR) (L_s : Hp) (a : Int) (b : Int) (w : World) (hb_s : w.heap[b_s]? = some (oS u_0 u_1 u_2 u_3 s)) (o_s : ownScrR s L_s) (h_s : Hh w L_s) (hd_ : (b_s :: L_s.map (·.1)).Nodup) (hab : 0 ≤ a ∧ b ≤ s.Main.Cells.xs.length ∧ b ≤ 1048576 ∧ -1048576 ≤ b ∧ a ≤ 1048576) (hsmB : smScr 549755813888 s.dat) (hx : s.OnAlt = false) :
    Calls Tryz.prog 236 #[.pointer (some ⟨b_s, 4, none⟩), i64 a, i64 b] w fun e w' => ∃ r L1, e = .returned (.tuple #[]) ∧ St w (b_s :: L_s.map (·.1)) ([(b_s, oS u_0 u_1 u_2 u_3 r)] ++ L1) w' ∧ ownScrR r L1 ∧ r.dat = clearD s.dat a b := by
 refine enter 23 Tryz.func236 rfl Tryz.ntmps236 rfl rfl ?_
 have hs1 := St.takeP w b_s _ L_s hb_s h_s hd_
 refine WC.sr (WL.r 1 hs1 [] rfl ?_)
 have hF2 := ((hs1.fr L_s).fb b_s)
 refine WL.cl Tryz.call223 rfl (k88_ _ _ _ _ _ s _ _ (St.headP hF2) o_s (St.ownP hF2) (St.nodupP hF2) ?_) ?_
 · first | assumption | rfl | omega
 rintro _ whs3 ⟨r4, L5, rfl, hs3, ho6, hd7⟩
 replace hs3 := St.lendP hF2 hs3
 refine ⟨_, rfl, ?_⟩
 have hrl : r4.Main.Cells.xs.length = s.Main.Cells.xs.length := congrArg (fun d : ScrD => d.Main.Cells.length) hd7
 have hln := ownScrR.len ‹ownScrR r4 _›
 refine WL.r 4 hs3 [0] rfl (WL.nil (WC.r1 hs3 [] rfl (WC.block ?_)))
 obtain ⟨L8, L9, L10, L11, hs16, ho12, ho13, ho14, ho15⟩ := ownScrR.op hs3 ho6
 have hs17 := (hs16.fb b_s)
 refine WC.lO [2, 6] rfl (hs17.fr L8) (fun k_ f L_ => ∃ (i : Nat) (zs : List CellD), k_ = (b - a).toNat - i ∧ (i ≤ (b - a).toNat) ∧ (zs.length = r4.Main.Cells.xs.length) ∧ (∀ k, k < r4.Main.Cells.xs.length → cat zs k = partF r4.Main.dat (clearF r4.Main.dat a b) a.toNat i k) ∧ OwnF encCell 75 (.slice r4.Main.Cells.A (r4.Main.Cells.n) r4.Main.Cells.c) (zs) L_ ∧ Sub [(7, .int .i64 (a + i))] f) (((fun (i : Nat) (zs : List CellD) => (b - a).toNat - i) (0) (r4.Main.Cells.xs))) ?_ ?_
 ·refine ⟨0, r4.Main.Cells.xs, rfl, ?_, ?_, ?_, ho12, ⟨?_, trivial⟩⟩
  · omega
  · rfl
  · intro k hk; rw [partF_zero]; rfl
  · (refine congrArg some (congrArg (Value.int _) ?_); omega)
 clear hs17
 rintro _ f w L20 ⟨i, zs, rfl, p0, p1, p2, ho21, hG⟩ hF hs22
 refine WC.sub _ (hG.app hF) ?_
 clear hG hF
 replace hs22 := St.back [_] hs22
 refine WC.seq (fun K23 hK23 => WC.r1 hs22 [] rfl ?_)
 refine WC.cD rfl (fun qh24 => ?_) (fun qh24 => ?_)
 ·refine WC.skip (hK23 _ _ (WC.seq (fun K25 hK25 => WC.block (WC.region (WL.r 2 hs22 [] rfl (WL.cl Tryz.call253 rfl (k56_ _) ?_))))))
  rintro _ whs26 ⟨rfl, hs26⟩
  replace hs26 := hs22.call0 hs26
  refine ⟨_, rfl, WL.val rfl rfl rfl (Run.idx Tryz.runUnderlying26 Tryz.sizeOf75 rfl rfl rfl ?_ ?_ ?_) ?_⟩
  · exact SlF.some_ (SlF.ofOwn ho21 (hs26.ow L20))
  · first | omega | (obtain ⟨h1, h2, _, _⟩ := hln; omega)
  · first | omega | (obtain ⟨h1, h2, _, _⟩ := hln; omega)
  refine WL.storeF1 (x' := blankC) (hs26.fr L20) ho21 Tryz.sizeOf75 rfl rfl rfl rfl rfl rfl rfl rfl rfl ?_ rfl (fun L27 whs28 hs28 ho29 _ => ?_)
  · first | omega | (obtain ⟨h1, h2, _, _⟩ := hln; omega)
  replace hs28 := St.back [_] hs28
  refine WL.nil (hK25 _ _ (WC.region (WL.r 3 hs28 [] rfl (WL.nil (tkN ?_)))))
  refine ⟨sbF rfl, _, (hs28.fr L27), _, ?_, i + 1, _, rfl, ?_, ?_, ?_, ho29, ⟨?_, trivial⟩⟩
  · omega
  · omega
  · rw [List.length_set]; exact p1
  · intro k hk; exact part_next (g := r4.Main.dat) (by omega) (by rw [p1]; omega) (clearF_in ⟨by omega, by omega⟩).symm (p2 k hk)
  · (refine congrArg some (congrArg (Value.int _) ?_); omega)
 refine WC.exit (tkE (tkE (ibE (retK0 rfl ?_))))
 obtain ⟨L31, hs30, ho32⟩ := ownScrR.fl hs22 ho21 ho13 ho14 ho15
 have hs33 := (hs30.fb b_s)
 refine ownScrR.retp4 rfl ((hs33.fr L31).fb b_s) ho32 ?_
 · rw [← hd7]; show _ = clearD r4.dat a b; rw [show clearD r4.dat a b = { r4.dat with Main := gmap r4.Main.dat (clearF r4.Main.dat a b) } from by unfold clearD putD shownD; rw [if_neg (show ¬ r4.dat.OnAlt = true from by have h8 : r4.OnAlt = s.OnAlt := congrArg ScrD.OnAlt hd7; show ¬ r4.OnAlt = true; rw [h8, hx]; decide), if_neg (show ¬ r4.dat.OnAlt = true from by have h8 : r4.OnAlt = s.OnAlt := congrArg ScrD.OnAlt hd7; show ¬ r4.OnAlt = true; rw [h8, hx]; decide)]; rfl]; exact ScrD.ext' rfl rfl (part_done (g := r4.Main.dat) (lo := a.toNat) (a := i) rfl rfl p1 (fun k hk h9 => clearF_out (by omega)) p2) rfl rfl rfl rfl rfl rfl rfl rfl rfl rfl rfl rfl rfl rfl rfl rfl
theorem k124_ (u_0 u_1 u_2 u_3 : Value) (b_s : Nat) (s : ScrR) (L_s : Hp) (a : Int) (b : Int) (w : World) (hb_s : w.heap[b_s]? = some (oS u_0 u_1 u_2 u_3 s)) (o_s : ownScrR s L_s) (h_s : Hh w L_s) (hd_ : (b_s :: L_s.map (·.1)).Nodup) (hab : 0 ≤ a ∧ b ≤ s.Alt.Cells.xs.length ∧ b ≤ 1048576 ∧ -1048576 ≤ b ∧ a ≤ 1048576) (hsmB : smScr 549755813888 s.dat) (hx : s.OnAlt = true) :
    Calls Tryz.prog 236 #[.pointer (some ⟨b_s, 4, none⟩), i64 a, i64 b] w fun e w' => ∃ r L1, e = .returned (.tuple #[]) ∧ St w (b_s :: L_s.map (·.1)) ([(b_s, oS u_0 u_1 u_2 u_3 r)] ++ L1) w' ∧ ownScrR r L1 ∧ r.dat = clearD s.dat a b := by
 refine enter 23 Tryz.func236 rfl Tryz.ntmps236 rfl rfl ?_
 have hs1 := St.takeP w b_s _ L_s hb_s h_s hd_
 refine WC.sr (WL.r 1 hs1 [] rfl ?_)
 have hF2 := ((hs1.fr L_s).fb b_s)
 refine WL.cl Tryz.call223 rfl (k89_ _ _ _ _ _ s _ _ (St.headP hF2) o_s (St.ownP hF2) (St.nodupP hF2) ?_) ?_
 · first | assumption | rfl | omega
 rintro _ whs3 ⟨r4, L5, rfl, hs3, ho6, hd7⟩
 replace hs3 := St.lendP hF2 hs3
 refine ⟨_, rfl, ?_⟩
 have hrl : r4.Alt.Cells.xs.length = s.Alt.Cells.xs.length := congrArg (fun d : ScrD => d.Alt.Cells.length) hd7
 have hln := ownScrR.len ‹ownScrR r4 _›
 refine WL.r 4 hs3 [0] rfl (WL.nil (WC.r1 hs3 [] rfl (WC.block ?_)))
 obtain ⟨L8, L9, L10, L11, hs16, ho12, ho13, ho14, ho15⟩ := ownScrR.op hs3 ho6
 have hs17 := (hs16.fb b_s)
 refine WC.lO [2, 6] rfl (hs17.fr L9) (fun k_ f L_ => ∃ (i : Nat) (zs : List CellD), k_ = (b - a).toNat - i ∧ (i ≤ (b - a).toNat) ∧ (zs.length = r4.Alt.Cells.xs.length) ∧ (∀ k, k < r4.Alt.Cells.xs.length → cat zs k = partF r4.Alt.dat (clearF r4.Alt.dat a b) a.toNat i k) ∧ OwnF encCell 75 (.slice r4.Alt.Cells.A (r4.Alt.Cells.n) r4.Alt.Cells.c) (zs) L_ ∧ Sub [(7, .int .i64 (a + i))] f) (((fun (i : Nat) (zs : List CellD) => (b - a).toNat - i) (0) (r4.Alt.Cells.xs))) ?_ ?_
 ·refine ⟨0, r4.Alt.Cells.xs, rfl, ?_, ?_, ?_, ho13, ⟨?_, trivial⟩⟩
  · omega
  · rfl
  · intro k hk; rw [partF_zero]; rfl
  · (refine congrArg some (congrArg (Value.int _) ?_); omega)
 clear hs17
 rintro _ f w L20 ⟨i, zs, rfl, p0, p1, p2, ho21, hG⟩ hF hs22
 refine WC.sub _ (hG.app hF) ?_
 clear hG hF
 replace hs22 := St.back [_] hs22
 refine WC.seq (fun K23 hK23 => WC.r1 hs22 [] rfl ?_)
 refine WC.cD rfl (fun qh24 => ?_) (fun qh24 => ?_)
 ·refine WC.skip (hK23 _ _ (WC.seq (fun K25 hK25 => WC.block (WC.region (WL.r 2 hs22 [] rfl (WL.cl Tryz.call253 rfl (k56_ _) ?_))))))
  rintro _ whs26 ⟨rfl, hs26⟩
  replace hs26 := hs22.call0 hs26
  refine ⟨_, rfl, WL.val rfl rfl rfl (Run.idx Tryz.runUnderlying26 Tryz.sizeOf75 rfl rfl rfl ?_ ?_ ?_) ?_⟩
  · exact SlF.some_ (SlF.ofOwn ho21 (hs26.ow L20))
  · first | omega | (obtain ⟨h1, h2, _, _⟩ := hln; omega)
  · first | omega | (obtain ⟨h1, h2, _, _⟩ := hln; omega)
  refine WL.storeF1 (x' := blankC) (hs26.fr L20) ho21 Tryz.sizeOf75 rfl rfl rfl rfl rfl rfl rfl rfl rfl ?_ rfl (fun L27 whs28 hs28 ho29 _ => ?_)
  · first | omega | (obtain ⟨h1, h2, _, _⟩ := hln; omega)
  replace hs28 := St.back [_] hs28
  refine WL.nil (hK25 _ _ (WC.region (WL.r 3 hs28 [] rfl (WL.nil (tkN ?_)))))
  refine ⟨sbF rfl, _, (hs28.fr L27), _, ?_, i + 1, _, rfl, ?_, ?_, ?_, ho29, ⟨?_, trivial⟩⟩
  · omega
  · omega
  · rw [List.length_set]; exact p1
  · intro k hk; exact part_next (g := r4.Alt.dat) (by omega) (by rw [p1]; omega) (clearF_in ⟨by omega, by omega⟩).symm (p2 k hk)
  · (refine congrArg some (congrArg (Value.int _) ?_); omega)
 refine WC.exit (tkE (tkE (ibE (retK0 rfl ?_))))
 obtain ⟨L31, hs30, ho32⟩ := ownScrR.fl hs22 ho12 ho21 ho14 ho15
 have hs33 := (hs30.fb b_s)
 refine ownScrR.retp4 rfl ((hs33.fr L31).fb b_s) ho32 ?_
 · rw [← hd7]; show _ = clearD r4.dat a b; rw [show clearD r4.dat a b = { r4.dat with Alt := gmap r4.Alt.dat (clearF r4.Alt.dat a b) } from by unfold clearD putD shownD; rw [if_pos (show  r4.dat.OnAlt = true from by have h8 : r4.OnAlt = s.OnAlt := congrArg ScrD.OnAlt hd7; show  r4.OnAlt = true; rw [h8, hx]), if_pos (show  r4.dat.OnAlt = true from by have h8 : r4.OnAlt = s.OnAlt := congrArg ScrD.OnAlt hd7; show  r4.OnAlt = true; rw [h8, hx])]; rfl]; exact ScrD.ext' rfl rfl rfl (part_done (g := r4.Alt.dat) (lo := a.toNat) (a := i) rfl rfl p1 (fun k hk h9 => clearF_out (by omega)) p2) rfl rfl rfl rfl rfl rfl rfl rfl rfl rfl rfl rfl rfl rfl rfl
theorem k125_ (u_0 u_1 u_2 u_3 : Value) (b_s : Nat) (s : ScrR) (L_s : Hp) (a : Int) (b : Int) (w : World) (hb_s : w.heap[b_s]? = some (oS u_0 u_1 u_2 u_3 s)) (o_s : ownScrR s L_s) (h_s : Hh w L_s) (hd_ : (b_s :: L_s.map (·.1)).Nodup) (hab : 0 ≤ a ∧ a ≤ 1048576 ∧ b ≤ s.W * s.H ∧ -1048576 ≤ b) (hf : ScrFine s.dat) (hsmB : smScr 549755813888 s.dat) :
    Calls Tryz.prog 236 #[.pointer (some ⟨b_s, 4, none⟩), i64 a, i64 b] w fun e w' => ∃ r L1, e = .returned (.tuple #[]) ∧ St w (b_s :: L_s.map (·.1)) ([(b_s, oS u_0 u_1 u_2 u_3 r)] ++ L1) w' ∧ ownScrR r L1 ∧ r.dat = clearD s.dat a b := by
 have hz := isSize_bnd hf.size
 simp only [ScrR.dat] at hz
 have hgm := grid_len hf.gM
 have hga := grid_len hf.gA
 obtain ⟨d1, d2, d3, d4⟩ := hf.dim
 simp only [ScrR.dat, GridR.dat] at hgm hga d1 d2 d3 d4
 rw [d1, d2] at hgm
 rw [d3, d4] at hga
 rcases Bool.eq_false_or_eq_true s.OnAlt with hx_ | hx_
 · exact k124_ u_0 u_1 u_2 u_3 b_s s L_s a b w hb_s o_s h_s hd_ ⟨hab.1, by omega, by omega, by omega, by omega⟩ hsmB hx_
 · exact k123_ u_0 u_1 u_2 u_3 b_s s L_s a b w hb_s o_s h_s hd_ ⟨hab.1, by omega, by omega, by omega, by omega⟩ hsmB hx_
theorem k126_ (u_0 u_1 u_2 u_3 : Value) (b_s : Nat) (s : ScrR) (L_s : Hp) (k : Int) (row : Bool) (w : World) (hb_s : w.heap[b_s]? = some (oS u_0 u_1 u_2 u_3 s)) (o_s : ownScrR s L_s) (h_s : Hh w L_s) (hd_ : (b_s :: L_s.map (·.1)).Nodup) (hf : ScrFine s.dat) (hsmB : smScr 549755813888 s.dat) :
    Calls Tryz.prog 235 #[.pointer (some ⟨b_s, 4, none⟩), i64 k, .bool row] w fun e w' => ∃ r L1, e = .returned (.tuple #[]) ∧ St w (b_s :: L_s.map (·.1)) ([(b_s, oS u_0 u_1 u_2 u_3 r)] ++ L1) w' ∧ ownScrR r L1 ∧ r.dat = eraseD s.dat (if row = true then s.Y * s.W else 0) (if row = true then (s.Y + 1) * s.W else s.W * s.H) k := by
 have hwh : (1 ≤ s.W ∧ s.W ≤ 120) ∧ 1 ≤ s.H ∧ s.H ≤ 120 := ⟨(isSize_bnd hf.size).1, (isSize_bnd hf.size).2.1⟩
 have hxy := hf.pos
 simp only [ScrR.dat, GridR.dat] at hxy
 have hz := isSize_bnd hf.size
 simp only [ScrR.dat] at hz
 have hv0 : 0 ≤ s.Y * s.W := Int.mul_nonneg (by omega) (by omega)
 have hv1 : (s.Y + 1) * s.W = s.Y * s.W + s.W := by rw [Int.add_mul, Int.one_mul]
 have hv2 : (s.Y + 1) * s.W ≤ s.H * s.W := Int.mul_le_mul_of_nonneg_right (by omega) (by omega)
 rw [Int.mul_comm s.H s.W] at hv2
 refine enter 72 Tryz.func235 rfl Tryz.ntmps235 rfl rfl ?_
 have hs1 := St.takeP w b_s _ L_s hb_s h_s hd_
 refine WC.q1 hs1 [0, 0, 0, 0, 0] rfl (fun _ hs2 => WC.seq (fun K3 hK3 => WC.r1 hs2 [] rfl ?_))
 refine WC.cq rfl (fun h4 qh4 => ?_) (fun h4 qh4 => ?_)
 ·have hrow : row = true := by have h9 := h4; simpa using h9
  refine WC.regionQ (fun w' => St _ _ _ w') mixed (by kernel_rfl) hs2.drew (WQ.r 21 [0, 0, 0, 0] rfl (WQ.nil (fun _ (hs5 : St _ _ _ _) => hK3 _ _ (WC.r1 hs5 [] rfl (WC.block (WC.r1 hs5 [] rfl ?_))))))
  refine WC.cq rfl (fun h6 qh6 => ?_) (fun h6 qh6 => ?_)
  ·have e0 : k = 0 := by have h9 := h6; simpa using h9
   refine WC.region (WL.r 3 hs5 [] rfl ?_)
   have hF7 := ((hs5.fr L_s).fb b_s)
   refine WL.cl Tryz.call236 rfl (k125_ _ _ _ _ _ s _ _ _ _ (St.headP hF7) o_s (St.ownP hF7) (St.nodupP hF7) ?_ ?_ ?_) ?_
   iterate 3 first | assumption | rfl | omega | (refine ⟨?_, ?_, ?_, ?_⟩ <;> omega)
   rintro _ whs8 ⟨r9, L10, rfl, hs8, ho11, hd12⟩
   replace hs8 := St.lendP hF7 hs8
   refine ⟨_, rfl, WL.nil (ibN (retK0 rfl (⟨r9, _, rfl, St.keepP (L1 := L10) ((hs8.fr L10).fb b_s), ho11, ?_⟩)))⟩
   · first | rw [if_pos hrow, if_pos hrow] | rw [if_neg hrow, if_neg hrow]
     unfold eraseD; rw [if_pos e0]; exact hd12
  have e0 : ¬ k = 0 := by have h9 := h6; simpa using h9
  refine WC.r1 hs5 [] rfl (WC.cq rfl (fun h13 qh13 => ?_) (fun h13 qh13 => ?_))
  ·have e1 : k = 1 := by have h9 := h13; simpa using h9
   refine WC.region (WL.r 4 hs5 [] rfl ?_)
   have hF14 := ((hs5.fr L_s).fb b_s)
   refine WL.cl Tryz.call236 rfl (k125_ _ _ _ _ _ s _ _ _ _ (St.headP hF14) o_s (St.ownP hF14) (St.nodupP hF14) ?_ ?_ ?_) ?_
   iterate 3 first | assumption | rfl | omega | (refine ⟨?_, ?_, ?_, ?_⟩ <;> omega)
   rintro _ whs15 ⟨r16, L17, rfl, hs15, ho18, hd19⟩
   replace hs15 := St.lendP hF14 hs15
   refine ⟨_, rfl, WL.nil (ibN (retK0 rfl (⟨r16, _, rfl, St.keepP (L1 := L17) ((hs15.fr L17).fb b_s), ho18, ?_⟩)))⟩
   · first | rw [if_pos hrow, if_pos hrow] | rw [if_neg hrow, if_neg hrow]
     unfold eraseD; rw [if_neg e0, if_pos e1]; exact hd19
  have e1 : ¬ k = 1 := by have h9 := h13; simpa using h9
  refine WC.r1 hs5 [] rfl (WC.cq rfl (fun h20 qh20 => ?_) (fun h20 qh20 => ?_))
  ·have e2 : k = 2 := by have h9 := h20; simpa using h9
   refine WC.region (WL.r 3 hs5 [] rfl ?_)
   have hF21 := ((hs5.fr L_s).fb b_s)
   refine WL.cl Tryz.call236 rfl (k125_ _ _ _ _ _ s _ _ _ _ (St.headP hF21) o_s (St.ownP hF21) (St.nodupP hF21) ?_ ?_ ?_) ?_
   iterate 3 first | assumption | rfl | omega | (refine ⟨?_, ?_, ?_, ?_⟩ <;> omega)
   rintro _ whs22 ⟨r23, L24, rfl, hs22, ho25, hd26⟩
   replace hs22 := St.lendP hF21 hs22
   refine ⟨_, rfl, WL.nil (ibN (retK0 rfl (⟨r23, _, rfl, St.keepP (L1 := L24) ((hs22.fr L24).fb b_s), ho25, ?_⟩)))⟩
   · first | rw [if_pos hrow, if_pos hrow] | rw [if_neg hrow, if_neg hrow]
     unfold eraseD; rw [if_neg e0, if_neg e1, if_pos e2]; exact hd26
  have e2 : ¬ k = 2 := by have h9 := h20; simpa using h9
  refine WC.skip (ibN (retK0 rfl (⟨s, _, rfl, St.keepP (L1 := L_s) ((hs5.fr L_s).fb b_s), o_s, ?_⟩)))
  · first | rw [if_pos hrow, if_pos hrow] | rw [if_neg hrow, if_neg hrow]
    unfold eraseD; rw [if_neg e0, if_neg e1, if_neg e2]
 have hrow : ¬ row = true := by have h9 := h4; simpa using h9
 refine WC.skip (hK3 _ _ (WC.r1 hs2 [] rfl (WC.block (WC.r1 hs2 [] rfl ?_))))
 refine WC.cq rfl (fun h27 qh27 => ?_) (fun h27 qh27 => ?_)
 ·have e0 : k = 0 := by have h9 := h27; simpa using h9
  refine WC.region (WL.r 3 hs2 [] rfl ?_)
  have hF28 := ((hs2.fr L_s).fb b_s)
  refine WL.cl Tryz.call236 rfl (k125_ _ _ _ _ _ s _ _ _ _ (St.headP hF28) o_s (St.ownP hF28) (St.nodupP hF28) ?_ ?_ ?_) ?_
  iterate 3 first | assumption | rfl | omega | (refine ⟨?_, ?_, ?_, ?_⟩ <;> omega)
  rintro _ whs29 ⟨r30, L31, rfl, hs29, ho32, hd33⟩
  replace hs29 := St.lendP hF28 hs29
  refine ⟨_, rfl, WL.nil (ibN (retK0 rfl (⟨r30, _, rfl, St.keepP (L1 := L31) ((hs29.fr L31).fb b_s), ho32, ?_⟩)))⟩
  · first | rw [if_pos hrow, if_pos hrow] | rw [if_neg hrow, if_neg hrow]
    unfold eraseD; rw [if_pos e0]; exact hd33
 have e0 : ¬ k = 0 := by have h9 := h27; simpa using h9
 refine WC.r1 hs2 [] rfl (WC.cq rfl (fun h34 qh34 => ?_) (fun h34 qh34 => ?_))
 ·have e1 : k = 1 := by have h9 := h34; simpa using h9
  refine WC.region (WL.r 4 hs2 [] rfl ?_)
  have hF35 := ((hs2.fr L_s).fb b_s)
  refine WL.cl Tryz.call236 rfl (k125_ _ _ _ _ _ s _ _ _ _ (St.headP hF35) o_s (St.ownP hF35) (St.nodupP hF35) ?_ ?_ ?_) ?_
  iterate 3 first | assumption | rfl | omega | (refine ⟨?_, ?_, ?_, ?_⟩ <;> omega)
  rintro _ whs36 ⟨r37, L38, rfl, hs36, ho39, hd40⟩
  replace hs36 := St.lendP hF35 hs36
  refine ⟨_, rfl, WL.nil (ibN (retK0 rfl (⟨r37, _, rfl, St.keepP (L1 := L38) ((hs36.fr L38).fb b_s), ho39, ?_⟩)))⟩
  · first | rw [if_pos hrow, if_pos hrow] | rw [if_neg hrow, if_neg hrow]
    unfold eraseD; rw [if_neg e0, if_pos e1]; exact hd40
 have e1 : ¬ k = 1 := by have h9 := h34; simpa using h9
 refine WC.r1 hs2 [] rfl (WC.cq rfl (fun h41 qh41 => ?_) (fun h41 qh41 => ?_))
 ·have e2 : k = 2 := by have h9 := h41; simpa using h9
  refine WC.region (WL.r 3 hs2 [] rfl ?_)
  have hF42 := ((hs2.fr L_s).fb b_s)
  refine WL.cl Tryz.call236 rfl (k125_ _ _ _ _ _ s _ _ _ _ (St.headP hF42) o_s (St.ownP hF42) (St.nodupP hF42) ?_ ?_ ?_) ?_
  iterate 3 first | assumption | rfl | omega | (refine ⟨?_, ?_, ?_, ?_⟩ <;> omega)
  rintro _ whs43 ⟨r44, L45, rfl, hs43, ho46, hd47⟩
  replace hs43 := St.lendP hF42 hs43
  refine ⟨_, rfl, WL.nil (ibN (retK0 rfl (⟨r44, _, rfl, St.keepP (L1 := L45) ((hs43.fr L45).fb b_s), ho46, ?_⟩)))⟩
  · first | rw [if_pos hrow, if_pos hrow] | rw [if_neg hrow, if_neg hrow]
    unfold eraseD; rw [if_neg e0, if_neg e1, if_pos e2]; exact hd47
 have e2 : ¬ k = 2 := by have h9 := h41; simpa using h9
 refine WC.skip (ibN (retK0 rfl (⟨s, _, rfl, St.keepP (L1 := L_s) ((hs2.fr L_s).fb b_s), o_s, ?_⟩)))
 · first | rw [if_pos hrow, if_pos hrow] | rw [if_neg hrow, if_neg hrow]
   unfold eraseD; rw [if_neg e0, if_neg e1, if_neg e2]
theorem built_30 : Tryz.prog.built 30 [] = some (List.toArray [.int .i64 0, .int .i64 0, .bool false, .bool false, .bool false]) := by kernel_rfl
theorem k127_ (b_a : Nat) (a : AttrD) (n : Int) (w : World) (hb : w.heap[b_a]? = some (Obj.cells (List.toArray [i64 a.Fg, i64 a.Bg, .bool a.Bold, .bool a.Under, .bool a.Turn]) 30 (0, 0))) (hn : 0 ≤ n ∧ n ≤ 9999) :
    Calls Tryz.prog 255 #[.pointer (some ⟨b_a, 0, none⟩), i64 n] w fun e w' => e = .returned (.tuple #[]) ∧ St w [b_a] [(b_a, Obj.cells (List.toArray [i64 (sgrOne a n).Fg, i64 (sgrOne a n).Bg, .bool (sgrOne a n).Bold, .bool (sgrOne a n).Under, .bool (sgrOne a n).Turn]) 30 (0, 0))] w' := by
 refine enter 74 Tryz.func255 rfl Tryz.ntmps255 rfl rfl ?_
 have hs1 := St.take1 w b_a _ hb
 refine WC.block (WC.r1 hs1 [] rfl (WC.cq rfl (fun h2 qh2 => ?_) (fun h2 qh2 => ?_)))
 ·have e0 : n = 0 := by have h9 := h2; (try simp only [within_iff] at h9); first | exact h9 | (simp at h9; omega)
  refine WC.region (WL.r 1 hs1 [] rfl ?_)
  refine WL.val rfl rfl rfl (Run.build rfl rfl rfl rfl (built_30)) (WL.r 1 hs1 [] rfl (WL.st tbk hs1 0 rfl rfl (fun _ hs3 => WL.nil (ibN (retK0 rfl (⟨rfl, ?_⟩))))))
  unfold sgrOne
  rw [if_pos e0]
  exact hs3
 have e0 : ¬ (n = 0) := by have h9 := h2; (try simp only [within_not] at h9); first | exact h9 | (simp at h9; omega)
 refine WC.sr (WL.r 3 hs1 [] rfl (WL.pO tbk 2 Acts.nil hs1 [] rfl rfl rfl rfl (fun g_ => trivial) (WL.r 1 hs1 [] rfl (WL.nil (WC.cq rfl (fun h4 qh4 => ?_) (fun h4 qh4 => ?_))))))
 ·have e1 : n = 1 ∨ n = 22 := by have h9 := h4; (try simp only [within_iff] at h9); first | exact h9 | (simp at h9; omega)
  refine WC.region (WL.r 5 hs1 [] rfl (WL.st tbk hs1 0 rfl rfl (fun _ hs5 => WL.nil (ibN (retK0 rfl (⟨rfl, ?_⟩))))))
  unfold sgrOne
  rw [if_neg e0, if_pos e1]
  exact hs5
 have e1 : ¬ (n = 1 ∨ n = 22) := by have h9 := h4; (try simp only [within_not] at h9); first | exact h9 | (simp at h9; omega)
 refine WC.sr (WL.r 3 hs1 [] rfl (WL.pO tbk 2 Acts.nil hs1 [] rfl rfl rfl rfl (fun g_ => trivial) (WL.r 1 hs1 [] rfl (WL.nil (WC.cq rfl (fun h6 qh6 => ?_) (fun h6 qh6 => ?_))))))
 ·have e4 : n = 4 ∨ n = 24 := by have h9 := h6; (try simp only [within_iff] at h9); first | exact h9 | (simp at h9; omega)
  refine WC.region (WL.r 5 hs1 [] rfl (WL.st tbk hs1 0 rfl rfl (fun _ hs7 => WL.nil (ibN (retK0 rfl (⟨rfl, ?_⟩))))))
  unfold sgrOne
  rw [if_neg e0, if_neg e1, if_pos e4]
  exact hs7
 have e4 : ¬ (n = 4 ∨ n = 24) := by have h9 := h6; (try simp only [within_not] at h9); first | exact h9 | (simp at h9; omega)
 refine WC.sr (WL.r 3 hs1 [] rfl (WL.pO tbk 2 Acts.nil hs1 [] rfl rfl rfl rfl (fun g_ => trivial) (WL.r 1 hs1 [] rfl (WL.nil (WC.cq rfl (fun h8 qh8 => ?_) (fun h8 qh8 => ?_))))))
 ·have e7 : n = 7 ∨ n = 27 := by have h9 := h8; (try simp only [within_iff] at h9); first | exact h9 | (simp at h9; omega)
  refine WC.region (WL.r 5 hs1 [] rfl (WL.st tbk hs1 0 rfl rfl (fun _ hs9 => WL.nil (ibN (retK0 rfl (⟨rfl, ?_⟩))))))
  unfold sgrOne
  rw [if_neg e0, if_neg e1, if_neg e4, if_pos e7]
  exact hs9
 have e7 : ¬ (n = 7 ∨ n = 27) := by have h9 := h8; (try simp only [within_not] at h9); first | exact h9 | (simp at h9; omega)
 refine WC.sr (WL.r 1 hs1 [] rfl (WL.cl Tryz.call97 rfl (k0_ _ _ _ _) ?_))
 rintro _ whs10 ⟨rfl, hs10⟩
 replace hs10 := hs1.call0 hs10
 refine ⟨_, rfl, WL.r 1 hs10 [] rfl (WL.nil (WC.cq rfl (fun h11 qh11 => ?_) (fun h11 qh11 => ?_)))⟩
 ·have e30 : 30 ≤ n ∧ n ≤ 37 := by have h9 := h11; (try simp only [within_iff] at h9); first | exact h9 | (simp at h9; omega)
  refine WC.region (WL.r 5 hs10 [] rfl (WL.st tbk hs10 0 rfl rfl (fun _ hs12 => WL.nil (ibN (retK0 rfl (⟨rfl, ?_⟩))))))
  unfold sgrOne
  rw [if_neg e0, if_neg e1, if_neg e4, if_neg e7, if_pos e30]
  exact hs12
 have e30 : ¬ (30 ≤ n ∧ n ≤ 37) := by have h9 := h11; (try simp only [within_not] at h9); first | exact h9 | (simp at h9; omega)
 refine WC.r1 hs10 [] rfl (WC.cq rfl (fun h13 qh13 => ?_) (fun h13 qh13 => ?_))
 ·have e39 : n = 39 := by have h9 := h13; (try simp only [within_iff] at h9); first | exact h9 | (simp at h9; omega)
  refine WC.region (WL.r 3 hs10 [] rfl (WL.st tbk hs10 0 rfl rfl (fun _ hs14 => WL.nil (ibN (retK0 rfl (⟨rfl, ?_⟩))))))
  unfold sgrOne
  rw [if_neg e0, if_neg e1, if_neg e4, if_neg e7, if_neg e30, if_pos e39]
  exact hs14
 have e39 : ¬ (n = 39) := by have h9 := h13; (try simp only [within_not] at h9); first | exact h9 | (simp at h9; omega)
 refine WC.sr (WL.r 1 hs10 [] rfl (WL.cl Tryz.call97 rfl (k0_ _ _ _ _) ?_))
 rintro _ whs15 ⟨rfl, hs15⟩
 replace hs15 := hs10.call0 hs15
 refine ⟨_, rfl, WL.r 1 hs15 [] rfl (WL.nil (WC.cq rfl (fun h16 qh16 => ?_) (fun h16 qh16 => ?_)))⟩
 ·have e40 : 40 ≤ n ∧ n ≤ 47 := by have h9 := h16; (try simp only [within_iff] at h9); first | exact h9 | (simp at h9; omega)
  refine WC.region (WL.r 5 hs15 [] rfl (WL.st tbk hs15 0 rfl rfl (fun _ hs17 => WL.nil (ibN (retK0 rfl (⟨rfl, ?_⟩))))))
  unfold sgrOne
  rw [if_neg e0, if_neg e1, if_neg e4, if_neg e7, if_neg e30, if_neg e39, if_pos e40]
  exact hs17
 have e40 : ¬ (40 ≤ n ∧ n ≤ 47) := by have h9 := h16; (try simp only [within_not] at h9); first | exact h9 | (simp at h9; omega)
 refine WC.r1 hs15 [] rfl (WC.cq rfl (fun h18 qh18 => ?_) (fun h18 qh18 => ?_))
 ·have e49 : n = 49 := by have h9 := h18; (try simp only [within_iff] at h9); first | exact h9 | (simp at h9; omega)
  refine WC.region (WL.r 3 hs15 [] rfl (WL.st tbk hs15 0 rfl rfl (fun _ hs19 => WL.nil (ibN (retK0 rfl (⟨rfl, ?_⟩))))))
  unfold sgrOne
  rw [if_neg e0, if_neg e1, if_neg e4, if_neg e7, if_neg e30, if_neg e39, if_neg e40, if_pos e49]
  exact hs19
 have e49 : ¬ (n = 49) := by have h9 := h18; (try simp only [within_not] at h9); first | exact h9 | (simp at h9; omega)
 refine WC.skip (ibN (retK0 rfl (⟨rfl, ?_⟩)))
 unfold sgrOne
 rw [if_neg e0, if_neg e1, if_neg e4, if_neg e7, if_neg e30, if_neg e39, if_neg e40, if_neg e49]
 exact hs15
theorem k128_ (a_Fg : Int) (a_Bg : Int) (a_Bold : Bool) (a_Under : Bool) (a_Turn : Bool) (A_l : Option Addr) (n_l c_l : Nat) (l : List Int) (w : World) (f_l : SlF encI w A_l n_l l) (hl : areArgs l = true) (hn : n_l ≤ 549755813888) :
    Calls Tryz.prog 238 #[.agg #[i64 a_Fg, i64 a_Bg, .bool a_Bold, .bool a_Under, .bool a_Turn], .slice A_l n_l c_l] w fun e w' => ∃ r : AttrD, e = .returned (.agg #[i64 r.Fg, i64 r.Bg, .bool r.Bold, .bool r.Under, .bool r.Turn]) ∧ St w [] [] w' ∧ r = sgrRes (⟨a_Fg, a_Bg, a_Bold, a_Under, a_Turn⟩ : AttrD) l := by
 have hll := f_l.len
 refine enter 25 Tryz.func238 rfl Tryz.ntmps238 rfl rfl ?_
 have hs1 := St.init w
 refine WC.sr (WL.bx hs1 rfl (fun b2 _ hs3 => WL.al hs3 Tryz.zeroValue30 rfl rfl (fun b4 _ hs5 => WL.nil (WC.seq (fun K6 hK6 => WC.sr (WL.r 1 hs5 [1] rfl (WL.cl Tryz.call95 rfl (k40_ _ _ _ _ _ _) ?_)))))))
 rintro _ whs7 ⟨rfl, hs7⟩
 replace hs7 := hs5.call0 hs7
 refine ⟨_, rfl, WL.r 1 hs7 [] rfl (WL.nil (WC.cq rfl (fun h8 qh8 => ?_) (fun h8 qh8 => ?_)))⟩
 ·have hk : ¬ (attrOk a_Fg a_Bg = true ∧ 0 < l.length) := by rintro ⟨z7, z8⟩; have h9 := h8; first | (simp [z7] at h9; omega) | (simp [z7] at h9)
  refine WC.sr ?_
  refine WL.val rfl rfl rfl (Run.build rfl rfl rfl rfl (built_30)) (WL.st tbk hs7 0 rfl rfl (fun _ hs9 => WL.nil (WC.ret (tkR ?_))))
  clear hK6
  refine retV1 rfl (resV.cellA tbk hs9 0 rfl rfl rfl rfl) ?_
  exact ⟨⟨0, 0, false, false, false⟩, rfl, hs9.nil, by unfold sgrRes; rw [if_neg hk]⟩
 have hc0 := h8
 refine WC.skip (hK6 _ _ (WC.seq (fun K10 hK10 => WC.r1 hs7 [] rfl ?_)))
 refine WC.cq rfl (fun h11 qh11 => ?_) (fun h11 qh11 => ?_)
 ·have hk : ¬ (attrOk a_Fg a_Bg = true ∧ 0 < l.length) := by rintro ⟨z7, z8⟩; have h9 := h11; first | (simp [z7] at h9; omega) | (simp [z7] at h9)
  refine WC.sr ?_
  refine WL.val rfl rfl rfl (Run.build rfl rfl rfl rfl (built_30)) (WL.st tbk hs7 0 rfl rfl (fun _ hs12 => WL.nil (WC.ret (tkR ?_))))
  clear hK10
  refine retV1 rfl (resV.cellA tbk hs12 0 rfl rfl rfl rfl) ?_
  exact ⟨⟨0, 0, false, false, false⟩, rfl, hs12.nil, by unfold sgrRes; rw [if_neg hk]⟩
 have hc1 := h11
 have hk2 : attrOk a_Fg a_Bg = true ∧ 0 < l.length := by (try simp at hc0); (try simp at hc1); first | exact ⟨hc0, by omega⟩ | exact ⟨hc0.1, by omega⟩
 refine WC.skip (hK10 _ _ (WC.seq (fun K13 hK13 => WC.r1 hs7 [] rfl (WC.block ?_))))
 have hM14 := (St.grp0 [_] (hs7.fb b2))
 refine WC.lV [2, 4, 9, 13, 15, 16] rfl hM14 (fun k_ (a_ : Hp) f => ∃ (i : Nat) (q : AttrD), k_ = n_l - i ∧ a_ = [(b2, .cells (List.toArray [i64 q.Fg, i64 q.Bg, .bool q.Bold, .bool q.Under, .bool q.Turn]) 30 (0, 0))] ∧ (i ≤ n_l) ∧ (q = sgrAll (⟨a_Fg, a_Bg, a_Bold, a_Under, a_Turn⟩ : AttrD) (l.take i)) ∧ Sub [(17, .int .i64 i)] f) (((fun (i : Nat) (q : AttrD) => n_l - i) (0) ((⟨a_Fg, a_Bg, a_Bold, a_Under, a_Turn⟩ : AttrD)))) ?_ ?_
 ·refine ⟨0, (⟨a_Fg, a_Bg, a_Bold, a_Under, a_Turn⟩ : AttrD), rfl, rfl, ?_, ?_, ⟨rfl, trivial⟩⟩
  · exact Nat.zero_le _
  · rfl
 rintro _ _ f w ⟨i, q, rfl, rfl, p0, p1, hG⟩ hF hs15
 refine WC.sub _ (hG.app hF) ?_
 clear hG hF
 replace hs15 := St.ungrp0 [_] hs15
 have hs16 := ((hs15.fb b4).fb b2)
 refine WC.r1 hs16 [] rfl (WC.seq (fun K17 hK17 => ?_))
 refine WC.cq rfl (fun h18 qh18 => ?_) (fun h18 qh18 => ?_)
 ·have hnn := (areArgs_iff.1 hl).2 _ (gat_mem (F := encI) (show i < l.length by omega))
  refine WC.skip (hK17 _ _ (WC.seq (fun K19 hK19 => WC.block (WC.sr ?_))))
  refine WL.val rfl rfl rfl (Run.idxN Tryz.runUnderlying23 Tryz.sizeOf3 rfl rfl rfl ?_ ?_ ?_) ?_
  · exact SlF.some_ (SlF.st0 f_l hs16)
  · omega
  · omega
  refine WL.val rfl rfl rfl (Run.load Tryz.isAgg3 rfl rfl (SlF.one1 (SlF.st0 f_l hs16) ?_ rfl)) ?_
  · omega
  refine WL.r 1 hs16 [] rfl (WL.nil (WC.region (WL.r 1 hs16 [] rfl ?_)))
  have hF20 : St _ _ ([(b2, _)] ++ _) _ := hs16
  refine WL.call rfl rfl rfl (Run.call Tryz.call255 rfl rfl rfl) (k127_ _ q _ _ (hF20.own _ List.mem_cons_self).1 ?_) ?_
  · omega
  rintro _ whs21 ⟨rfl, hs21⟩
  replace hs21 := St.lend hF20 hs21
  refine ⟨_, rfl, WL.nil (hK19 _ _ (WC.region (WL.r 2 hs21 [] rfl (WL.nil (tkN ?_)))))⟩
  have hF22 := (St.grp0 [_] ((hs21.fb b4).fb b2))
  refine ⟨sbF rfl, _, hF22, _, ?_, i + 1, (sgrOne q (gat encI l i)), rfl, rfl, ?_, ?_, ⟨rfl, trivial⟩⟩
  · omega
  · omega
  · rw [sgrAll_take (by omega), ← p1]
 refine WC.exit (hK13 _ _ (WC.sr (WL.r 1 hs16 [0] rfl (WL.st tbk hs16 1 rfl rfl (fun _ hs23 => WL.nil (WC.ret (retV1 rfl (resV.cellA tbk hs23 1 rfl rfl rfl rfl) ?_)))))))
 exact ⟨q, rfl, hs23.nil, by unfold sgrRes; rw [if_pos hk2, p1, List.take_of_length_le (by omega)]⟩
theorem k129_ (a_Fg : Int) (a_Bg : Int) (a_Bold : Bool) (a_Under : Bool) (a_Turn : Bool) (n : Int) (w : World) (hn : 0 ≤ n ∧ n ≤ 9999) :
    Calls Tryz.prog 232 #[.agg #[i64 a_Fg, i64 a_Bg, .bool a_Bold, .bool a_Under, .bool a_Turn], i64 n] w fun e w' => ∃ r : AttrD, e = .returned (.agg #[i64 r.Fg, i64 r.Bg, .bool r.Bold, .bool r.Under, .bool r.Turn]) ∧ St w [] [] w' ∧ r = sgrOne (⟨a_Fg, a_Bg, a_Bold, a_Under, a_Turn⟩ : AttrD) n := by
 refine enter 68 Tryz.func232 rfl Tryz.ntmps232 rfl rfl ?_
 have hs1 := St.init w
 refine WC.sr (WL.bx hs1 rfl (fun b2 _ hs3 => WL.al hs3 Tryz.zeroValue30 rfl rfl (fun b4 _ hs5 => WL.nil (WC.seq (fun K6 hK6 => WC.block (WC.r1 hs5 [] rfl ?_))))))
 refine WC.cq rfl (fun h7 qh7 => ?_) (fun h7 qh7 => ?_)
 ·have e0 : n = 0 := by have h9 := h7; simp at h9; first | exact h9 | omega
  refine WC.sr ?_
  refine WL.val rfl rfl rfl (Run.build rfl rfl rfl rfl (built_30)) (WL.st tbk hs5 0 rfl rfl (fun _ hs8 => WL.nil (WC.ret (ibR (tkR ?_)))))
  clear hK6
  refine retV1 rfl (resV.cellA tbk hs8 0 rfl rfl rfl rfl) (⟨sgrOne (⟨a_Fg, a_Bg, a_Bold, a_Under, a_Turn⟩ : AttrD) n, congrArg Ending.returned ?_, hs8.nil, rfl⟩)
  unfold sgrOne
  rw [if_pos e0]
  try rfl
 have e0 : ¬ (n = 0) := by intro h8; have h9 := h7; simp at h9; omega
 refine WC.sr (WL.r 3 hs5 [] rfl (WL.pO tbk 2 Acts.nil hs5 [] rfl rfl rfl rfl (fun g_ => trivial) (WL.r 1 hs5 [] rfl (WL.nil (WC.cq rfl (fun h9 qh9 => ?_) (fun h9 qh9 => ?_))))))
 ·have e1 : n = 1 ∨ n = 22 := by have h9 := h9; simp at h9; first | exact h9 | omega
  refine WC.region (WL.r 3 hs5 [] rfl (WL.st tbk hs5 1 rfl rfl (fun _ hs10 => WL.nil (hK6 _ _ (WC.sr (WL.r 1 hs10 [1] rfl (WL.st tbk hs10 0 rfl rfl (fun _ hs11 => ?_))))))))
  refine WL.nil (WC.ret (retV1 rfl (resV.cellA tbk hs11 0 rfl rfl rfl rfl) (⟨sgrOne (⟨a_Fg, a_Bg, a_Bold, a_Under, a_Turn⟩ : AttrD) n, congrArg Ending.returned ?_, hs11.nil, rfl⟩)))
  unfold sgrOne
  rw [if_neg e0, if_pos e1]
  try rfl
 have e1 : ¬ (n = 1 ∨ n = 22) := by intro h8; have h9 := h9; simp at h9; omega
 refine WC.sr (WL.r 3 hs5 [] rfl (WL.pO tbk 2 Acts.nil hs5 [] rfl rfl rfl rfl (fun g_ => trivial) (WL.r 1 hs5 [] rfl (WL.nil (WC.cq rfl (fun h12 qh12 => ?_) (fun h12 qh12 => ?_))))))
 ·have e4 : n = 4 ∨ n = 24 := by have h9 := h12; simp at h9; first | exact h9 | omega
  refine WC.region (WL.r 3 hs5 [] rfl (WL.st tbk hs5 1 rfl rfl (fun _ hs13 => WL.nil (hK6 _ _ (WC.sr (WL.r 1 hs13 [1] rfl (WL.st tbk hs13 0 rfl rfl (fun _ hs14 => ?_))))))))
  refine WL.nil (WC.ret (retV1 rfl (resV.cellA tbk hs14 0 rfl rfl rfl rfl) (⟨sgrOne (⟨a_Fg, a_Bg, a_Bold, a_Under, a_Turn⟩ : AttrD) n, congrArg Ending.returned ?_, hs14.nil, rfl⟩)))
  unfold sgrOne
  rw [if_neg e0, if_neg e1, if_pos e4]
  try rfl
 have e4 : ¬ (n = 4 ∨ n = 24) := by intro h8; have h9 := h12; simp at h9; omega
 refine WC.sr (WL.r 3 hs5 [] rfl (WL.pO tbk 2 Acts.nil hs5 [] rfl rfl rfl rfl (fun g_ => trivial) (WL.r 1 hs5 [] rfl (WL.nil (WC.cq rfl (fun h15 qh15 => ?_) (fun h15 qh15 => ?_))))))
 ·have e7 : n = 7 ∨ n = 27 := by have h9 := h15; simp at h9; first | exact h9 | omega
  refine WC.region (WL.r 3 hs5 [] rfl (WL.st tbk hs5 1 rfl rfl (fun _ hs16 => WL.nil (hK6 _ _ (WC.sr (WL.r 1 hs16 [1] rfl (WL.st tbk hs16 0 rfl rfl (fun _ hs17 => ?_))))))))
  refine WL.nil (WC.ret (retV1 rfl (resV.cellA tbk hs17 0 rfl rfl rfl rfl) (⟨sgrOne (⟨a_Fg, a_Bg, a_Bold, a_Under, a_Turn⟩ : AttrD) n, congrArg Ending.returned ?_, hs17.nil, rfl⟩)))
  unfold sgrOne
  rw [if_neg e0, if_neg e1, if_neg e4, if_pos e7]
  try rfl
 have e7 : ¬ (n = 7 ∨ n = 27) := by intro h8; have h9 := h15; simp at h9; omega
 refine WC.sr (WL.r 3 hs5 [] rfl (WL.pA tbk 2 Acts.nil hs5 [] rfl rfl rfl rfl (fun g_ => trivial) (WL.r 1 hs5 [] rfl (WL.nil (WC.cq rfl (fun h18 qh18 => ?_) (fun h18 qh18 => ?_))))))
 ·have e30 : 30 ≤ n ∧ n ≤ 37 := by have h9 := h18; simp at h9; first | exact h9 | omega
  refine WC.region (WL.r 3 hs5 [] rfl (WL.st tbk hs5 1 rfl rfl (fun _ hs19 => WL.nil (hK6 _ _ (WC.sr (WL.r 1 hs19 [1] rfl (WL.st tbk hs19 0 rfl rfl (fun _ hs20 => ?_))))))))
  refine WL.nil (WC.ret (retV1 rfl (resV.cellA tbk hs20 0 rfl rfl rfl rfl) (⟨sgrOne (⟨a_Fg, a_Bg, a_Bold, a_Under, a_Turn⟩ : AttrD) n, congrArg Ending.returned ?_, hs20.nil, rfl⟩)))
  unfold sgrOne
  rw [if_neg e0, if_neg e1, if_neg e4, if_neg e7, if_pos e30]
  try rfl
 have e30 : ¬ (30 ≤ n ∧ n ≤ 37) := by intro h8; have h9 := h18; simp at h9; omega
 refine WC.r1 hs5 [] rfl (WC.cq rfl (fun h21 qh21 => ?_) (fun h21 qh21 => ?_))
 ·have e39 : n = 39 := by have h9 := h21; simp at h9; first | exact h9 | omega
  refine WC.region (WL.r 1 hs5 [] rfl (WL.st tbk hs5 1 rfl rfl (fun _ hs22 => WL.nil (hK6 _ _ (WC.sr (WL.r 1 hs22 [1] rfl (WL.st tbk hs22 0 rfl rfl (fun _ hs23 => ?_))))))))
  refine WL.nil (WC.ret (retV1 rfl (resV.cellA tbk hs23 0 rfl rfl rfl rfl) (⟨sgrOne (⟨a_Fg, a_Bg, a_Bold, a_Under, a_Turn⟩ : AttrD) n, congrArg Ending.returned ?_, hs23.nil, rfl⟩)))
  unfold sgrOne
  rw [if_neg e0, if_neg e1, if_neg e4, if_neg e7, if_neg e30, if_pos e39]
  try rfl
 have e39 : ¬ (n = 39) := by intro h8; have h9 := h21; simp at h9; omega
 refine WC.sr (WL.r 3 hs5 [] rfl (WL.pA tbk 2 Acts.nil hs5 [] rfl rfl rfl rfl (fun g_ => trivial) (WL.r 1 hs5 [] rfl (WL.nil (WC.cq rfl (fun h24 qh24 => ?_) (fun h24 qh24 => ?_))))))
 ·have e40 : 40 ≤ n ∧ n ≤ 47 := by have h9 := h24; simp at h9; first | exact h9 | omega
  refine WC.region (WL.r 3 hs5 [] rfl (WL.st tbk hs5 1 rfl rfl (fun _ hs25 => WL.nil (hK6 _ _ (WC.sr (WL.r 1 hs25 [1] rfl (WL.st tbk hs25 0 rfl rfl (fun _ hs26 => ?_))))))))
  refine WL.nil (WC.ret (retV1 rfl (resV.cellA tbk hs26 0 rfl rfl rfl rfl) (⟨sgrOne (⟨a_Fg, a_Bg, a_Bold, a_Under, a_Turn⟩ : AttrD) n, congrArg Ending.returned ?_, hs26.nil, rfl⟩)))
  unfold sgrOne
  rw [if_neg e0, if_neg e1, if_neg e4, if_neg e7, if_neg e30, if_neg e39, if_pos e40]
  try rfl
 have e40 : ¬ (40 ≤ n ∧ n ≤ 47) := by intro h8; have h9 := h24; simp at h9; omega
 refine WC.r1 hs5 [] rfl (WC.cq rfl (fun h27 qh27 => ?_) (fun h27 qh27 => ?_))
 ·have e49 : n = 49 := by have h9 := h27; simp at h9; first | exact h9 | omega
  refine WC.region (WL.r 1 hs5 [] rfl (WL.st tbk hs5 1 rfl rfl (fun _ hs28 => WL.nil (hK6 _ _ (WC.sr (WL.r 1 hs28 [1] rfl (WL.st tbk hs28 0 rfl rfl (fun _ hs29 => ?_))))))))
  refine WL.nil (WC.ret (retV1 rfl (resV.cellA tbk hs29 0 rfl rfl rfl rfl) (⟨sgrOne (⟨a_Fg, a_Bg, a_Bold, a_Under, a_Turn⟩ : AttrD) n, congrArg Ending.returned ?_, hs29.nil, rfl⟩)))
  unfold sgrOne
  rw [if_neg e0, if_neg e1, if_neg e4, if_neg e7, if_neg e30, if_neg e39, if_neg e40, if_pos e49]
  try rfl
 have e49 : ¬ (n = 49) := by intro h8; have h9 := h27; simp at h9; omega
 refine WC.skip (hK6 _ _ (WC.sr (WL.r 1 hs5 [1] rfl (WL.st tbk hs5 0 rfl rfl (fun _ hs30 => WL.nil (WC.ret (retV1 rfl (resV.cellA tbk hs30 0 rfl rfl rfl rfl) ?_)))))))
 refine ⟨sgrOne (⟨a_Fg, a_Bg, a_Bold, a_Under, a_Turn⟩ : AttrD) n, congrArg Ending.returned ?_, hs30.nil, rfl⟩
 unfold sgrOne
 rw [if_neg e0, if_neg e1, if_neg e4, if_neg e7, if_neg e30, if_neg e39, if_neg e40, if_neg e49]
 try rfl
theorem k130_ (a_Fg : Int) (a_Bg : Int) (a_Bold : Bool) (a_Under : Bool) (a_Turn : Bool) (A_l : Option Addr) (n_l c_l : Nat) (l : List Int) (w : World) (f_l : SlF encI w A_l n_l l) (hl : areArgs l = true) (hn : n_l ≤ 549755813888) :
    Calls Tryz.prog 184 #[.agg #[i64 a_Fg, i64 a_Bg, .bool a_Bold, .bool a_Under, .bool a_Turn], .slice A_l n_l c_l] w fun e w' => ∃ r : AttrD, e = .returned (.agg #[i64 r.Fg, i64 r.Bg, .bool r.Bold, .bool r.Under, .bool r.Turn]) ∧ St w [] [] w' ∧ r = sgrRes (⟨a_Fg, a_Bg, a_Bold, a_Under, a_Turn⟩ : AttrD) l := by
 have hll := f_l.len
 refine enter 27 Tryz.func184 rfl Tryz.ntmps184 rfl rfl ?_
 have hs1 := St.init w
 refine WC.sr (WL.bx hs1 rfl (fun b2 _ hs3 => WL.al hs3 Tryz.zeroValue30 rfl rfl (fun b4 _ hs5 => WL.nil (WC.seq (fun K6 hK6 => WC.sr (WL.r 1 hs5 [1] rfl (WL.cl Tryz.call139 rfl (k41_ _ _ _ _ _ _) ?_)))))))
 rintro _ whs7 ⟨rfl, hs7⟩
 replace hs7 := hs5.call0 hs7
 refine ⟨_, rfl, WL.r 2 hs7 [] rfl (WL.pO tbk 3 Acts.nil hs7 [] rfl rfl rfl rfl (fun g_ => trivial) (WL.nil (WC.cq rfl (fun h8 qh8 => ?_) (fun h8 qh8 => ?_))))⟩
 ·have hk : ¬ (attrOk a_Fg a_Bg = true ∧ 0 < l.length) := by rintro ⟨z7, z8⟩; have h9 := h8; first | (simp [z7] at h9; omega) | (simp [z7] at h9)
  refine WC.sr ?_
  refine WL.val rfl rfl rfl (Run.build rfl rfl rfl rfl (built_30)) (WL.st tbk hs7 0 rfl rfl (fun _ hs9 => WL.nil (WC.ret (tkR ?_))))
  clear hK6
  refine retV1 rfl (resV.cellA tbk hs9 0 rfl rfl rfl rfl) ?_
  exact ⟨⟨0, 0, false, false, false⟩, rfl, hs9.nil, by unfold sgrRes; rw [if_neg hk]⟩
 have hc0 := h8
 have hk2 : attrOk a_Fg a_Bg = true ∧ 0 < l.length := by (try simp at hc0); (try simp at hc1); first | exact ⟨hc0, by omega⟩ | exact ⟨hc0.1, by omega⟩
 refine WC.skip (hK6 _ _ (WC.seq (fun K10 hK10 => WC.r1 hs7 [] rfl (WC.block ?_))))
 have hM11 := (St.grp0 [_] (hs7.fb b2))
 refine WC.lV [2, 4, 14, 16, 17] rfl hM11 (fun k_ (a_ : Hp) f => ∃ (i : Nat) (q : AttrD), k_ = n_l - i ∧ a_ = [(b2, .cells (List.toArray [i64 q.Fg, i64 q.Bg, .bool q.Bold, .bool q.Under, .bool q.Turn]) 30 (0, 0))] ∧ (i ≤ n_l) ∧ (q = sgrAll (⟨a_Fg, a_Bg, a_Bold, a_Under, a_Turn⟩ : AttrD) (l.take i)) ∧ Sub [(18, .int .i64 i)] f) (((fun (i : Nat) (q : AttrD) => n_l - i) (0) ((⟨a_Fg, a_Bg, a_Bold, a_Under, a_Turn⟩ : AttrD)))) ?_ ?_
 ·refine ⟨0, (⟨a_Fg, a_Bg, a_Bold, a_Under, a_Turn⟩ : AttrD), rfl, rfl, ?_, ?_, ⟨rfl, trivial⟩⟩
  · exact Nat.zero_le _
  · rfl
 rintro _ _ f w ⟨i, q, rfl, rfl, p0, p1, hG⟩ hF hs12
 refine WC.sub _ (hG.app hF) ?_
 clear hG hF
 replace hs12 := St.ungrp0 [_] hs12
 have hs13 := ((hs12.fb b4).fb b2)
 refine WC.r1 hs13 [] rfl (WC.seq (fun K14 hK14 => ?_))
 refine WC.cq rfl (fun h15 qh15 => ?_) (fun h15 qh15 => ?_)
 ·have hnn := (areArgs_iff.1 hl).2 _ (gat_mem (F := encI) (show i < l.length by omega))
  refine WC.skip (hK14 _ _ (WC.seq (fun K16 hK16 => WC.block (WC.sr ?_))))
  refine WL.val rfl rfl rfl (Run.idxN Tryz.runUnderlying23 Tryz.sizeOf3 rfl rfl rfl ?_ ?_ ?_) ?_
  · exact SlF.some_ (SlF.st0 f_l hs13)
  · omega
  · omega
  refine WL.val rfl rfl rfl (Run.load Tryz.isAgg3 rfl rfl (SlF.one1 (SlF.st0 f_l hs13) ?_ rfl)) ?_
  · omega
  refine WL.r 1 hs13 [] rfl (WL.nil (WC.region (WL.r 2 hs13 [0] rfl (WL.cl Tryz.call232 rfl (k129_ _ _ _ _ _ _ _ ?_) ?_))))
  · first | assumption | rfl | omega
  rintro _ whs17 ⟨r18, rfl, hs17, hr19⟩
  replace hs17 := hs13.callF hs17
  refine ⟨_, rfl, ?_⟩
  rw [List.nil_append] at hs17
  replace hs17 := St.perm hs17 (L' := [_, _] ++ _) pR
  refine WL.st tbk hs17 0 rfl rfl (fun _ hs20 => WL.nil (hK16 _ _ (WC.region (WL.r 2 hs20 [] rfl (WL.nil (tkN ?_))))))
  have hF21 := (St.grp0 [_] ((hs20.fb b4).fb b2))
  refine ⟨sbF rfl, _, hF21, _, ?_, i + 1, r18, rfl, rfl, ?_, ?_, ⟨rfl, trivial⟩⟩
  · omega
  · omega
  · rw [sgrAll_take (by omega), ← p1]; exact hr19
 refine WC.exit (hK10 _ _ (WC.sr (WL.r 1 hs13 [0] rfl (WL.st tbk hs13 1 rfl rfl (fun _ hs22 => WL.nil (WC.ret (retV1 rfl (resV.cellA tbk hs22 1 rfl rfl rfl rfl) ?_)))))))
 exact ⟨q, rfl, hs22.nil, by unfold sgrRes; rw [if_pos hk2, p1, List.take_of_length_le (by omega)]⟩
theorem k131_ (g : GridR) (x : Int) (y : Int) (n : Int) (w : World) (f_g : okGridR 549755813888 w g) (hg : gridOk g.dat = true) (hx : 0 ≤ x ∧ x < g.W) (hy : 0 ≤ y ∧ y < g.H) (hn : -100000 ≤ n ∧ n ≤ 100000) :
    Calls Tryz.prog 237 #[.agg #[i64 g.W, i64 g.H, .slice g.Cells.A g.Cells.n g.Cells.c], i64 x, i64 y, i64 n] w fun e w' => ∃ r L1, e = .returned (.agg #[i64 r.W, i64 r.H, .slice r.Cells.A r.Cells.n r.Cells.c]) ∧ St w [] L1 w' ∧ ownGridR r L1 ∧ r.dat = gShift g.dat x y n := by
 have nb_g_Cells := f_g.Cells_n
 have nl_g_Cells := f_g.Cells.len
 have hgb : (1 ≤ g.W ∧ g.W ≤ 120) ∧ (1 ≤ g.H ∧ g.H ≤ 120) ∧ 1 ≤ g.W * g.H ∧ g.W * g.H ≤ 4000 := gridOk_bnd hg
 have hgl : (g.Cells.xs.length : Int) = g.W * g.H := grid_len hg
 have hsmg : smGrid 1048576 g.dat := by show g.Cells.xs.length ≤ 1048576; omega
 have hsmgB : smGrid 549755813888 g.dat := Nat.le_trans hsmg (by decide)
 have hv0 : 0 ≤ y * g.W := Int.mul_nonneg (by omega) (by omega)
 have hv1 : (y + 1) * g.W = y * g.W + g.W := by rw [Int.add_mul, Int.one_mul]
 have hv2 : (y + 1) * g.W ≤ g.H * g.W := Int.mul_le_mul_of_nonneg_right (by omega) (by omega)
 rw [Int.mul_comm g.H g.W] at hv2
 have hlo2 : (y * g.W).toNat = y.toNat * g.W.toNat := Int.toNat_mul (by omega) (by omega)
 have hnz : ((y.toNat * g.W.toNat : Nat) : Int) = y * g.W := by rw [← hlo2]; omega
 have hhas : gridHas g.dat x y = true := by unfold gridHas; rw [Bool.and_eq_true, within_iff, within_iff]; show (0 ≤ x ∧ x ≤ g.W - 1) ∧ 0 ≤ y ∧ y ≤ g.H - 1; omega
 refine enter 63 Tryz.func237 rfl Tryz.ntmps237 rfl rfl ?_
 have hs1 := St.init w
 refine WC.sr (WL.bx hs1 rfl (fun b2 _ hs3 => WL.al hs3 Tryz.zeroValue28 rfl rfl (fun b4 _ hs5 => WL.nil (WC.seq (fun K6 hK6 => WC.sr (WL.r 1 hs5 [1] rfl (WL.cl Tryz.call93 rfl (k68_ g _ (okGridR.st0 f_g hs5)) ?_)))))))
 rintro _ whs7 ⟨rfl, hs7⟩
 replace hs7 := hs5.call0 hs7
 refine ⟨_, rfl, WL.r 2 hs7 [] rfl ?_⟩
 apply WL.gO 5 Acts.nil hs7 rfl
 ·intro g8 J9
  have qg8 := g8
  try simp only [bf, within_iff, within_not] at qg8
  refine WL.runA tbk 3 (Acts.nil.cons (j := 3) rfl g8) hs7 [1] rfl ⟨rfl, trivial⟩ (WL.call (wantF rfl g8) rfl rfl (Run.call Tryz.call94 rfl rfl rfl) (k69_ g _ _ _ (okGridR.st0 f_g hs7) ?_ ?_) ?_)
  iterate 2 first | assumption | rfl | omega | (exact Nat.le_trans hsmg (by decide))
  rintro _ whs10 ⟨rfl, hs10⟩
  replace hs10 := hs7.call0 hs10
  refine ⟨_, rfl, WL.runA tbk 1 (Acts.nil.cons (j := 3) rfl g8) hs10 [] rfl trivial (WL.eO 5 Acts.nil J9 hs10 g8 rfl rfl)⟩
 intro _ hs11
 refine WL.nil (WC.cq rfl (fun h12 qh12 => ?_) (fun h12 qh12 => ?_))
 ·exfalso; have h9 := h12; simp [hg, hhas] at h9
 refine WC.skip (hK6 _ _ (WC.sr (WL.r 1 hs11 [1] rfl ?_)))
 refine WL.cl Tryz.call206 rfl (k80_ g _ (okGridR.st0 f_g hs11) ?_) ?_
 · first | assumption | rfl | omega | (exact Nat.le_trans hsmg (by decide))
 rintro _ whs13 ⟨r14, L1_15, rfl, hs13, ho16, hd17⟩
 replace hs13 := hs11.callF hs13
 refine ⟨_, rfl, ?_⟩
 replace hs13 := St.back [_, _] hs13
 have hrW : r14.W = g.W := congrArg GridD.W hd17
 have hrH : r14.H = g.H := congrArg GridD.H hd17
 have hrC : r14.Cells.xs = g.Cells.xs := congrArg GridD.Cells hd17
 have hrn := ownGridR.len ‹ownGridR r14 _›
 have hrc := OwnF.cap ‹ownGridR r14 _›
 have hz0 : y * r14.W = y * g.W := by rw [hrW]
 have hz1 : (y + 1) * r14.W = (y + 1) * g.W := by rw [hrW]
 have hrl : r14.Cells.xs.length = g.Cells.xs.length := congrArg List.length hrC
 have hlr := f_g.Cells.len
 have hcg := f_g.Cells_c
 refine WL.al hs13 Tryz.zeroValue28 rfl rfl (fun b18 _ hs19 => WL.st tbk hs19 0 rfl rfl (fun _ hs20 => WL.nil (WC.sr (WL.r 2 hs20 [0] rfl ?_))))
 refine WL.cl Tryz.call224 rfl (k83_ r14 _ _ (ownGridR.ok (B := 549755813888) ho16 (hs20.ow L1_15) (by rw [hd17]; assumption)) ?_ ?_ ?_ ?_) ?_
 iterate 4 first | assumption | rfl | omega | (exact Nat.le_trans hsmg (by decide))
 rintro _ whs21 ⟨rfl, hs21⟩
 replace hs21 := hs20.call0 hs21
 refine ⟨_, rfl, WL.r 1 hs21 [] rfl (WL.nil (WC.seq (fun K22 hK22 => WC.r1 hs21 [] rfl (WC.block ?_))))⟩
 refine WC.lO [1, 2, 3, 4, 8, 9, 10, 22] rfl (hs21.fr L1_15) (fun k_ f L_ => ∃ (a : Nat) (zs : List CellD), k_ = (g.W - x).toNat - a ∧ ((a : Int) ≤ g.W - x) ∧ (zs.length = g.Cells.xs.length) ∧ (∀ k, k < g.Cells.xs.length → cat zs k = partF g.dat (shiftF g.dat x y n) (y.toNat * g.dat.W.toNat + x.toNat) a k) ∧ OwnF encCell 75 (.slice r14.Cells.A (r14.Cells.n) r14.Cells.c) (zs) L_ ∧ Sub [(11, .int .i64 (x + a))] f) (((fun (a : Nat) (zs : List CellD) => (g.W - x).toNat - a) (0) (r14.Cells.xs))) ?_ ?_
 ·refine ⟨0, r14.Cells.xs, rfl, ?_, ?_, ?_, ho16, ⟨?_, trivial⟩⟩
  · omega
  · exact hrl
  · intro k hk; rw [partF_zero, hrC]; rfl
  · (refine congrArg some (congrArg (Value.int _) ?_); omega)
 clear hs21
 rintro _ f w L25 ⟨a, zs, rfl, p0, p1, p2, ho26, hG⟩ hF hs27
 refine WC.sub _ (hG.app hF) ?_
 clear hG hF
 replace hs27 := St.back [_, _, _] hs27
 refine WC.seq (fun K28 hK28 => WC.r1 hs27 [2] rfl ?_)
 refine WC.cq rfl (fun h29 qh29 => ?_) (fun h29 qh29 => ?_)
 ·refine WC.skip (hK28 _ _ (WC.seq (fun K30 hK30 => WC.block (WC.sr (WL.r 2 hs27 [] rfl (WL.cl Tryz.call253 rfl (k56_ _) ?_))))))
  rintro _ whs31 ⟨rfl, hs31⟩
  replace hs31 := hs27.call0 hs31
  refine ⟨_, rfl, WL.val rfl rfl rfl (Run.idx Tryz.runUnderlying26 Tryz.sizeOf75 rfl rfl rfl ?_ ?_ ?_) ?_⟩
  · exact SlF.some_ (SlF.cutC (lo := (y * r14.W).toNat) (hi := ((y + 1) * r14.W).toNat) (SlF.ofOwn ho26 (hs31.ow L25)) (by refine ⟨?_, ?_, ?_⟩ <;> (omega)))
  · first | omega | (simp only [List.length_set]; omega)
  · first | omega | (simp only [List.length_set]; omega)
  refine WL.storeC (x' := blankC) (lo := (y * r14.W).toNat) (hs31.fr L25) ho26 Tryz.sizeOf75 rfl rfl rfl rfl rfl rfl rfl rfl rfl ?_ rfl (fun L32 whs33 hs33 ho34 _ => ?_)
  · first | omega | (simp only [List.length_set]; omega)
  replace hs33 := St.back [_, _, _] hs33
  refine WL.nil (WC.r1 hs33 [] rfl (WC.sr (WL.r 1 hs33 [] rfl (WL.cl Tryz.call97 rfl (k0_ _ _ _ _) ?_))))
  rintro _ whs35 ⟨rfl, hs35⟩
  replace hs35 := hs33.call0 hs35
  refine ⟨_, rfl, WL.r 1 hs35 [] rfl ?_⟩
  apply WL.gA 6 Acts.nil hs35 rfl
  ·intro g36 J37
   have qg36 := g36
   try simp only [bf, within_iff, within_not] at qg36
   refine WL.runA tbk 5 (Acts.nil.cons (j := 2) rfl g36) hs35 [2] rfl ⟨by omega, rfl, trivial⟩ (WL.call (wantT rfl g36) rfl rfl (Run.call Tryz.call97 rfl rfl rfl) (k0_ _ _ _ _) ?_)
   rintro _ whs38 ⟨rfl, hs38⟩
   replace hs38 := hs35.call0 hs38
   refine ⟨_, rfl, WL.eA 6 Acts.nil J37 hs38 g36 rfl rfl⟩
  intro _ hs39
  refine WL.nil (WC.cq rfl (fun h40 qh40 => ?_) (fun h40 qh40 => ?_))
  ·have hin : x ≤ x + (a : Int) - n ∧ x + (a : Int) - n < g.dat.W := by show x ≤ x + (a : Int) - n ∧ x + (a : Int) - n < g.W; have h9 := h40; simp only [Bool.and_eq_true, within_iff] at h9; omega
   refine WC.region (WL.r 4 hs39 [2] rfl (WL.cl Tryz.call224 rfl (k83_ g _ _ (okGridR.st0 f_g hs39) ?_ ?_ ?_ ?_) ?_))
   iterate 4 first | assumption | rfl | omega | (exact Nat.le_trans hsmg (by decide))
   rintro _ whs41 ⟨rfl, hs41⟩
   replace hs41 := hs39.call0 hs41
   refine ⟨_, rfl, WL.r 1 hs41 [] rfl (WL.val rfl rfl rfl (Run.idx Tryz.runUnderlying26 Tryz.sizeOf75 rfl rfl rfl ?_ ?_ ?_) ?_)⟩
   · exact SlF.some_ (SlF.cutC (lo := (y * g.W).toNat) (hi := ((y + 1) * g.W).toNat) (SlF.st0 f_g.Cells hs41) (by refine ⟨?_, ?_, ?_⟩ <;> (omega)))
   · first | omega | (simp only [List.length_set]; omega)
   · first | omega | (simp only [List.length_set]; omega)
   refine WL.val rfl rfl rfl (Run.loadA Tryz.isAgg75 Tryz.sizeOf75 rfl rfl (SlF.whole (SlF.cutC (lo := (y * g.W).toNat) (hi := ((y + 1) * g.W).toNat) (SlF.st0 f_g.Cells hs41) (by refine ⟨?_, ?_, ?_⟩ <;> (omega))) ?_)) ?_
   · first | omega | (simp only [List.length_set]; omega)
   refine WL.val rfl rfl rfl (Run.idx Tryz.runUnderlying26 Tryz.sizeOf75 rfl rfl rfl ?_ ?_ ?_) ?_
   · exact SlF.some_ (SlF.cutC (lo := (y * r14.W).toNat) (hi := ((y + 1) * r14.W).toNat) (SlF.ofOwn ho34 (hs41.ow L32)) (by refine ⟨?_, ?_, ?_⟩ <;> (omega)))
   · first | omega | (simp only [List.length_set]; omega)
   · first | omega | (simp only [List.length_set]; omega)
   refine WL.storeC (x' := _) (lo := (y * r14.W).toNat) (hs41.fr L32) ho34 Tryz.sizeOf75 rfl rfl rfl rfl rfl rfl rfl rfl rfl ?_ rfl (fun L42 whs43 hs43 ho44 _ => ?_)
   · first | omega | (simp only [List.length_set]; omega)
   replace hs43 := St.back [_, _, _] hs43
   refine WL.nil (hK30 _ _ (WC.region (WL.r 3 hs43 [] rfl (WL.nil (tkN ?_)))))
   refine ⟨sbF rfl, _, (hs43.fr L42), _, ?_, a + 1, _, rfl, ?_, ?_, ?_, ho44, ⟨?_, trivial⟩⟩
   · omega
   · omega
   · simp only [List.length_set]; exact p1
   · intro k hk; first | (rw [List.set_set]; exact part_next (g := g.dat) (by rw [hz0, hlo2]; show _ = y.toNat * g.W.toNat + x.toNat + a; omega) (by rw [hz0]; omega) (by rw [shiftF_at (g := g.dat) hx.1 hy.1 (by show x + (a : Int) < g.W; omega), if_pos hin, gat_cut (by omega), hlo2]; rfl) (p2 k hk)) | exact part_next (g := g.dat) (by rw [hz0, hlo2]; show _ = y.toNat * g.W.toNat + x.toNat + a; omega) (by rw [hz0]; omega) (by rw [shiftF_at (g := g.dat) hx.1 hy.1 (by show x + (a : Int) < g.W; omega), if_neg hout]) (p2 k hk)
   · (refine congrArg some (congrArg (Value.int _) ?_); omega)
  have hout : ¬ (x ≤ x + (a : Int) - n ∧ x + (a : Int) - n < g.dat.W) := by show ¬ (x ≤ x + (a : Int) - n ∧ x + (a : Int) - n < g.W); intro h8; have h9 := h40; simp [within] at h9; omega
  refine WC.skip (hK30 _ _ (WC.region (WL.r 3 hs39 [] rfl (WL.nil (tkN ?_)))))
  refine ⟨sbF rfl, _, (hs39.fr L32), _, ?_, a + 1, _, rfl, ?_, ?_, ?_, ho34, ⟨?_, trivial⟩⟩
  · omega
  · omega
  · simp only [List.length_set]; exact p1
  · intro k hk; first | (rw [List.set_set]; exact part_next (g := g.dat) (by rw [hz0, hlo2]; show _ = y.toNat * g.W.toNat + x.toNat + a; omega) (by rw [hz0]; omega) (by rw [shiftF_at (g := g.dat) hx.1 hy.1 (by show x + (a : Int) < g.W; omega), if_pos hin, gat_cut (by omega), hlo2]; rfl) (p2 k hk)) | exact part_next (g := g.dat) (by rw [hz0, hlo2]; show _ = y.toNat * g.W.toNat + x.toNat + a; omega) (by rw [hz0]; omega) (by rw [shiftF_at (g := g.dat) hx.1 hy.1 (by show x + (a : Int) < g.W; omega), if_neg hout]) (p2 k hk)
  · (refine congrArg some (congrArg (Value.int _) ?_); omega)
 refine WC.exit (hK22 _ _ (WC.sr (WL.r 1 hs27 [0] rfl (WL.st tbk hs27 1 rfl rfl (fun _ hs45 => WL.nil (WC.ret (retV1 rfl (resV.cellA tbk hs45 1 rfl rfl rfl rfl) ?_)))))))
 refine ⟨⟨r14.W, r14.H, SlD.of ho26⟩, _, rfl, (St.keep1 (hs45.fr L25)), ?_, ?_⟩
 · exact ho26
 · exact shift_done (g := g.dat) (m := n) hx hy.1 (by show (a : Int) = g.W - x; omega) hrW hrH p1 (.inl rfl) p2
theorem k132_ (u_0 u_1 u_2 u_3 : Value) (b_p b_s : Nat) (s : ScrR) (m : Int) (w : World) (hp : w.heap[b_p]? = some (Obj.cells (List.toArray [.pointer (some ⟨b_s, 4, none⟩)]) 115 (0, 0))) (hq : w.heap[b_s]? = some (oS u_0 u_1 u_2 u_3 s)) (hne : b_p ≠ b_s) :
    Calls Tryz.prog 241 #[i64 m, .pointer (some ⟨b_p, 0, none⟩)] w fun e w' => e = .returned (.bool (decide (m = s.X))) ∧ St w [] [] w' := by
 refine enter 10 Tryz.func241 rfl Tryz.ntmps241 rfl rfl ?_
 have hs1 := St.take w [(b_p, Obj.cells (List.toArray [.pointer (some ⟨b_s, 4, none⟩)]) 115 (0, 0)), (b_s, oS u_0 u_1 u_2 u_3 s)] (fun p hp_ => by rcases List.mem_cons.1 hp_ with rfl | hp_; exact hp; obtain rfl := List.mem_singleton.1 hp_; exact hq) (by simp [hne])
 refine WC.r1 hs1 [] rfl (WC.r1 hs1 [0, 1] rfl (WC.ret (retV1 rfl (resV.tmp rfl) (⟨rfl, St.untouch hs1 (fun k hk => ?_) (fun p hp_ => ?_)⟩))))
 · rcases List.mem_cons.1 hk with rfl | hk
   · exact ⟨_, List.mem_cons_self⟩
   · obtain rfl := List.mem_singleton.1 hk
     exact ⟨_, List.mem_cons_of_mem _ List.mem_cons_self⟩
 · rcases List.mem_cons.1 hp_ with rfl | hp_
   · exact hp
   · obtain rfl := List.mem_singleton.1 hp_
     exact hq
theorem k133_ (u_0 u_1 u_2 u_3 : Value) (b_s : Nat) (s : ScrR) (L_s : Hp) (w : World) (hb_s : w.heap[b_s]? = some (oS u_0 u_1 u_2 u_3 s)) (o_s : ownScrR s L_s) (h_s : Hh w L_s) (hd_ : (b_s :: L_s.map (·.1)).Nodup) :
    Calls Tryz.prog 223 #[.pointer (some ⟨b_s, 4, none⟩)] w fun e w' => ∃ q r L1, e = .returned (.pointer (some ⟨b_s, q, none⟩)) ∧ St w (b_s :: L_s.map (·.1)) ([(b_s, oS u_0 u_1 u_2 u_3 r)] ++ L1) w' ∧ ownScrR r L1 ∧ r.dat = s.dat ∧ (q = 6 ∧ s.OnAlt = false ∨ q = 9 ∧ s.OnAlt = true) := by
 rcases Bool.eq_false_or_eq_true s.OnAlt with hx | hx
 · exact (k89_ u_0 u_1 u_2 u_3 b_s s L_s w hb_s o_s h_s hd_ hx).mono fun e w' ⟨r, L1, h1, h2, h3, h4⟩ => ⟨9, r, L1, h1, h2, h3, h4, .inr ⟨rfl, hx⟩⟩
 · exact (k88_ u_0 u_1 u_2 u_3 b_s s L_s w hb_s o_s h_s hd_ hx).mono fun e w' ⟨r, L1, h1, h2, h3, h4⟩ => ⟨6, r, L1, h1, h2, h3, h4, .inl ⟨rfl, hx⟩⟩
theorem k134_ (u_0 u_1 u_2 u_3 : Value) (b_s : Nat) (s : ScrR) (L_s : Hp) (A_l : Option Addr) (n_l c_l : Nat) (l : List Int) (b : Int) (w : World) (hb_s : w.heap[b_s]? = some (oS u_0 u_1 u_2 u_3 s)) (o_s : ownScrR s L_s) (h_s : Hh w L_s) (f_l : SlF encI w A_l n_l l) (hd_ : (b_s :: L_s.map (·.1)).Nodup) (s_l : 0 < n_l → (adr A_l).block ∉ (b_s :: L_s.map (·.1))) (hf : ScrFine s.dat) (hsm : smScr 1048576 s.dat) (hl : areArgs l = true) (hll : n_l ≤ 549755813888) :
    Calls Tryz.prog 189 #[.pointer (some ⟨b_s, 4, none⟩), .slice A_l n_l c_l, i64 b] w fun e w' => ∃ r L1, e = .returned (.tuple #[]) ∧ St w (b_s :: L_s.map (·.1)) ([(b_s, oS u_0 u_1 u_2 u_3 r)] ++ L1) w' ∧ ownScrR r L1 ∧ r.dat = csiD s.dat l b := by
 have hsmB : smScr 549755813888 s.dat := smScr_mono hsm (by decide)
 have ha0 := argI_pos (k := 0) (d := 1) hl (by omega)
 have ha1 := argI_bnd (k := 1) (d := 1) hl (by omega)
 have hk0 := argI_bnd (k := 0) (d := 0) hl (by omega)
 refine enter 196 Tryz.func189 rfl Tryz.ntmps189 rfl rfl ?_
 have hs1 := St.takeP w b_s _ L_s hb_s h_s hd_
 refine WC.sr (WL.bx hs1 rfl (fun b2 _ hs3 => WL.nil (WC.sr (WL.r 1 hs3 [] rfl ?_))))
 refine WL.cl Tryz.call233 rfl (k117_ _ _ _ _ _ _ (SlF.st f_l hs3 s_l) ?_) ?_
 · first | assumption | rfl | omega | (refine ⟨?_, ?_, ?_, ?_⟩ <;> omega) | (constructor <;> omega)
 rintro _ whs4 ⟨rfl, hs4⟩
 replace hs4 := hs3.call0 hs4
 refine ⟨_, rfl, WL.r 1 hs4 [] rfl (WL.cl Tryz.call233 rfl (k118_ _ _ _ _ _ _ (SlF.st f_l hs4 s_l) ?_) ?_)⟩
 · first | assumption | rfl | omega | (refine ⟨?_, ?_, ?_, ?_⟩ <;> omega) | (constructor <;> omega)
 rintro _ whs5 ⟨rfl, hs5⟩
 replace hs5 := hs4.call0 hs5
 refine ⟨_, rfl, WL.r 1 hs5 [] rfl (WL.cl Tryz.call233 rfl (k117_ _ _ _ _ _ _ (SlF.st f_l hs5 s_l) ?_) ?_)⟩
 · first | assumption | rfl | omega | (refine ⟨?_, ?_, ?_, ?_⟩ <;> omega) | (constructor <;> omega)
 rintro _ whs6 ⟨rfl, hs6⟩
 replace hs6 := hs5.call0 hs6
 refine ⟨_, rfl, WL.r 3 hs6 [] rfl (WL.nil (WC.seq (fun K7 hK7 => WC.sr (WL.r 4 hs6 [0] rfl ?_))))⟩
 have hF8 := ((hs6.fr L_s).fb b_s)
 refine WL.cl Tryz.call234 rfl (k120_ _ _ _ _ _ s _ _ _ _ _ (St.headP hF8) o_s (St.ownP hF8) (St.nodupP hF8) ?_ ?_ ?_) ?_
 iterate 3 first | assumption | rfl | omega | (refine ⟨?_, ?_, ?_, ?_⟩ <;> omega) | (constructor <;> omega)
 rintro _ whs9 ⟨r10, L11, rfl, hs9, ho12, hd13⟩
 replace hs9 := St.lendP hF8 hs9
 refine ⟨_, rfl, ?_⟩
 have hs14 := ((hs9.fb b2).fb b_s)
 refine WL.nil (WC.cq rfl (fun h15 qh15 => ?_) (fun h15 qh15 => ?_))
 ·have hmv : isMove b = true := by have h9 := h15; simpa using h9
  refine WC.ret (tkR ?_)
  clear hK7
  refine retK0' rfl (⟨r10, _, rfl, St.keepP (L1 := L11) ((hs14.fr L11).fb b_s), ho12, ?_⟩)
  · exact hd13.trans (csiD_move hmv).symm
 have hmv : isMove b = false := by have h9 := h15; simpa using h9
 obtain ⟨e65, e66, e67, e68, e71, e100, e7⟩ := isMove_no hmv
 have hr1 : r10.dat = s.dat := hd13.trans (moveByD_no hmv)
 have hs1 : smScr 549755813888 r10.dat := hr1.symm ▸ hsmB
 refine WC.skip (hK7 _ _ (WC.sr (WL.r 1 hs14 [1] rfl ?_)))
 have hF16 := ((hs14.fr L11).fb b_s)
 refine WL.cl Tryz.call223 rfl (k133_ _ _ _ _ _ r10 _ _ (St.headP hF16) ho12 (St.ownP hF16) (St.nodupP hF16)) ?_
 rintro _ whs17 ⟨q22, r18, L19, rfl, hs17, ho20, hd21, hO23⟩
 replace hs17 := St.lendP hF16 hs17
 refine ⟨_, rfl, ?_⟩
 have hs24 := ((hs17.fb b2).fb b_s)
 have hr2 : r18.dat = s.dat := hd21.trans hr1
 have hf2 : ScrFine r18.dat := hr2.symm ▸ hf
 have hsm2 : smScr 1048576 r18.dat := hr2.symm ▸ hsm
 have hsB2 : smScr 549755813888 r18.dat := hr2.symm ▸ hsmB
 skip
 have hwh2 : (1 ≤ r18.W ∧ r18.W ≤ 120) ∧ (1 ≤ r18.H ∧ r18.H ≤ 120) ∧ 1 ≤ r18.W * r18.H ∧ r18.W * r18.H ≤ 4000 := isSize_bnd hf2.size
 have hxy2 : (0 ≤ r18.X ∧ r18.X < r18.W) ∧ 0 ≤ r18.Y ∧ r18.Y < r18.H := hf2.pos
 have hrg2 : (0 ≤ r18.Top ∧ r18.Top ≤ r18.Bot) ∧ r18.Bot < r18.H := ⟨hf2.reg.1, hf2.reg.2.1⟩
 have hv0 : 0 ≤ r18.Y * r18.W := Int.mul_nonneg (by omega) (by omega)
 have hv1 : (r18.Y + 1) * r18.W = r18.Y * r18.W + r18.W := by rw [Int.add_mul, Int.one_mul]
 have hv2 : (r18.Y + 1) * r18.W ≤ r18.H * r18.W := Int.mul_le_mul_of_nonneg_right (by omega) (by omega)
 rw [Int.mul_comm r18.H r18.W] at hv2
 have hgs2 : gridOk (shownD r18.dat) = true := hf2.shown.1
 have hsh2 : (shownD r18.dat).W = r18.W ∧ (shownD r18.dat).H = r18.H := hf2.shown.2
 have hts2 : 0 ≤ r18.Top ∧ r18.Top ≤ r18.Bot ∧ r18.Bot < (shownD r18.dat).H := by rw [hsh2.2]; omega
 have hTs2 : r18.Tabs.xs.length ≤ 1048576 := hsm2.2.2.1
 refine WL.r 1 hs24 [] rfl (WL.nil (WC.r1 hs24 [] rfl (WC.block (WC.seq (fun K25 hK25 => WC.r1 hs24 [] rfl ?_)))))
 refine WC.cq rfl (fun h26 qh26 => ?_) (fun h26 qh26 => ?_)
 ·have e74 : b = 74 := by have h9 := h26; simpa using h9
  refine WC.skip (hK25 _ _ (WC.condT rfl h26 (WC.region (WL.r 4 hs24 [1] rfl ?_))))
  have hF28 := ((hs24.fr L19).fb b_s)
  refine WL.cl Tryz.call235 rfl (k126_ _ _ _ _ _ r18 _ _ _ _ (St.headP hF28) ho20 (St.ownP hF28) (St.nodupP hF28) ?_ ?_) ?_
  iterate 2 first | assumption | rfl | omega | (refine ⟨?_, ?_, ?_, ?_⟩ <;> omega) | (constructor <;> omega)
  rintro _ whs29 ⟨r30, L31, rfl, hs29, ho32, hd33⟩
  replace hs29 := St.lendP hF28 hs29
  refine ⟨_, rfl, ?_⟩
  have hs34 := ((hs29.fb b2).fb b_s)
  refine WL.nil (ibN (retK0 rfl (⟨r30, _, rfl, St.keepP (L1 := L31) ((hs34.fr L31).fb b_s), ho32, ?_⟩)))
  · rw [← hr2]; unfold csiD; rw [if_neg e65, if_neg e66, if_neg e67, if_neg e68, if_neg e71, if_neg e100, if_neg e7, if_pos e74]; exact hd33.trans (by rw [if_neg (by simp; omega), if_neg (by simp; omega)]; rfl)
 have e74 : ¬ b = 74 := by have h9 := h26; simpa using h9
 refine WC.region (WL.r 2 hs24 [] rfl (WL.nil (hK25 _ _ ?_)))
 refine WC.cq rfl (fun h35 qh35 => ?_) (fun h35 qh35 => ?_)
 ·have e75 : b = 75 := by have h9 := h35; simpa using h9
  refine WC.region (WL.r 4 hs24 [1] rfl ?_)
  have hF36 := ((hs24.fr L19).fb b_s)
  refine WL.cl Tryz.call235 rfl (k126_ _ _ _ _ _ r18 _ _ _ _ (St.headP hF36) ho20 (St.ownP hF36) (St.nodupP hF36) ?_ ?_) ?_
  iterate 2 first | assumption | rfl | omega | (refine ⟨?_, ?_, ?_, ?_⟩ <;> omega) | (constructor <;> omega)
  rintro _ whs37 ⟨r38, L39, rfl, hs37, ho40, hd41⟩
  replace hs37 := St.lendP hF36 hs37
  refine ⟨_, rfl, ?_⟩
  have hs42 := ((hs37.fb b2).fb b_s)
  refine WL.nil (ibN (retK0 rfl (⟨r38, _, rfl, St.keepP (L1 := L39) ((hs42.fr L39).fb b_s), ho40, ?_⟩)))
  · rw [← hr2]; unfold csiD; rw [if_neg e65, if_neg e66, if_neg e67, if_neg e68, if_neg e71, if_neg e100, if_neg e7, if_neg e74, if_pos e75]; exact hd41.trans (by rw [if_pos (by simp; omega), if_pos (by simp; omega)]; rfl)
 have e75 : ¬ b = 75 := by have h9 := h35; simpa using h9
 refine WC.r1 hs24 [] rfl (WC.cq rfl (fun h43 qh43 => ?_) (fun h43 qh43 => ?_))
 ·have e88 : b = 88 := by have h9 := h43; simpa using h9
  refine WC.q1 hs24 [1, 0, 1, 0, 1, 0] rfl (fun _ hs44 => WC.rG 16 (hs44.d1.rm L19) hs44 hs44 (fun _ hs45 => ?_))
  refine WG.rn [0, 1, 2, 3, 4, 5, 6, 7, 8, 9, 10, 11, 12, 13, 14, 15] hs45 [1, 1, 0, 1, 0] rfl rfl (WG.oK rfl ?_)
  have hF46 := ((hs45.fr L19).fb b_s)
  refine WL.cl Tryz.call236 rfl (k125_ _ _ _ _ _ r18 _ _ _ _ (St.headP hF46) ho20 (St.ownP hF46) (St.nodupP hF46) ?_ ?_ ?_) ?_
  iterate 3 first | assumption | rfl | omega | (refine ⟨?_, ?_, ?_, ?_⟩ <;> omega) | (constructor <;> omega)
  rintro _ whs47 ⟨r48, L49, rfl, hs47, ho50, hd51⟩
  replace hs47 := St.lendP hF46 hs47
  refine ⟨_, rfl, ?_⟩
  have hs52 := ((hs47.fb b2).fb b_s)
  refine WL.nil ⟨(hs52.d1.rm L49), WH.dn (ibN (retK0 rfl (⟨r48, _, rfl, St.keepP (L1 := L49) ((hs52.fr L49).fb b_s), ho50, ?_⟩)))⟩
  · rw [← hr2]; unfold csiD; rw [if_neg e65, if_neg e66, if_neg e67, if_neg e68, if_neg e71, if_neg e100, if_neg e7, if_neg e74, if_neg e75, if_pos e88]; exact hd51
 have e88 : ¬ b = 88 := by have h9 := h43; simpa using h9
 refine WC.r1 hs24 [] rfl (WC.cq rfl (fun h53 qh53 => ?_) (fun h53 qh53 => ?_))
 ·have e64 : b = 64 := by have h9 := h53; simpa using h9
  rcases hO23 with ⟨rfl, hx1⟩ | ⟨rfl, hx1⟩
  ·have hx2 : r18.OnAlt = false := (congrArg ScrD.OnAlt hd21).trans hx1
   have hfd : shownD r18.dat = r18.Main.dat := by unfold shownD; rw [if_neg (show ¬ r18.dat.OnAlt = true from by show ¬ r18.OnAlt = true; rw [hx2]; decide)]; rfl
   have hgd2 : gridOk r18.Main.dat = true := hfd ▸ hgs2
   have hgw2 : r18.Main.W = r18.W ∧ r18.Main.H = r18.H := ⟨(congrArg GridD.W hfd).symm.trans hsh2.1, (congrArg GridD.H hfd).symm.trans hsh2.2⟩
   refine WC.rG 15 hs24.d1 hs24 hs24 (fun _ hs54 => ?_)
   refine WG.rn [0, 1, 2, 3, 4, 5, 6, 7, 8, 9, 10, 11, 12] hs54 [0, 1, 0, 1, 0] rfl rfl (WG.o1 13 rfl rfl ?_)
   refine WL.cl Tryz.call237 rfl (k131_ r18.Main _ _ _ _ (ownScrR.ok (B := 549755813888) ho20 (hs54.ow L19) (by rw [hd21]; assumption)).Main ?_ ?_ ?_ ?_) ?_
   iterate 4 first | assumption | rfl | omega | (refine ⟨?_, ?_, ?_, ?_⟩ <;> omega) | (constructor <;> omega)
   rintro _ whs55 ⟨r56, L1_57, rfl, hs55, ho58, hd59⟩
   replace hs55 := hs54.callF hs55
   refine ⟨_, rfl, ?_⟩
   replace hs55 := St.back [_, _] hs55
   have hsf := hd59
   refine WL.nil ⟨(hs55.rm L1_57), WG.rn [14] (hs55.rm L1_57) [] rfl rfl (WG.oK rfl (WL.st tbk hs55 0 rfl rfl (fun _ hs60 => WL.nil ⟨(hs60.d1.rm L1_57), WH.dn (ibN (retK0 rfl ?_))⟩)))⟩
   obtain ⟨L61, L62, L63, L64, hs69, ho65, ho66, ho67, ho68⟩ := ownScrR.op hs60 ho20
   have hs70 := ((hs69.fb b2).fb b_s)
   obtain ⟨L72, hs71, ho73⟩ := ownScrR.fl hs70 ho58 ho66 ho67 ho68
   have hs74 := ((hs71.fb b2).fb b_s)
   refine ownScrR.retp4 rfl ((hs74.fr L72).fb b_s) ho73 ?_
   · rw [← hr2]; unfold csiD; rw [if_neg e65, if_neg e66, if_neg e67, if_neg e68, if_neg e71, if_neg e100, if_neg e7, if_neg e74, if_neg e75, if_neg e88, if_pos e64]; show _ = putD r18.dat (gShift (shownD r18.dat) r18.X r18.Y (argI l 0 1)); rw [show putD r18.dat (gShift (shownD r18.dat) r18.X r18.Y (argI l 0 1)) = { r18.dat with Main := gShift r18.Main.dat r18.X r18.Y (argI l 0 1) } from by rw [hfd]; unfold putD; rw [if_neg (show ¬ r18.dat.OnAlt = true from by show ¬ r18.OnAlt = true; rw [hx2]; decide)]]; exact ScrD.ext' rfl rfl (hsf) rfl rfl rfl rfl rfl rfl rfl rfl rfl rfl rfl rfl rfl rfl rfl rfl
  have hx2 : r18.OnAlt = true := (congrArg ScrD.OnAlt hd21).trans hx1
  have hfd : shownD r18.dat = r18.Alt.dat := by unfold shownD; rw [if_pos (show  r18.dat.OnAlt = true from by show  r18.OnAlt = true; rw [hx2])]; rfl
  have hgd2 : gridOk r18.Alt.dat = true := hfd ▸ hgs2
  have hgw2 : r18.Alt.W = r18.W ∧ r18.Alt.H = r18.H := ⟨(congrArg GridD.W hfd).symm.trans hsh2.1, (congrArg GridD.H hfd).symm.trans hsh2.2⟩
  refine WC.rG 15 hs24.d1 hs24 hs24 (fun _ hs75 => ?_)
  refine WG.rn [0, 1, 2, 3, 4, 5, 6, 7, 8, 9, 10, 11, 12] hs75 [0, 1, 0, 1, 0] rfl rfl (WG.o1 13 rfl rfl ?_)
  refine WL.cl Tryz.call237 rfl (k131_ r18.Alt _ _ _ _ (ownScrR.ok (B := 549755813888) ho20 (hs75.ow L19) (by rw [hd21]; assumption)).Alt ?_ ?_ ?_ ?_) ?_
  iterate 4 first | assumption | rfl | omega | (refine ⟨?_, ?_, ?_, ?_⟩ <;> omega) | (constructor <;> omega)
  rintro _ whs76 ⟨r77, L1_78, rfl, hs76, ho79, hd80⟩
  replace hs76 := hs75.callF hs76
  refine ⟨_, rfl, ?_⟩
  replace hs76 := St.back [_, _] hs76
  have hsf := hd80
  refine WL.nil ⟨(hs76.rm L1_78), WG.rn [14] (hs76.rm L1_78) [] rfl rfl (WG.oK rfl (WL.st tbk hs76 0 rfl rfl (fun _ hs81 => WL.nil ⟨(hs81.d1.rm L1_78), WH.dn (ibN (retK0 rfl ?_))⟩)))⟩
  obtain ⟨L82, L83, L84, L85, hs90, ho86, ho87, ho88, ho89⟩ := ownScrR.op hs81 ho20
  have hs91 := ((hs90.fb b2).fb b_s)
  obtain ⟨L93, hs92, ho94⟩ := ownScrR.fl hs91 ho86 ho79 ho88 ho89
  have hs95 := ((hs92.fb b2).fb b_s)
  refine ownScrR.retp4 rfl ((hs95.fr L93).fb b_s) ho94 ?_
  · rw [← hr2]; unfold csiD; rw [if_neg e65, if_neg e66, if_neg e67, if_neg e68, if_neg e71, if_neg e100, if_neg e7, if_neg e74, if_neg e75, if_neg e88, if_pos e64]; show _ = putD r18.dat (gShift (shownD r18.dat) r18.X r18.Y (argI l 0 1)); rw [show putD r18.dat (gShift (shownD r18.dat) r18.X r18.Y (argI l 0 1)) = { r18.dat with Alt := gShift r18.Alt.dat r18.X r18.Y (argI l 0 1) } from by rw [hfd]; unfold putD; rw [if_pos (show  r18.dat.OnAlt = true from by show  r18.OnAlt = true; rw [hx2])]]; exact ScrD.ext' rfl rfl rfl (hsf) rfl rfl rfl rfl rfl rfl rfl rfl rfl rfl rfl rfl rfl rfl rfl
 have e64 : ¬ b = 64 := by have h9 := h53; simpa using h9
 refine WC.r1 hs24 [] rfl (WC.cq rfl (fun h96 qh96 => ?_) (fun h96 qh96 => ?_))
 ·have e80 : b = 80 := by have h9 := h96; simpa using h9
  rcases hO23 with ⟨rfl, hx1⟩ | ⟨rfl, hx1⟩
  ·have hx2 : r18.OnAlt = false := (congrArg ScrD.OnAlt hd21).trans hx1
   have hfd : shownD r18.dat = r18.Main.dat := by unfold shownD; rw [if_neg (show ¬ r18.dat.OnAlt = true from by show ¬ r18.OnAlt = true; rw [hx2]; decide)]; rfl
   have hgd2 : gridOk r18.Main.dat = true := hfd ▸ hgs2
   have hgw2 : r18.Main.W = r18.W ∧ r18.Main.H = r18.H := ⟨(congrArg GridD.W hfd).symm.trans hsh2.1, (congrArg GridD.H hfd).symm.trans hsh2.2⟩
   refine WC.rG 16 hs24.d1 hs24 hs24 (fun _ hs97 => ?_)
   refine WG.rn [0, 1, 2, 3, 4, 5, 6, 7, 8, 9, 10, 11, 12, 13] hs97 [0, 1, 0, 1, 0] rfl rfl (WG.o1 14 rfl rfl ?_)
   refine WL.cl Tryz.call237 rfl (k131_ r18.Main _ _ _ _ (ownScrR.ok (B := 549755813888) ho20 (hs97.ow L19) (by rw [hd21]; assumption)).Main ?_ ?_ ?_ ?_) ?_
   iterate 4 first | assumption | rfl | omega | (refine ⟨?_, ?_, ?_, ?_⟩ <;> omega) | (constructor <;> omega)
   rintro _ whs98 ⟨r99, L1_100, rfl, hs98, ho101, hd102⟩
   replace hs98 := hs97.callF hs98
   refine ⟨_, rfl, ?_⟩
   replace hs98 := St.back [_, _] hs98
   have hsf := hd102
   refine WL.nil ⟨(hs98.rm L1_100), WG.rn [15] (hs98.rm L1_100) [] rfl rfl (WG.oK rfl (WL.st tbk hs98 0 rfl rfl (fun _ hs103 => WL.nil ⟨(hs103.d1.rm L1_100), WH.dn (ibN (retK0 rfl ?_))⟩)))⟩
   obtain ⟨L104, L105, L106, L107, hs112, ho108, ho109, ho110, ho111⟩ := ownScrR.op hs103 ho20
   have hs113 := ((hs112.fb b2).fb b_s)
   obtain ⟨L115, hs114, ho116⟩ := ownScrR.fl hs113 ho101 ho109 ho110 ho111
   have hs117 := ((hs114.fb b2).fb b_s)
   refine ownScrR.retp4 rfl ((hs117.fr L115).fb b_s) ho116 ?_
   · rw [← hr2]; unfold csiD; rw [if_neg e65, if_neg e66, if_neg e67, if_neg e68, if_neg e71, if_neg e100, if_neg e7, if_neg e74, if_neg e75, if_neg e88, if_neg e64, if_pos e80]; show _ = putD r18.dat (gShift (shownD r18.dat) r18.X r18.Y (-argI l 0 1)); rw [show putD r18.dat (gShift (shownD r18.dat) r18.X r18.Y (-argI l 0 1)) = { r18.dat with Main := gShift r18.Main.dat r18.X r18.Y (-argI l 0 1) } from by rw [hfd]; unfold putD; rw [if_neg (show ¬ r18.dat.OnAlt = true from by show ¬ r18.OnAlt = true; rw [hx2]; decide)]]; exact ScrD.ext' rfl rfl (hsf) rfl rfl rfl rfl rfl rfl rfl rfl rfl rfl rfl rfl rfl rfl rfl rfl
  have hx2 : r18.OnAlt = true := (congrArg ScrD.OnAlt hd21).trans hx1
  have hfd : shownD r18.dat = r18.Alt.dat := by unfold shownD; rw [if_pos (show  r18.dat.OnAlt = true from by show  r18.OnAlt = true; rw [hx2])]; rfl
  have hgd2 : gridOk r18.Alt.dat = true := hfd ▸ hgs2
  have hgw2 : r18.Alt.W = r18.W ∧ r18.Alt.H = r18.H := ⟨(congrArg GridD.W hfd).symm.trans hsh2.1, (congrArg GridD.H hfd).symm.trans hsh2.2⟩
  refine WC.rG 16 hs24.d1 hs24 hs24 (fun _ hs118 => ?_)
  refine WG.rn [0, 1, 2, 3, 4, 5, 6, 7, 8, 9, 10, 11, 12, 13] hs118 [0, 1, 0, 1, 0] rfl rfl (WG.o1 14 rfl rfl ?_)
  refine WL.cl Tryz.call237 rfl (k131_ r18.Alt _ _ _ _ (ownScrR.ok (B := 549755813888) ho20 (hs118.ow L19) (by rw [hd21]; assumption)).Alt ?_ ?_ ?_ ?_) ?_
  iterate 4 first | assumption | rfl | omega | (refine ⟨?_, ?_, ?_, ?_⟩ <;> omega) | (constructor <;> omega)
  rintro _ whs119 ⟨r120, L1_121, rfl, hs119, ho122, hd123⟩
  replace hs119 := hs118.callF hs119
  refine ⟨_, rfl, ?_⟩
  replace hs119 := St.back [_, _] hs119
  have hsf := hd123
  refine WL.nil ⟨(hs119.rm L1_121), WG.rn [15] (hs119.rm L1_121) [] rfl rfl (WG.oK rfl (WL.st tbk hs119 0 rfl rfl (fun _ hs124 => WL.nil ⟨(hs124.d1.rm L1_121), WH.dn (ibN (retK0 rfl ?_))⟩)))⟩
  obtain ⟨L125, L126, L127, L128, hs133, ho129, ho130, ho131, ho132⟩ := ownScrR.op hs124 ho20
  have hs134 := ((hs133.fb b2).fb b_s)
  obtain ⟨L136, hs135, ho137⟩ := ownScrR.fl hs134 ho129 ho122 ho131 ho132
  have hs138 := ((hs135.fb b2).fb b_s)
  refine ownScrR.retp4 rfl ((hs138.fr L136).fb b_s) ho137 ?_
  · rw [← hr2]; unfold csiD; rw [if_neg e65, if_neg e66, if_neg e67, if_neg e68, if_neg e71, if_neg e100, if_neg e7, if_neg e74, if_neg e75, if_neg e88, if_neg e64, if_pos e80]; show _ = putD r18.dat (gShift (shownD r18.dat) r18.X r18.Y (-argI l 0 1)); rw [show putD r18.dat (gShift (shownD r18.dat) r18.X r18.Y (-argI l 0 1)) = { r18.dat with Alt := gShift r18.Alt.dat r18.X r18.Y (-argI l 0 1) } from by rw [hfd]; unfold putD; rw [if_pos (show  r18.dat.OnAlt = true from by show  r18.OnAlt = true; rw [hx2])]]; exact ScrD.ext' rfl rfl rfl (hsf) rfl rfl rfl rfl rfl rfl rfl rfl rfl rfl rfl rfl rfl rfl rfl
 have e80 : ¬ b = 80 := by have h9 := h96; simpa using h9
 refine WC.seq (fun K139 hK139 => WC.r1 hs24 [] rfl ?_)
 refine WC.cq rfl (fun h140 qh140 => ?_) (fun h140 qh140 => ?_)
 ·have e76 : b = 76 := by have h9 := h140; simpa using h9
  refine WC.skip (hK139 _ _ (WC.condT rfl h140 (WC.sq1 hs24 (WQ.r 12 [1, 0, 1, 0, 1, 0] rfl ?_))))
  refine WQ.call rfl rfl rfl (fun w_ hs_ => (Run.call Tryz.call97 rfl rfl rfl)) (fun w_ hs_ => (k0_ _ _ _ _).mono fun e_ w_ h_ => ⟨h_.1, (hs_ : St _ _ _ _).call0 h_.2⟩) ?_
  refine WQ.nil (fun _ (hs142 : St _ _ _ _) => ?_)
  refine WC.cq rfl (fun h143 qh143 => ?_) (fun h143 qh143 => ?_)
  ·have hwi : within r18.dat.Y r18.dat.Top r18.dat.Bot = true := h143
   have hwj := within_iff.1 hwi
   have htl : 0 ≤ r18.Y ∧ r18.Y ≤ r18.Bot ∧ r18.Bot < (shownD r18.dat).H := by rw [hsh2.2]; simp only [ScrR.dat] at hwj; omega
   refine WC.seq (fun K144 hK144 => WC.rG 19 (hs142.d1.rm L19) hs142 hs142 (fun _ hs145 => ?_))
   refine WG.rn [0, 1, 2, 3, 4, 5, 6, 7, 8, 10, 11, 13, 16, 17] hs145 [1, 1, 0, 1, 0] rfl rfl (WG.o1 9 rfl rfl (WL.makeMap hs145 rfl rfl rfl rfl (fun b146 whs147 hs147 => WL.nil ⟨hs147.d1, ?_⟩)))
   refine WG.all [12, 14] (by kernel_rfl) rfl (WGs.cons (i := 12) rfl rfl ?_ (WGs.cons (i := 14) rfl rfl ?_ WGs.nil))
   ·refine WL.mapPut hs147 0 rfl Tryz.underlying230 Tryz.underlying4 rfl rfl rfl rfl rfl rfl rfl ?_ ?_ (fun whs148 hs148 => ?_)
    · trivial
    · rfl
    refine WL.nil ⟨hs148.d1, WG.o1 14 rfl rfl (WL.mapPut hs148 0 rfl Tryz.underlying230 Tryz.underlying4 rfl rfl rfl rfl rfl rfl rfl ?_ ?_ (fun whs149 hs149 => ?_))⟩
    · trivial
    · rfl
    refine WL.nil ⟨hs149.d1, WG.rn [15] hs149.d1 [] rfl rfl (WG.o1 18 rfl rfl (WL.val rfl rfl rfl (Run.mapGet (v := i64 (-argI l 0 1)) Tryz.underlying230 Tryz.underlying4 rfl rfl rfl (hs149.own _ (nthL_mem (i := 0) rfl)).1 ?_ ?_) ?_))⟩
    · trivial
    · rw [show decide (b = 76) = true from decide_eq_true e76]; exact ⟨_, rfl⟩
    refine WL.nil ⟨hs149.d1, WG.oK rfl ?_⟩
    have hF150 := ((hs149.fr L19).fb b_s)
    refine WL.cl Tryz.call210 rfl (k93_ _ _ _ _ _ r18 _ _ _ _ _ (St.headP hF150) ho20 (St.ownP hF150) (St.nodupP hF150) ?_ ?_ ?_ ?_) ?_
    iterate 4 first | assumption | rfl | omega | (refine ⟨?_, ?_, ?_, ?_⟩ <;> omega) | (constructor <;> omega)
    rintro _ whs151 ⟨r152, L153, rfl, hs151, ho154, hd155⟩
    replace hs151 := St.lendP hF150 hs151
    refine ⟨_, rfl, ?_⟩
    have hs156 := (((hs151.fb b2).fb b146).fb b_s)
    have hrl := hd155
    refine WL.nil ⟨(hs156.d1.d1.rm L153), WH.dn (hK144 _ _ (WC.rG 4 hs156.d1 hs156 hs156 (fun _ hs157 => ?_)))⟩
    refine WG.rn [0, 2, 3] hs157 [2] rfl rfl (WG.all [1, 4] (by kernel_rfl) rfl (WGs.cons (i := 1) rfl rfl ?_ (WGs.consK rfl ?_ WGs.nil)))
    ·refine WL.r 1 hs157 [2] rfl (WL.nil ⟨hs157, WG.oK rfl (WL.st tbk hs157 0 rfl rfl (fun _ hs158 => WL.nil ⟨hs158.d1, WH.rn [5, 6] hs158.d1 [] rfl rfl (WH.o1 7 rfl (WL.st tbk hs158 0 rfl rfl (fun _ hs159 => ?_)))⟩))⟩)
     refine WL.nil ⟨hs159.d1, WH.dn (ibN (retK0 rfl ?_))⟩
     obtain ⟨L160, L161, L162, L163, hs168, ho164, ho165, ho166, ho167⟩ := ownScrR.op hs159 ho154
     have hs169 := (((hs168.fb b2).fb b146).fb b_s)
     obtain ⟨L171, hs170, ho172⟩ := ownScrR.fl hs169 ho164 ho165 ho166 ho167
     have hs173 := (((hs170.fb b2).fb b146).fb b_s)
     refine ownScrR.retp4 rfl ((hs173.fr L171).fb b_s) ho172 ?_
     · rw [← hr2]; unfold csiD; rw [if_neg e65, if_neg e66, if_neg e67, if_neg e68, if_neg e71, if_neg e100, if_neg e7, if_neg e74, if_neg e75, if_neg e88, if_neg e64, if_neg e80, if_pos e76]; unfold linesD; rw [if_pos hwi]; show _ = ({ rollD r18.dat r18.Y r18.Bot (-argI l 0 1) with X := 0, Wrap := false } : ScrD); rw [← hrl]; rfl
    refine WL.st tbk hs157 0 rfl rfl (fun _ hs174 => WL.nil ⟨hs174.d1, WH.rn [1, 5, 6] hs174.d1 [1] rfl rfl (WH.o1 7 rfl (WL.st tbk hs174 0 rfl rfl (fun _ hs175 => WL.nil ⟨hs175.d1, WH.dn (ibN ?_)⟩)))⟩)
    refine retK0 rfl ?_
    obtain ⟨L176, L177, L178, L179, hs184, ho180, ho181, ho182, ho183⟩ := ownScrR.op hs175 ho154
    have hs185 := (((hs184.fb b2).fb b146).fb b_s)
    obtain ⟨L187, hs186, ho188⟩ := ownScrR.fl hs185 ho180 ho181 ho182 ho183
    have hs189 := (((hs186.fb b2).fb b146).fb b_s)
    refine ownScrR.retp4 rfl ((hs189.fr L187).fb b_s) ho188 ?_
    · rw [← hr2]; unfold csiD; rw [if_neg e65, if_neg e66, if_neg e67, if_neg e68, if_neg e71, if_neg e100, if_neg e7, if_neg e74, if_neg e75, if_neg e88, if_neg e64, if_neg e80, if_pos e76]; unfold linesD; rw [if_pos hwi]; show _ = ({ rollD r18.dat r18.Y r18.Bot (-argI l 0 1) with X := 0, Wrap := false } : ScrD); rw [← hrl]; rfl
   refine WL.mapPut hs147 0 rfl Tryz.underlying230 Tryz.underlying4 rfl rfl rfl rfl rfl rfl rfl ?_ ?_ (fun whs190 hs190 => ?_)
   · trivial
   · rfl
   refine WL.nil ⟨hs190.d1, WG.o1 12 rfl rfl (WL.mapPut hs190 0 rfl Tryz.underlying230 Tryz.underlying4 rfl rfl rfl rfl rfl rfl rfl ?_ ?_ (fun whs191 hs191 => ?_))⟩
   · trivial
   · rfl
   refine WL.nil ⟨hs191.d1, WG.rn [15] hs191.d1 [] rfl rfl (WG.o1 18 rfl rfl (WL.val rfl rfl rfl (Run.mapGet (v := i64 (-argI l 0 1)) Tryz.underlying230 Tryz.underlying4 rfl rfl rfl (hs191.own _ (nthL_mem (i := 0) rfl)).1 ?_ ?_) ?_))⟩
   · trivial
   · rw [show decide (b = 76) = true from decide_eq_true e76]; exact ⟨_, rfl⟩
   refine WL.nil ⟨hs191.d1, WG.oK rfl ?_⟩
   have hF192 := ((hs191.fr L19).fb b_s)
   refine WL.cl Tryz.call210 rfl (k93_ _ _ _ _ _ r18 _ _ _ _ _ (St.headP hF192) ho20 (St.ownP hF192) (St.nodupP hF192) ?_ ?_ ?_ ?_) ?_
   iterate 4 first | assumption | rfl | omega | (refine ⟨?_, ?_, ?_, ?_⟩ <;> omega) | (constructor <;> omega)
   rintro _ whs193 ⟨r194, L195, rfl, hs193, ho196, hd197⟩
   replace hs193 := St.lendP hF192 hs193
   refine ⟨_, rfl, ?_⟩
   have hs198 := (((hs193.fb b2).fb b146).fb b_s)
   have hrl := hd197
   refine WL.nil ⟨(hs198.d1.d1.rm L195), WH.dn (hK144 _ _ (WC.rG 4 hs198.d1 hs198 hs198 (fun _ hs199 => ?_)))⟩
   refine WG.rn [0, 2, 3] hs199 [2] rfl rfl (WG.all [1, 4] (by kernel_rfl) rfl (WGs.cons (i := 1) rfl rfl ?_ (WGs.consK rfl ?_ WGs.nil)))
   ·refine WL.r 1 hs199 [2] rfl (WL.nil ⟨hs199, WG.oK rfl (WL.st tbk hs199 0 rfl rfl (fun _ hs200 => WL.nil ⟨hs200.d1, WH.rn [5, 6] hs200.d1 [] rfl rfl (WH.o1 7 rfl (WL.st tbk hs200 0 rfl rfl (fun _ hs201 => ?_)))⟩))⟩)
    refine WL.nil ⟨hs201.d1, WH.dn (ibN (retK0 rfl ?_))⟩
    obtain ⟨L202, L203, L204, L205, hs210, ho206, ho207, ho208, ho209⟩ := ownScrR.op hs201 ho196
    have hs211 := (((hs210.fb b2).fb b146).fb b_s)
    obtain ⟨L213, hs212, ho214⟩ := ownScrR.fl hs211 ho206 ho207 ho208 ho209
    have hs215 := (((hs212.fb b2).fb b146).fb b_s)
    refine ownScrR.retp4 rfl ((hs215.fr L213).fb b_s) ho214 ?_
    · rw [← hr2]; unfold csiD; rw [if_neg e65, if_neg e66, if_neg e67, if_neg e68, if_neg e71, if_neg e100, if_neg e7, if_neg e74, if_neg e75, if_neg e88, if_neg e64, if_neg e80, if_pos e76]; unfold linesD; rw [if_pos hwi]; show _ = ({ rollD r18.dat r18.Y r18.Bot (-argI l 0 1) with X := 0, Wrap := false } : ScrD); rw [← hrl]; rfl
   refine WL.st tbk hs199 0 rfl rfl (fun _ hs216 => WL.nil ⟨hs216.d1, WH.rn [1, 5, 6] hs216.d1 [1] rfl rfl (WH.o1 7 rfl (WL.st tbk hs216 0 rfl rfl (fun _ hs217 => WL.nil ⟨hs217.d1, WH.dn (ibN ?_)⟩)))⟩)
   refine retK0 rfl ?_
   obtain ⟨L218, L219, L220, L221, hs226, ho222, ho223, ho224, ho225⟩ := ownScrR.op hs217 ho196
   have hs227 := (((hs226.fb b2).fb b146).fb b_s)
   obtain ⟨L229, hs228, ho230⟩ := ownScrR.fl hs227 ho222 ho223 ho224 ho225
   have hs231 := (((hs228.fb b2).fb b146).fb b_s)
   refine ownScrR.retp4 rfl ((hs231.fr L229).fb b_s) ho230 ?_
   · rw [← hr2]; unfold csiD; rw [if_neg e65, if_neg e66, if_neg e67, if_neg e68, if_neg e71, if_neg e100, if_neg e7, if_neg e74, if_neg e75, if_neg e88, if_neg e64, if_neg e80, if_pos e76]; unfold linesD; rw [if_pos hwi]; show _ = ({ rollD r18.dat r18.Y r18.Bot (-argI l 0 1) with X := 0, Wrap := false } : ScrD); rw [← hrl]; rfl
  have hwi : ¬ within r18.dat.Y r18.dat.Top r18.dat.Bot = true := by have h9 := h143; show ¬ within r18.Y r18.Top r18.Bot = true; rw [h9]; decide
  refine WC.skip (ibN (retK0 rfl (⟨r18, _, rfl, St.keepP (L1 := L19) ((hs142.fr L19).fb b_s), ho20, ?_⟩)))
  · rw [← hr2]; unfold csiD; rw [if_neg e65, if_neg e66, if_neg e67, if_neg e68, if_neg e71, if_neg e100, if_neg e7, if_neg e74, if_neg e75, if_neg e88, if_neg e64, if_neg e80, if_pos e76]; unfold linesD; rw [if_neg hwi]
 have e76 : ¬ b = 76 := by have h9 := h140; simpa using h9
 refine WC.region (WL.r 2 hs24 [] rfl (WL.nil (hK139 _ _ ?_)))
 refine WC.cq rfl (fun h232 qh232 => ?_) (fun h232 qh232 => ?_)
 ·have e77 : b = 77 := by have h9 := h232; simpa using h9
  refine WC.sq1 hs24 (WQ.r 12 [1, 0, 1, 0, 1, 0] rfl ?_)
  refine WQ.call rfl rfl rfl (fun w_ hs_ => (Run.call Tryz.call97 rfl rfl rfl)) (fun w_ hs_ => (k0_ _ _ _ _).mono fun e_ w_ h_ => ⟨h_.1, (hs_ : St _ _ _ _).call0 h_.2⟩) ?_
  refine WQ.nil (fun _ (hs233 : St _ _ _ _) => ?_)
  refine WC.cq rfl (fun h234 qh234 => ?_) (fun h234 qh234 => ?_)
  ·have hwi : within r18.dat.Y r18.dat.Top r18.dat.Bot = true := h234
   have hwj := within_iff.1 hwi
   have htl : 0 ≤ r18.Y ∧ r18.Y ≤ r18.Bot ∧ r18.Bot < (shownD r18.dat).H := by rw [hsh2.2]; simp only [ScrR.dat] at hwj; omega
   refine WC.seq (fun K235 hK235 => WC.rG 19 (hs233.d1.rm L19) hs233 hs233 (fun _ hs236 => ?_))
   refine WG.rn [0, 1, 2, 3, 4, 5, 6, 7, 8, 10, 11, 13, 16, 17] hs236 [1, 1, 0, 1, 0] rfl rfl (WG.o1 9 rfl rfl (WL.makeMap hs236 rfl rfl rfl rfl (fun b237 whs238 hs238 => WL.nil ⟨hs238.d1, ?_⟩)))
   refine WG.all [12, 14] (by kernel_rfl) rfl (WGs.cons (i := 12) rfl rfl ?_ (WGs.cons (i := 14) rfl rfl ?_ WGs.nil))
   ·refine WL.mapPut hs238 0 rfl Tryz.underlying230 Tryz.underlying4 rfl rfl rfl rfl rfl rfl rfl ?_ ?_ (fun whs239 hs239 => ?_)
    · trivial
    · rfl
    refine WL.nil ⟨hs239.d1, WG.o1 14 rfl rfl (WL.mapPut hs239 0 rfl Tryz.underlying230 Tryz.underlying4 rfl rfl rfl rfl rfl rfl rfl ?_ ?_ (fun whs240 hs240 => ?_))⟩
    · trivial
    · rfl
    refine WL.nil ⟨hs240.d1, WG.rn [15] hs240.d1 [] rfl rfl (WG.o1 18 rfl rfl (WL.val rfl rfl rfl (Run.mapGet (v := i64 (argI l 0 1)) Tryz.underlying230 Tryz.underlying4 rfl rfl rfl (hs240.own _ (nthL_mem (i := 0) rfl)).1 ?_ ?_) ?_))⟩
    · trivial
    · rw [show decide (b = 76) = false from decide_eq_false e76]; exact ⟨_, rfl⟩
    refine WL.nil ⟨hs240.d1, WG.oK rfl ?_⟩
    have hF241 := ((hs240.fr L19).fb b_s)
    refine WL.cl Tryz.call210 rfl (k93_ _ _ _ _ _ r18 _ _ _ _ _ (St.headP hF241) ho20 (St.ownP hF241) (St.nodupP hF241) ?_ ?_ ?_ ?_) ?_
    iterate 4 first | assumption | rfl | omega | (refine ⟨?_, ?_, ?_, ?_⟩ <;> omega) | (constructor <;> omega)
    rintro _ whs242 ⟨r243, L244, rfl, hs242, ho245, hd246⟩
    replace hs242 := St.lendP hF241 hs242
    refine ⟨_, rfl, ?_⟩
    have hs247 := (((hs242.fb b2).fb b237).fb b_s)
    have hrl := hd246
    refine WL.nil ⟨(hs247.d1.d1.rm L244), WH.dn (hK235 _ _ (WC.rG 4 hs247.d1 hs247 hs247 (fun _ hs248 => ?_)))⟩
    refine WG.rn [0, 2, 3] hs248 [2] rfl rfl (WG.all [1, 4] (by kernel_rfl) rfl (WGs.cons (i := 1) rfl rfl ?_ (WGs.consK rfl ?_ WGs.nil)))
    ·refine WL.r 1 hs248 [2] rfl (WL.nil ⟨hs248, WG.oK rfl (WL.st tbk hs248 0 rfl rfl (fun _ hs249 => WL.nil ⟨hs249.d1, WH.rn [5, 6] hs249.d1 [] rfl rfl (WH.o1 7 rfl (WL.st tbk hs249 0 rfl rfl (fun _ hs250 => ?_)))⟩))⟩)
     refine WL.nil ⟨hs250.d1, WH.dn (ibN (retK0 rfl ?_))⟩
     obtain ⟨L251, L252, L253, L254, hs259, ho255, ho256, ho257, ho258⟩ := ownScrR.op hs250 ho245
     have hs260 := (((hs259.fb b2).fb b237).fb b_s)
     obtain ⟨L262, hs261, ho263⟩ := ownScrR.fl hs260 ho255 ho256 ho257 ho258
     have hs264 := (((hs261.fb b2).fb b237).fb b_s)
     refine ownScrR.retp4 rfl ((hs264.fr L262).fb b_s) ho263 ?_
     · rw [← hr2]; unfold csiD; rw [if_neg e65, if_neg e66, if_neg e67, if_neg e68, if_neg e71, if_neg e100, if_neg e7, if_neg e74, if_neg e75, if_neg e88, if_neg e64, if_neg e80, if_neg e76, if_pos e77]; unfold linesD; rw [if_pos hwi]; show _ = ({ rollD r18.dat r18.Y r18.Bot (argI l 0 1) with X := 0, Wrap := false } : ScrD); rw [← hrl]; rfl
    refine WL.st tbk hs248 0 rfl rfl (fun _ hs265 => WL.nil ⟨hs265.d1, WH.rn [1, 5, 6] hs265.d1 [1] rfl rfl (WH.o1 7 rfl (WL.st tbk hs265 0 rfl rfl (fun _ hs266 => WL.nil ⟨hs266.d1, WH.dn (ibN ?_)⟩)))⟩)
    refine retK0 rfl ?_
    obtain ⟨L267, L268, L269, L270, hs275, ho271, ho272, ho273, ho274⟩ := ownScrR.op hs266 ho245
    have hs276 := (((hs275.fb b2).fb b237).fb b_s)
    obtain ⟨L278, hs277, ho279⟩ := ownScrR.fl hs276 ho271 ho272 ho273 ho274
    have hs280 := (((hs277.fb b2).fb b237).fb b_s)
    refine ownScrR.retp4 rfl ((hs280.fr L278).fb b_s) ho279 ?_
    · rw [← hr2]; unfold csiD; rw [if_neg e65, if_neg e66, if_neg e67, if_neg e68, if_neg e71, if_neg e100, if_neg e7, if_neg e74, if_neg e75, if_neg e88, if_neg e64, if_neg e80, if_neg e76, if_pos e77]; unfold linesD; rw [if_pos hwi]; show _ = ({ rollD r18.dat r18.Y r18.Bot (argI l 0 1) with X := 0, Wrap := false } : ScrD); rw [← hrl]; rfl
   refine WL.mapPut hs238 0 rfl Tryz.underlying230 Tryz.underlying4 rfl rfl rfl rfl rfl rfl rfl ?_ ?_ (fun whs281 hs281 => ?_)
   · trivial
   · rfl
   refine WL.nil ⟨hs281.d1, WG.o1 12 rfl rfl (WL.mapPut hs281 0 rfl Tryz.underlying230 Tryz.underlying4 rfl rfl rfl rfl rfl rfl rfl ?_ ?_ (fun whs282 hs282 => ?_))⟩
   · trivial
   · rfl
   refine WL.nil ⟨hs282.d1, WG.rn [15] hs282.d1 [] rfl rfl (WG.o1 18 rfl rfl (WL.val rfl rfl rfl (Run.mapGet (v := i64 (argI l 0 1)) Tryz.underlying230 Tryz.underlying4 rfl rfl rfl (hs282.own _ (nthL_mem (i := 0) rfl)).1 ?_ ?_) ?_))⟩
   · trivial
   · rw [show decide (b = 76) = false from decide_eq_false e76]; exact ⟨_, rfl⟩
   refine WL.nil ⟨hs282.d1, WG.oK rfl ?_⟩
   have hF283 := ((hs282.fr L19).fb b_s)
   refine WL.cl Tryz.call210 rfl (k93_ _ _ _ _ _ r18 _ _ _ _ _ (St.headP hF283) ho20 (St.ownP hF283) (St.nodupP hF283) ?_ ?_ ?_ ?_) ?_
   iterate 4 first | assumption | rfl | omega | (refine ⟨?_, ?_, ?_, ?_⟩ <;> omega) | (constructor <;> omega)
   rintro _ whs284 ⟨r285, L286, rfl, hs284, ho287, hd288⟩
   replace hs284 := St.lendP hF283 hs284
   refine ⟨_, rfl, ?_⟩
   have hs289 := (((hs284.fb b2).fb b237).fb b_s)
   have hrl := hd288
   refine WL.nil ⟨(hs289.d1.d1.rm L286), WH.dn (hK235 _ _ (WC.rG 4 hs289.d1 hs289 hs289 (fun _ hs290 => ?_)))⟩
   refine WG.rn [0, 2, 3] hs290 [2] rfl rfl (WG.all [1, 4] (by kernel_rfl) rfl (WGs.cons (i := 1) rfl rfl ?_ (WGs.consK rfl ?_ WGs.nil)))
   ·refine WL.r 1 hs290 [2] rfl (WL.nil ⟨hs290, WG.oK rfl (WL.st tbk hs290 0 rfl rfl (fun _ hs291 => WL.nil ⟨hs291.d1, WH.rn [5, 6] hs291.d1 [] rfl rfl (WH.o1 7 rfl (WL.st tbk hs291 0 rfl rfl (fun _ hs292 => ?_)))⟩))⟩)
    refine WL.nil ⟨hs292.d1, WH.dn (ibN (retK0 rfl ?_))⟩
    obtain ⟨L293, L294, L295, L296, hs301, ho297, ho298, ho299, ho300⟩ := ownScrR.op hs292 ho287
    have hs302 := (((hs301.fb b2).fb b237).fb b_s)
    obtain ⟨L304, hs303, ho305⟩ := ownScrR.fl hs302 ho297 ho298 ho299 ho300
    have hs306 := (((hs303.fb b2).fb b237).fb b_s)
    refine ownScrR.retp4 rfl ((hs306.fr L304).fb b_s) ho305 ?_
    · rw [← hr2]; unfold csiD; rw [if_neg e65, if_neg e66, if_neg e67, if_neg e68, if_neg e71, if_neg e100, if_neg e7, if_neg e74, if_neg e75, if_neg e88, if_neg e64, if_neg e80, if_neg e76, if_pos e77]; unfold linesD; rw [if_pos hwi]; show _ = ({ rollD r18.dat r18.Y r18.Bot (argI l 0 1) with X := 0, Wrap := false } : ScrD); rw [← hrl]; rfl
   refine WL.st tbk hs290 0 rfl rfl (fun _ hs307 => WL.nil ⟨hs307.d1, WH.rn [1, 5, 6] hs307.d1 [1] rfl rfl (WH.o1 7 rfl (WL.st tbk hs307 0 rfl rfl (fun _ hs308 => WL.nil ⟨hs308.d1, WH.dn (ibN ?_)⟩)))⟩)
   refine retK0 rfl ?_
   obtain ⟨L309, L310, L311, L312, hs317, ho313, ho314, ho315, ho316⟩ := ownScrR.op hs308 ho287
   have hs318 := (((hs317.fb b2).fb b237).fb b_s)
   obtain ⟨L320, hs319, ho321⟩ := ownScrR.fl hs318 ho313 ho314 ho315 ho316
   have hs322 := (((hs319.fb b2).fb b237).fb b_s)
   refine ownScrR.retp4 rfl ((hs322.fr L320).fb b_s) ho321 ?_
   · rw [← hr2]; unfold csiD; rw [if_neg e65, if_neg e66, if_neg e67, if_neg e68, if_neg e71, if_neg e100, if_neg e7, if_neg e74, if_neg e75, if_neg e88, if_neg e64, if_neg e80, if_neg e76, if_pos e77]; unfold linesD; rw [if_pos hwi]; show _ = ({ rollD r18.dat r18.Y r18.Bot (argI l 0 1) with X := 0, Wrap := false } : ScrD); rw [← hrl]; rfl
  have hwi : ¬ within r18.dat.Y r18.dat.Top r18.dat.Bot = true := by have h9 := h234; show ¬ within r18.Y r18.Top r18.Bot = true; rw [h9]; decide
  refine WC.skip (ibN (retK0 rfl (⟨r18, _, rfl, St.keepP (L1 := L19) ((hs233.fr L19).fb b_s), ho20, ?_⟩)))
  · rw [← hr2]; unfold csiD; rw [if_neg e65, if_neg e66, if_neg e67, if_neg e68, if_neg e71, if_neg e100, if_neg e7, if_neg e74, if_neg e75, if_neg e88, if_neg e64, if_neg e80, if_neg e76, if_pos e77]; unfold linesD; rw [if_neg hwi]
 have e77 : ¬ b = 77 := by have h9 := h232; simpa using h9
 refine WC.r1 hs24 [] rfl (WC.cq rfl (fun h323 qh323 => ?_) (fun h323 qh323 => ?_))
 ·have e83 : b = 83 := by have h9 := h323; simpa using h9
  refine WC.region (WL.r 2 hs24 [1] rfl ?_)
  have hF324 := ((hs24.fr L19).fb b_s)
  refine WL.cl Tryz.call209 rfl (k94_ _ _ _ _ _ r18 _ _ _ (St.headP hF324) ho20 (St.ownP hF324) (St.nodupP hF324) ?_ ?_ ?_) ?_
  iterate 3 first | assumption | rfl | omega | (refine ⟨?_, ?_, ?_, ?_⟩ <;> omega) | (constructor <;> omega)
  rintro _ whs325 ⟨r326, L327, rfl, hs325, ho328, hd329⟩
  replace hs325 := St.lendP hF324 hs325
  refine ⟨_, rfl, ?_⟩
  have hs330 := ((hs325.fb b2).fb b_s)
  refine WL.nil (ibN (retK0 rfl (⟨r326, _, rfl, St.keepP (L1 := L327) ((hs330.fr L327).fb b_s), ho328, ?_⟩)))
  · rw [← hr2]; unfold csiD; rw [if_neg e65, if_neg e66, if_neg e67, if_neg e68, if_neg e71, if_neg e100, if_neg e7, if_neg e74, if_neg e75, if_neg e88, if_neg e64, if_neg e80, if_neg e76, if_neg e77, if_pos e83]; exact hd329
 have e83 : ¬ b = 83 := by have h9 := h323; simpa using h9
 refine WC.r1 hs24 [] rfl (WC.cq rfl (fun h331 qh331 => ?_) (fun h331 qh331 => ?_))
 ·have e84 : b = 84 := by have h9 := h331; simpa using h9
  refine WC.rG 11 (hs24.d1.rm L19) hs24 hs24 (fun _ hs332 => ?_)
  refine WG.rn [0, 1, 2, 3, 4, 5, 6, 7, 8, 9, 10] hs332 [1, 1, 0, 1, 0] rfl rfl (WG.oK rfl ?_)
  have hF333 := ((hs332.fr L19).fb b_s)
  refine WL.cl Tryz.call210 rfl (k93_ _ _ _ _ _ r18 _ _ _ _ _ (St.headP hF333) ho20 (St.ownP hF333) (St.nodupP hF333) ?_ ?_ ?_ ?_) ?_
  iterate 4 first | assumption | rfl | omega | (refine ⟨?_, ?_, ?_, ?_⟩ <;> omega) | (constructor <;> omega)
  rintro _ whs334 ⟨r335, L336, rfl, hs334, ho337, hd338⟩
  replace hs334 := St.lendP hF333 hs334
  refine ⟨_, rfl, ?_⟩
  have hs339 := ((hs334.fb b2).fb b_s)
  refine WL.nil ⟨(hs339.d1.rm L336), WH.dn (ibN (retK0 rfl (⟨r335, _, rfl, St.keepP (L1 := L336) ((hs339.fr L336).fb b_s), ho337, ?_⟩)))⟩
  · rw [← hr2]; unfold csiD; rw [if_neg e65, if_neg e66, if_neg e67, if_neg e68, if_neg e71, if_neg e100, if_neg e7, if_neg e74, if_neg e75, if_neg e88, if_neg e64, if_neg e80, if_neg e76, if_neg e77, if_neg e83, if_pos e84]; exact hd338
 have e84 : ¬ b = 84 := by have h9 := h331; simpa using h9
 refine WC.r1 hs24 [] rfl (WC.cq rfl (fun h340 qh340 => ?_) (fun h340 qh340 => ?_))
 ·have e109 : b = 109 := by have h9 := h340; simpa using h9
  refine WC.rG 9 hs24.d1 hs24 hs24 (fun _ hs341 => ?_)
  refine WG.rn [0, 1, 2, 3, 4, 5] hs341 [1, 1, 0] rfl rfl (WG.o1 6 rfl rfl (WL.cl Tryz.call238 rfl (k128_ _ _ _ _ _ _ _ _ _ _ (SlF.st f_l hs341 s_l) ?_ ?_) ?_))
  iterate 2 first | assumption | rfl | omega | (refine ⟨?_, ?_, ?_, ?_⟩ <;> omega) | (constructor <;> omega)
  rintro _ whs342 ⟨r343, rfl, hs342, hr344⟩
  replace hs342 := hs341.callF hs342
  refine ⟨_, rfl, ?_⟩
  rw [List.nil_append] at hs342
  replace hs342 := St.perm hs342 (L' := [_, _] ++ _) pR
  have hsg : r343 = sgrRes r18.A l := hr344
  refine WL.nil ⟨hs342, WG.rn [7, 8] hs342 [] rfl rfl (WG.oK rfl (WL.st tbk hs342 0 rfl rfl (fun _ hs345 => WL.nil ⟨hs345.d1, WH.dn (ibN (retK0 rfl ?_))⟩)))⟩
  obtain ⟨L346, L347, L348, L349, hs354, ho350, ho351, ho352, ho353⟩ := ownScrR.op hs345 ho20
  have hs355 := ((hs354.fb b2).fb b_s)
  obtain ⟨L357, hs356, ho358⟩ := ownScrR.fl hs355 ho350 ho351 ho352 ho353
  have hs359 := ((hs356.fb b2).fb b_s)
  refine ownScrR.retp4 rfl ((hs359.fr L357).fb b_s) ho358 ?_
  · rw [← hr2]; unfold csiD; rw [if_neg e65, if_neg e66, if_neg e67, if_neg e68, if_neg e71, if_neg e100, if_neg e7, if_neg e74, if_neg e75, if_neg e88, if_neg e64, if_neg e80, if_neg e76, if_neg e77, if_neg e83, if_neg e84, if_pos e109]; show _ = ({ r18.dat with A := sgrRes r18.A l } : ScrD); rw [← hsg]; rfl
 have e109 : ¬ b = 109 := by have h9 := h340; simpa using h9
 refine WC.r1 hs24 [] rfl (WC.cq rfl (fun h360 qh360 => ?_) (fun h360 qh360 => ?_))
 ·have e114 : b = 114 := by have h9 := h360; simpa using h9
  refine WC.region (WL.r 3 hs24 [1] rfl ?_)
  have hF361 := ((hs24.fr L19).fb b_s)
  refine WL.cl Tryz.call239 rfl (k121_ _ _ _ _ _ r18 _ _ _ _ _ _ _ (St.headP hF361) ho20 (St.ownP hF361) (SlF.st f_l hs24 s_l) (St.nodupP hF361) (St.sepTP hF361 f_l s_l) ?_ ?_ ?_ ?_) ?_
  iterate 4 first | assumption | rfl | omega | (refine ⟨?_, ?_, ?_, ?_⟩ <;> omega) | (constructor <;> omega)
  rintro _ whs362 ⟨r363, L364, rfl, hs362, ho365, hd366⟩
  replace hs362 := St.lendP hF361 hs362
  refine ⟨_, rfl, ?_⟩
  have hs367 := ((hs362.fb b2).fb b_s)
  refine WL.nil (ibN (retK0 rfl (⟨r363, _, rfl, St.keepP (L1 := L364) ((hs367.fr L364).fb b_s), ho365, ?_⟩)))
  · rw [← hr2]; unfold csiD; rw [if_neg e65, if_neg e66, if_neg e67, if_neg e68, if_neg e71, if_neg e100, if_neg e7, if_neg e74, if_neg e75, if_neg e88, if_neg e64, if_neg e80, if_neg e76, if_neg e77, if_neg e83, if_neg e84, if_neg e109, if_pos e114]; exact hd366
 have e114 : ¬ b = 114 := by have h9 := h360; simpa using h9
 refine WC.r1 hs24 [] rfl (WC.cq rfl (fun h368 qh368 => ?_) (fun h368 qh368 => ?_))
 ·have e103 : b = 103 := by have h9 := h368; simpa using h9
  refine WC.r1 hs24 [] rfl (WC.block (WC.r1 hs24 [] rfl (WC.cq rfl (fun h369 qh369 => ?_) (fun h369 qh369 => ?_))))
  ·have ek0 : argI l 0 0 = 0 := by have h9 := h369; simpa using h9
   refine WC.rG 9 (hs24.d1.rm L19) (hs24.rm L19) hs24 (fun _ hs370 => ?_)
   refine WG.rn [0, 1, 2, 3, 4] (hs370.rm L19) [1, 1, 0] rfl rfl ?_
   refine WG.tk 5 rfl (by kernel_rfl) rfl rfl rfl (hs370.rm L19) (fun w_ hs_ => (Run.makeFunc rfl rfl)) ?_
   refine WG.o1 6 rfl rfl ?_
   obtain ⟨L372, L373, L374, L375, hs380, ho376, ho377, ho378, ho379⟩ := ownScrR.op hs370 ho20
   have hs381 := ((hs380.fb b2).fb b_s)
   refine WL.cl Tryz.call240 rfl (k106_ _ _ _ _ _ _ ho378 (hs381.ow L374) (fun w_ Lx_ hx_ m_ => k132_ _ _ _ _ b2 b_s r18 m_ w_ ((hx_.keep _ (lt_of_heap (hs381.own _ (nthL_mem (i := 1) rfl)).1) (St.sepOwn (hs381.fr L374) (nthL_mem (i := 1) rfl))).trans (hs381.own _ (nthL_mem (i := 1) rfl)).1) ((hx_.keep _ (lt_of_heap (hs381.own _ (nthL_mem (i := 0) rfl)).1) (St.sepOwn (hs381.fr L374) (nthL_mem (i := 0) rfl))).trans (hs381.own _ (nthL_mem (i := 0) rfl)).1) (St.neq hs381 (i := 1) (j := 0) rfl rfl (by decide))) ?_) ?_
   · first | assumption | rfl | omega | (refine ⟨?_, ?_, ?_, ?_⟩ <;> omega) | (constructor <;> omega)
   rintro _ whs371 ⟨A382, c383, n384, xs385, L1_386, rfl, hs371, ho387, hd388⟩
   replace hs371 := St.lend (hs381.fr L374) hs371
   refine ⟨_, rfl, ?_⟩
   replace hs371 := St.back [_, _] hs371
   have hdl := hd388
   refine WL.nil ⟨((((hs371.rm L1_386).rm L372).rm L373).rm L375), WG.rn [7, 8] ((((hs371.rm L1_386).rm L372).rm L373).rm L375) [] rfl rfl (WG.oK rfl (WL.st tbk hs371 0 rfl rfl (fun _ hs389 => WL.nil ⟨((((hs389.d1.rm L1_386).rm L372).rm L373).rm L375), WH.dn (ibN (ibN ?_))⟩)))⟩
   refine retK0 rfl ?_
   obtain ⟨L391, hs390, ho392⟩ := ownScrR.fl hs389 ho376 ho377 ho387 ho379
   have hs393 := ((hs390.fb b2).fb b_s)
   refine ownScrR.retp4 rfl ((hs393.fr L391).fb b_s) ho392 ?_
   · rw [← hr2]; unfold csiD; rw [if_neg e65, if_neg e66, if_neg e67, if_neg e68, if_neg e71, if_neg e100, if_neg e7, if_neg e74, if_neg e75, if_neg e88, if_neg e64, if_neg e80, if_neg e76, if_neg e77, if_neg e83, if_neg e84, if_neg e109, if_neg e114, if_pos e103]; rw [ek0, tabsD_0]; show _ = ({ r18.dat with Tabs := r18.Tabs.xs.filter fun x => !decide (x = r18.X) } : ScrD); rw [← hdl]; rfl
  have ek0 : ¬ argI l 0 0 = 0 := by have h9 := h369; simpa using h9
  refine WC.r1 hs24 [] rfl (WC.cq rfl (fun h394 qh394 => ?_) (fun h394 qh394 => ?_))
  ·have ek3 : argI l 0 0 = 3 := by have h9 := h394; simpa using h9
   refine WC.region (WL.r 3 hs24 [1] rfl (WL.st tbk hs24 0 rfl rfl (fun _ hs395 => WL.nil (ibN (ibN (retK0 rfl ?_))))))
   obtain ⟨L396, L397, L398, L399, hs404, ho400, ho401, ho402, ho403⟩ := ownScrR.op hs395 ho20
   have hs405 := ((hs404.fb b2).fb b_s)
   obtain ⟨L408, hs407, ho409⟩ := ownScrR.fl hs405 ho400 ho401 (OwnF.nil _ _) ho403
   have hs410 := ((hs407.fb b2).fb b_s)
   refine ownScrR.retp4 rfl ((hs410.fr L408).fb b_s) ho409 ?_
   · rw [← hr2]; unfold csiD; rw [if_neg e65, if_neg e66, if_neg e67, if_neg e68, if_neg e71, if_neg e100, if_neg e7, if_neg e74, if_neg e75, if_neg e88, if_neg e64, if_neg e80, if_neg e76, if_neg e77, if_neg e83, if_neg e84, if_neg e109, if_neg e114, if_pos e103]; rw [ek3, tabsD_3]; rfl
  have ek3 : ¬ argI l 0 0 = 3 := by have h9 := h394; simpa using h9
  refine WC.skip (ibN (ibN (retK0 rfl (⟨r18, _, rfl, St.keepP (L1 := L19) ((hs24.fr L19).fb b_s), ho20, ?_⟩))))
  · rw [← hr2]; unfold csiD; rw [if_neg e65, if_neg e66, if_neg e67, if_neg e68, if_neg e71, if_neg e100, if_neg e7, if_neg e74, if_neg e75, if_neg e88, if_neg e64, if_neg e80, if_neg e76, if_neg e77, if_neg e83, if_neg e84, if_neg e109, if_neg e114, if_pos e103]; rw [tabsD_o ek0 ek3]
 have e103 : ¬ b = 103 := by have h9 := h368; simpa using h9
 refine WC.skip (ibN (retK0 rfl (⟨r18, _, rfl, St.keepP (L1 := L19) ((hs24.fr L19).fb b_s), ho20, ?_⟩)))
 · rw [← hr2]; unfold csiD; rw [if_neg e65, if_neg e66, if_neg e67, if_neg e68, if_neg e71, if_neg e100, if_neg e7, if_neg e74, if_neg e75, if_neg e88, if_neg e64, if_neg e80, if_neg e76, if_neg e77, if_neg e83, if_neg e84, if_neg e109, if_neg e114, if_neg e103]
theorem k135_ (u_0 u_1 u_2 u_3 : Value) (b_s : Nat) (s : ScrR) (L_s : Hp) (mark : Bool) (A_l : Option Addr) (n_l c_l : Nat) (l : List Int) (b : Int) (w : World) (hb_s : w.heap[b_s]? = some (oS u_0 u_1 u_2 u_3 s)) (o_s : ownScrR s L_s) (h_s : Hh w L_s) (f_l : SlF encI w A_l n_l l) (hd_ : (b_s :: L_s.map (·.1)).Nodup) (s_l : 0 < n_l → (adr A_l).block ∉ (b_s :: L_s.map (·.1))) (hf : ScrFine s.dat) (hsm : smScr 1048576 s.dat) (hl : areArgs l = true) (hll : n_l ≤ 549755813888) :
    Calls Tryz.prog 103 #[.pointer (some ⟨b_s, 4, none⟩), .bool mark, .slice A_l n_l c_l, i64 b] w fun e w' => ∃ r L1, e = .returned (.tuple #[]) ∧ St w (b_s :: L_s.map (·.1)) ([(b_s, oS u_0 u_1 u_2 u_3 r)] ++ L1) w' ∧ ownScrR r L1 ∧ r.dat = seqD s.dat mark l b := by
 have hsmB : smScr 549755813888 s.dat := smScr_mono hsm (by decide)
 have hln := f_l.len
 refine enter 36 Tryz.func103 rfl Tryz.ntmps103 rfl rfl ?_
 have hs1 := St.takeP w b_s _ L_s hb_s h_s hd_
 refine WC.block (WC.r1 hs1 [] rfl (WC.cq rfl (fun h2 qh2 => ?_) (fun h2 qh2 => ?_)))
 ·have hmk : mark = false := by have h9 := h2; simpa using h9
  refine WC.region (WL.r 3 hs1 [] rfl ?_)
  have hF3 := ((hs1.fr L_s).fb b_s)
  refine WL.cl Tryz.call189 rfl (k134_ _ _ _ _ _ s _ _ _ _ _ _ _ (St.headP hF3) o_s (St.ownP hF3) (SlF.st f_l hs1 s_l) (St.nodupP hF3) (St.sepTP hF3 f_l s_l) ?_ ?_ ?_ ?_) ?_
  iterate 4 first | assumption | omega
  rintro _ whs4 ⟨r5, L6, rfl, hs4, ho7, hd8⟩
  replace hs4 := St.lendP hF3 hs4
  refine ⟨_, rfl, WL.nil (ibN (retK0 rfl (⟨r5, _, rfl, St.keepP (L1 := L6) ((hs4.fr L6).fb b_s), ho7, ?_⟩)))⟩
  · unfold seqD; rw [if_pos hmk]; exact hd8
 have hmk : ¬ mark = false := by have h9 := h2; simpa using h9
 refine WC.sr (WL.r 3 hs1 [] rfl (WL.pO tbk 2 Acts.nil hs1 [] rfl rfl rfl rfl (fun g_ => trivial) (WL.r 1 hs1 [] rfl (WL.nil (WC.cq rfl (fun h9 qh9 => ?_) (fun h9 qh9 => ?_))))))
 ·have hbb : b = 104 ∨ b = 108 := by have h9 := h9; simp at h9; exact h9
  refine WC.r1 hs1 [] rfl (WC.block ?_)
  have hM14 := (St.grp1 (L1 := L_s) [_] ((hs1.fr L_s).fb b_s))
  refine WC.lV [0, 3, 10, 17, 24, 25] rfl hM14 (fun k_ (a_ : Hp) f => ∃ (i : Nat) (r : ScrR) (L12 : Hp), k_ = n_l - i ∧ a_ = [(b_s, oS u_0 u_1 u_2 u_3 r)] ++ L12 ∧ (i ≤ n_l) ∧ (r.dat = modesD s.dat (l.take i) (decide (b = 104))) ∧ ownScrR r L12 ∧ Sub [(26, .int .i64 i)] f) (((fun (i : Nat) => n_l - i) (0))) ?_ ?_
  ·refine ⟨0, s, L_s, rfl, rfl, ?_, ?_, o_s, ⟨rfl, trivial⟩⟩
   · exact Nat.zero_le _
   · rfl
  rintro _ _ f w ⟨i, r, L12, rfl, rfl, p0, p1, ho13, hG⟩ hF hs15
  refine WC.sub _ (hG.app hF) ?_
  clear hG hF
  replace hs15 := St.ungrp1 [_] hs15
  have hfr : ScrFine r.dat := by rw [p1]; exact hf.modes
  have hsmr : smScr 549755813888 r.dat := fine_smB hfr (by decide)
  refine WC.r1 hs15 [] rfl (WC.seq (fun K16 hK16 => ?_))
  refine WC.cq rfl (fun h17 qh17 => ?_) (fun h17 qh17 => ?_)
  ·refine WC.skip (hK16 _ _ (WC.seq (fun K18 hK18 => WC.block (WC.sr ?_))))
   refine WL.val rfl rfl rfl (Run.idxN Tryz.runUnderlying23 Tryz.sizeOf3 rfl rfl rfl ?_ ?_ ?_) ?_
   · exact SlF.some_ (SlF.st f_l hs15 s_l)
   · omega
   · omega
   refine WL.val rfl rfl rfl (Run.load Tryz.isAgg3 rfl rfl (SlF.one1 (SlF.st f_l hs15 s_l) ?_ rfl)) ?_
   · omega
   refine WL.r 1 hs15 [] rfl (WL.nil (WC.region (WL.r 4 hs15 [] rfl ?_)))
   have hF19 := ((hs15.fr L12).fb b_s)
   refine WL.cl Tryz.call190 rfl (k122_ _ _ _ _ _ r _ _ _ _ (St.headP hF19) ho13 (St.ownP hF19) (St.nodupP hF19) ?_ ?_) ?_
   iterate 2 first | assumption | rfl | omega
   rintro _ whs20 ⟨r21, L22, rfl, hs20, ho23, hd24⟩
   replace hs20 := St.lendP hF19 hs20
   refine ⟨_, rfl, WL.nil (hK18 _ _ (WC.region (WL.r 2 hs20 [] rfl (WL.nil (tkN ?_)))))⟩
   have hF25 := (St.grp1 (L1 := L22) [_] ((hs20.fr L22).fb b_s))
   refine ⟨sbF rfl, _, hF25, _, ?_, i + 1, r21, L22, rfl, rfl, ?_, ?_, ho23, ⟨rfl, trivial⟩⟩
   · omega
   · omega
   · rw [hd24, p1]; exact (modesD_take (by omega)).symm
  refine WC.exit (tkE (tkE (ibE (ibN (retK0 rfl (⟨r, _, rfl, St.keepP (L1 := L12) ((hs15.fr L12).fb b_s), ho13, ?_⟩))))))
  · unfold seqD; rw [if_neg hmk, if_pos hbb]; rw [p1, List.take_of_length_le (by omega)]; rfl
 have hbb : ¬ (b = 104 ∨ b = 108) := by have h9 := h9; simp at h9; omega
 refine WC.skip (ibN (retK0 rfl (⟨s, _, rfl, St.keepP (L1 := L_s) ((hs1.fr L_s).fb b_s), o_s, ?_⟩)))
 · unfold seqD; rw [if_neg hmk, if_neg hbb]
theorem built_75_0_1 (x0 : Int) (x1 : Value) (x2 : Value) (x3 : Value) (x4 : Value) (x5 : Value) : Tryz.prog.built 75 [(0, .int .i64 x0), (1, .agg [x1, x2, x3, x4, x5].toArray)] = some (List.toArray [.int .i64 x0, x1, x2, x3, x4, x5]) := by kernel_rfl
theorem k136_ (b_s : Nat) (u_0 u_1 u_2 u_3 u_4 u_5 u_6 u_7 u_8 u_9 u_10 u_11 u_13 u_14 u_15 u_16 u_17 u_18 u_19 u_20 u_21 u_22 u_23 u_24 u_25 u_26 u_27 u_28 u_29 u_30 u_31 u_32 u_33 u_34 : Value) (x : Bool) (w : World) (hb : w.heap[b_s]? = some (Obj.cells (List.toArray (u_0 :: u_1 :: u_2 :: u_3 :: [u_4, u_5, u_6, u_7, u_8, u_9, u_10, u_11, .bool x, u_13, u_14, u_15, u_16, u_17, u_18, u_19, u_20, u_21, u_22, u_23, u_24, u_25, u_26, u_27, u_28, u_29, u_30, u_31, u_32, u_33, u_34])) 35 (0, 0))) (hx : x = false) :
    Calls Tryz.prog 223 #[.pointer (some ⟨b_s, 4, none⟩)] w fun e w' => e = .returned (.pointer (some ⟨b_s, 6, none⟩)) ∧ St w [] [] w' := by
 refine enter 13 Tryz.func223 rfl Tryz.ntmps223 rfl rfl ?_
 have hs1 := St.take1 w b_s _ hb
 refine WC.r1 hs1 [] rfl ?_
 refine WC.seq (fun K2 hK2 => ?_)
 refine WC.r1 hs1 [0] rfl ?_
 refine WC.cq rfl (fun h3 qh3 => ?_) (fun h3 qh3 => ?_)
 ·exfalso; have h9 := h3; rw [hx] at h9; revert h9; decide
 refine WC.skip ?_
 refine hK2 _ _ ?_
 refine WC.r1 hs1 [] rfl ?_
 refine WC.ret ?_
 refine retV1 rfl (resV.tmp rfl) ?_
 refine ⟨rfl, St.untouch hs1 (fun k hk => ?_) (fun p hp_ => ?_)⟩
 · obtain rfl := List.mem_singleton.1 hk; exact ⟨_, List.mem_cons_self⟩
 · obtain rfl := List.mem_singleton.1 hp_; exact hb
theorem k137_ (b_s : Nat) (u_0 u_1 u_2 u_3 u_4 u_5 u_6 u_7 u_8 u_9 u_10 u_11 u_13 u_14 u_15 u_16 u_17 u_18 u_19 u_20 u_21 u_22 u_23 u_24 u_25 u_26 u_27 u_28 u_29 u_30 u_31 u_32 u_33 u_34 : Value) (x : Bool) (w : World) (hb : w.heap[b_s]? = some (Obj.cells (List.toArray (u_0 :: u_1 :: u_2 :: u_3 :: [u_4, u_5, u_6, u_7, u_8, u_9, u_10, u_11, .bool x, u_13, u_14, u_15, u_16, u_17, u_18, u_19, u_20, u_21, u_22, u_23, u_24, u_25, u_26, u_27, u_28, u_29, u_30, u_31, u_32, u_33, u_34])) 35 (0, 0))) (hx : x = true) :
    Calls Tryz.prog 223 #[.pointer (some ⟨b_s, 4, none⟩)] w fun e w' => e = .returned (.pointer (some ⟨b_s, 9, none⟩)) ∧ St w [] [] w' := by
 refine enter 13 Tryz.func223 rfl Tryz.ntmps223 rfl rfl ?_
 have hs1 := St.take1 w b_s _ hb
 refine WC.r1 hs1 [] rfl ?_
 refine WC.seq (fun K2 hK2 => ?_)
 refine WC.r1 hs1 [0] rfl ?_
 refine WC.cq rfl (fun h3 qh3 => ?_) (fun h3 qh3 => ?_)
 ·refine WC.r1 hs1 [] rfl ?_
  refine WC.ret ?_
  refine tkR ?_
  clear hK2
  refine retV1 rfl (resV.tmp rfl) ?_
  refine ⟨rfl, St.untouch hs1 (fun k hk => ?_) (fun p hp_ => ?_)⟩
  · obtain rfl := List.mem_singleton.1 hk; exact ⟨_, List.mem_cons_self⟩
  · obtain rfl := List.mem_singleton.1 hp_; exact hb
 exfalso; have h9 := h3; rw [hx] at h9; revert h9; decide
set_option maxHeartbeats 1000000 in
set_option maxRecDepth 2000 in
theorem k138_ (u_0 u_1 u_2 u_3 : Value) (b_s : Nat) (s : ScrR) (L_s : Hp) (q : Int) (w : World) (hb_s : w.heap[b_s]? = some (oS u_0 u_1 u_2 u_3 s)) (o_s : ownScrR s L_s) (h_s : Hh w L_s) (hd_ : (b_s :: L_s.map (·.1)).Nodup) (hf : ScrFine s.dat) (hsm : smScr 1048576 s.dat) :
    Calls Tryz.prog 172 #[.pointer (some ⟨b_s, 4, none⟩), i64 q] w fun e w' => ∃ r L1, e = .returned (.tuple #[]) ∧ St w (b_s :: L_s.map (·.1)) ([(b_s, oS u_0 u_1 u_2 u_3 r)] ++ L1) w' ∧ ownScrR r L1 ∧ r.dat = runeD s.dat q := by
 have hsmB : smScr 549755813888 s.dat := by first | assumption | exact smScr_mono hsm (by decide)
 refine enter 58 Tryz.func172 rfl Tryz.ntmps172 rfl rfl ?_
 have hs1 := St.takeP w b_s _ L_s hb_s h_s hd_
 refine WC.seq (fun K2 hK2 => WC.r1 hs1 [0] rfl ?_)
 refine WC.jPK [0, 1, 4, 5, 6, 7] rfl ((hs1.fr L_s).fb b_s) (fun o_ L_ => ∃ r : ScrR, o_ = oS u_0 u_1 u_2 u_3 r ∧ ownScrR r L_ ∧ r.dat = (if s.Wrap = true then { downD s.dat with X := 0 } else s.dat)) ?_ ?_
 ·refine WC.cq rfl (fun h3 qh3 => ?_) (fun h3 qh3 => ?_)
  ·have hwr : s.Wrap = true := h3
   refine WC.sr (WL.r 1 hs1 [] rfl ?_)
   have hF4 := ((hs1.fr L_s).fb b_s)
   refine WL.cl Tryz.call151 rfl (k95_ _ _ _ _ _ s _ _ (St.headP hF4) o_s (St.ownP hF4) (St.nodupP hF4) ?_ ?_) ?_
   iterate 2 first | assumption | rfl | omega
   rintro _ whs5 ⟨r6, L7, rfl, hs5, ho8, hd9⟩
   replace hs5 := St.lendP hF4 hs5
   refine ⟨_, rfl, WL.nil (WC.region (WL.r 3 hs5 [] rfl (WL.st tbk hs5 0 rfl rfl (fun _ hs10 => WL.nil ?_))))⟩
   obtain ⟨L11, L12, L13, L14, hs19, ho15, ho16, ho17, ho18⟩ := ownScrR.op hs10 ho8
   have hs20 := (hs19.fb b_s)
   obtain ⟨L22, hs21, ho23⟩ := ownScrR.fl hs20 ho15 ho16 ho17 ho18
   have hs24 := (hs21.fb b_s)
   refine tkN ⟨_, _, ((hs24.fr L22).fb b_s), ⟨⟨r6.W, r6.H, ⟨r6.Main.W, r6.Main.H, SlD.of ho15⟩, ⟨r6.Alt.W, r6.Alt.H, SlD.of ho16⟩, r6.OnAlt, (0), r6.Y, r6.Wrap, ⟨r6.A.Fg, r6.A.Bg, r6.A.Bold, r6.A.Under, r6.A.Turn⟩, r6.Top, r6.Bot, r6.NoWrap, r6.Hide, r6.SaveX, r6.SaveY, ⟨r6.SaveA.Fg, r6.SaveA.Bg, r6.SaveA.Bold, r6.SaveA.Under, r6.SaveA.Turn⟩, SlD.of ho17, r6.Limit, SlD.ofN ho18⟩, rfl, (by exact ho23), ?_⟩, sbF rfl⟩
   · rw [if_pos hwr]; show _ = ({ downD s.dat with X := 0 } : ScrD); rw [← hd9]; rfl
  have hwr : ¬ s.Wrap = true := by have h9 := h3; rw [h9]; decide
  refine WC.skip (tkN ⟨_, _, ((hs1.fr L_s).fb b_s), ⟨s, rfl, o_s, ?_⟩, sbF rfl⟩)
  · rw [if_neg hwr]
 rintro _ L25 _ ⟨r26, rfl, ho27, hd28⟩ hs29 f_ hf_
 refine hK2 _ _ (WC.sub _ hf_ ?_)
 clear hf_
 have hfr : ScrFine r26.dat := by rw [hd28]; split; exact hf.down.x0 rfl; exact hf
 have hsmr : smScr 549755813888 r26.dat := fine_smB hfr (by decide)
 have hwh2 : (1 ≤ r26.W ∧ r26.W ≤ 120) ∧ (1 ≤ r26.H ∧ r26.H ≤ 120) ∧ 1 ≤ r26.W * r26.H ∧ r26.W * r26.H ≤ 4000 := isSize_bnd hfr.size
 have hxy2 : (0 ≤ r26.X ∧ r26.X < r26.W) ∧ 0 ≤ r26.Y ∧ r26.Y < r26.H := hfr.pos
 have hgs2 : gridOk (shownD r26.dat) = true := hfr.shown.1
 have hsh2 : (shownD r26.dat).W = r26.W ∧ (shownD r26.dat).H = r26.H := hfr.shown.2
 have hgl2 := grid_len hgs2
 have hvm : 0 ≤ r26.Y * r26.W := Int.mul_nonneg (by omega) (by omega)
 have hvn : (r26.Y + 1) * r26.W = r26.Y * r26.W + r26.W := by rw [Int.add_mul, Int.one_mul]
 have hvo : (r26.Y + 1) * r26.W ≤ r26.H * r26.W := Int.mul_le_mul_of_nonneg_right (by omega) (by omega)
 rw [Int.mul_comm r26.H r26.W] at hvo
 rcases Bool.eq_false_or_eq_true r26.OnAlt with hx | hx
 ·have hfd : shownD r26.dat = r26.Alt.dat := by unfold shownD; rw [if_pos (show r26.dat.OnAlt = true from by show r26.OnAlt = true; rw [hx])]; rfl
  have hpt : ∀ g9, putD r26.dat g9 = { r26.dat with Alt := g9 } := fun g9 => by unfold putD; rw [if_pos (show r26.dat.OnAlt = true from by show r26.OnAlt = true; rw [hx])]
  have hgw2 : r26.Alt.W = r26.W ∧ r26.Alt.H = r26.H := ⟨(congrArg GridD.W hfd).symm.trans hsh2.1, (congrArg GridD.H hfd).symm.trans hsh2.2⟩
  have hgl3 : (r26.Alt.Cells.xs.length : Int) = r26.W * r26.H := by have h9 := hgl2; rw [hsh2.1, hsh2.2, hfd] at h9; exact h9
  have hnl3 := ownScrR.len ‹ownScrR r26 _›
  have hcp3 := (ownScrR.ok (B := 549755813888) ho27 (hs29.ow L25) hsmr).Alt.Cells_c
  have e0m : r26.Y * r26.Alt.W = r26.Y * r26.W := by rw [hgw2.1]
  have e1m : (r26.Y + 1) * r26.Alt.W = (r26.Y + 1) * r26.W := by rw [hgw2.1]
  refine WC.seq (fun K30 hK30 => WC.rG 20 (hs29.rm L25) hs29 hs29 (fun _ hs31 => ?_))
  refine WG.rn [0, 4, 5, 6, 7, 9, 10, 11, 12, 13, 14, 15, 16, 17] hs31 [0, 0, 0] rfl rfl ?_
  refine WG.tk 18 rfl (by kernel_rfl) rfl rfl rfl hs31 (fun w_ hs_ => (Run.build rfl rfl rfl rfl (built_75_0_1 _ _ _ _ _ _))) ?_
  refine WG.o1 1 rfl rfl ?_
  refine WL.cl Tryz.call223 rfl (k137_ _ _ _ _ _ _ _ _ _ _ _ _ _ _ _ _ _ _ _ _ _ _ _ _ _ _ _ _ _ _ _ _ _ _ _ _ _ (hs31.own _ (nthL_mem (i := 0) rfl)).1 ?_) ?_
  · first | assumption | rfl | omega
  rintro _ whs32 ⟨rfl, hs32⟩
  replace hs32 := hs31.call0 hs32
  refine ⟨_, rfl, WL.nil ⟨hs32, WG.rn [2, 3] hs32 [0] rfl rfl (WG.o1 8 rfl rfl (WL.cl Tryz.call224 rfl (k83_ r26.Alt _ _ (ownScrR.ok (B := 549755813888) ho27 (hs32.ow L25) hsmr).Alt ?_ ?_ ?_ ?_) ?_))⟩⟩
  iterate 4 first | assumption | rfl | omega
  rintro _ whs33 ⟨rfl, hs33⟩
  replace hs33 := hs32.call0 hs33
  refine ⟨_, rfl, WL.nil ⟨hs33, ?_⟩⟩
  refine WG.tk 19 rfl (by kernel_rfl) rfl rfl rfl hs33 (fun w_ hs_ => (Run.idxK (r26.X.toNat) Tryz.runUnderlying26 Tryz.sizeOf75 rfl rfl rfl ?_ ?_ ?_)) ?_
  · exact SlF.some_ (SlF.cutC (lo := (r26.Y * r26.Alt.W).toNat) (hi := ((r26.Y + 1) * r26.Alt.W).toNat) (ownScrR.ok (B := 549755813888) ho27 ((hs_ : St _ _ _ _).ow L25) hsmr).Alt.Cells (by refine ⟨?_, ?_, ?_⟩ <;> (omega)))
  · omega
  · omega
  refine WG.oK rfl ?_
  obtain ⟨L34, L35, L36, L37, hs42, ho38, ho39, ho40, ho41⟩ := ownScrR.op hs33 ho27
  have hs43 := (hs42.fb b_s)
  refine WL.storeC (x' := (⟨q, ⟨r26.A.Fg, r26.A.Bg, r26.A.Bold, r26.A.Under, r26.A.Turn⟩⟩ : CellD)) (lo := (r26.Y * r26.Alt.W).toNat) (hs43.fr L35) ho39 Tryz.sizeOf75 rfl rfl rfl rfl rfl rfl rfl rfl rfl ?_ rfl (fun L44 whs45 hs45 ho46 _ => ?_)
  · omega
  replace hs45 := St.back [_] hs45
  refine WL.nil ⟨((((hs45.rm L44).rm L34).rm L36).rm L37), WH.dn (hK30 _ _ (WC.q1 hs45 [0, 0] rfl (fun _ hs47 => ?_)))⟩
  refine WC.cq rfl (fun h48 qh48 => ?_) (fun h48 qh48 => ?_)
  ·have hlt : r26.dat.X ≠ r26.dat.W - 1 := by show r26.X ≠ r26.W - 1; have h9 := h48; simp at h9; omega
   refine WC.region (WL.r 7 hs47 [0] rfl (WL.st tbk hs47 0 rfl rfl (fun _ hs49 => WL.nil (retK0 rfl ?_))))
   obtain ⟨L51, hs50, ho52⟩ := ownScrR.fl hs49 ho38 ho46 ho40 ho41
   have hs53 := (hs50.fb b_s)
   refine ownScrR.retp4 rfl ((hs53.fr L51).fb b_s) ho52 ?_
   · first | (rw [runeD_lt hd28 hlt, hpt, hfd]; exact ScrD.ext' rfl rfl rfl (fill_one (g := r26.Alt.dat) rfl rfl (by show 0 ≤ r26.X ∧ r26.X < r26.Alt.W; omega) (by show 0 ≤ r26.Y; omega) rfl (by show (r26.Y * r26.Alt.W).toNat + r26.X.toNat < r26.Alt.Cells.xs.length; omega)) rfl rfl rfl rfl rfl rfl rfl rfl rfl rfl rfl rfl rfl rfl rfl) | (rw [runeD_eq hd28 hlt, hpt, hfd]; exact ScrD.ext' rfl rfl rfl (fill_one (g := r26.Alt.dat) rfl rfl (by show 0 ≤ r26.X ∧ r26.X < r26.Alt.W; omega) (by show 0 ≤ r26.Y; omega) rfl (by show (r26.Y * r26.Alt.W).toNat + r26.X.toNat < r26.Alt.Cells.xs.length; omega)) rfl rfl rfl rfl rfl rfl rfl rfl rfl rfl rfl rfl rfl rfl rfl)
  have hlt : r26.dat.X = r26.dat.W - 1 := by show r26.X = r26.W - 1; have h9 := h48; simp at h9; omega
  refine WC.region (WL.r 8 hs47 [0] rfl (WL.st tbk hs47 0 rfl rfl (fun _ hs54 => WL.nil (retK0 rfl ?_))))
  obtain ⟨L56, hs55, ho57⟩ := ownScrR.fl hs54 ho38 ho46 ho40 ho41
  have hs58 := (hs55.fb b_s)
  refine ownScrR.retp4 rfl ((hs58.fr L56).fb b_s) ho57 ?_
  · first | (rw [runeD_lt hd28 hlt, hpt, hfd]; exact ScrD.ext' rfl rfl rfl (fill_one (g := r26.Alt.dat) rfl rfl (by show 0 ≤ r26.X ∧ r26.X < r26.Alt.W; omega) (by show 0 ≤ r26.Y; omega) rfl (by show (r26.Y * r26.Alt.W).toNat + r26.X.toNat < r26.Alt.Cells.xs.length; omega)) rfl rfl rfl rfl rfl rfl rfl rfl rfl rfl rfl rfl rfl rfl rfl) | (rw [runeD_eq hd28 hlt, hpt, hfd]; exact ScrD.ext' rfl rfl rfl (fill_one (g := r26.Alt.dat) rfl rfl (by show 0 ≤ r26.X ∧ r26.X < r26.Alt.W; omega) (by show 0 ≤ r26.Y; omega) rfl (by show (r26.Y * r26.Alt.W).toNat + r26.X.toNat < r26.Alt.Cells.xs.length; omega)) rfl rfl rfl rfl rfl rfl rfl rfl rfl rfl rfl rfl rfl rfl rfl)
 have hfd : shownD r26.dat = r26.Main.dat := by unfold shownD; rw [if_neg (show ¬ r26.dat.OnAlt = true from by show ¬ r26.OnAlt = true; rw [hx]; decide)]; rfl
 have hpt : ∀ g9, putD r26.dat g9 = { r26.dat with Main := g9 } := fun g9 => by unfold putD; rw [if_neg (show ¬ r26.dat.OnAlt = true from by show ¬ r26.OnAlt = true; rw [hx]; decide)]
 have hgw2 : r26.Main.W = r26.W ∧ r26.Main.H = r26.H := ⟨(congrArg GridD.W hfd).symm.trans hsh2.1, (congrArg GridD.H hfd).symm.trans hsh2.2⟩
 have hgl3 : (r26.Main.Cells.xs.length : Int) = r26.W * r26.H := by have h9 := hgl2; rw [hsh2.1, hsh2.2, hfd] at h9; exact h9
 have hnl3 := ownScrR.len ‹ownScrR r26 _›
 have hcp3 := (ownScrR.ok (B := 549755813888) ho27 (hs29.ow L25) hsmr).Main.Cells_c
 have e0m : r26.Y * r26.Main.W = r26.Y * r26.W := by rw [hgw2.1]
 have e1m : (r26.Y + 1) * r26.Main.W = (r26.Y + 1) * r26.W := by rw [hgw2.1]
 refine WC.seq (fun K59 hK59 => WC.rG 20 (hs29.rm L25) hs29 hs29 (fun _ hs60 => ?_))
 refine WG.rn [0, 4, 5, 6, 7, 9, 10, 11, 12, 13, 14, 15, 16, 17] hs60 [0, 0, 0] rfl rfl ?_
 refine WG.tk 18 rfl (by kernel_rfl) rfl rfl rfl hs60 (fun w_ hs_ => (Run.build rfl rfl rfl rfl (built_75_0_1 _ _ _ _ _ _))) ?_
 refine WG.o1 1 rfl rfl ?_
 refine WL.cl Tryz.call223 rfl (k136_ _ _ _ _ _ _ _ _ _ _ _ _ _ _ _ _ _ _ _ _ _ _ _ _ _ _ _ _ _ _ _ _ _ _ _ _ _ (hs60.own _ (nthL_mem (i := 0) rfl)).1 ?_) ?_
 · first | assumption | rfl | omega
 rintro _ whs61 ⟨rfl, hs61⟩
 replace hs61 := hs60.call0 hs61
 refine ⟨_, rfl, WL.nil ⟨hs61, WG.rn [2, 3] hs61 [0] rfl rfl (WG.o1 8 rfl rfl (WL.cl Tryz.call224 rfl (k83_ r26.Main _ _ (ownScrR.ok (B := 549755813888) ho27 (hs61.ow L25) hsmr).Main ?_ ?_ ?_ ?_) ?_))⟩⟩
 iterate 4 first | assumption | rfl | omega
 rintro _ whs62 ⟨rfl, hs62⟩
 replace hs62 := hs61.call0 hs62
 refine ⟨_, rfl, WL.nil ⟨hs62, ?_⟩⟩
 refine WG.tk 19 rfl (by kernel_rfl) rfl rfl rfl hs62 (fun w_ hs_ => (Run.idxK (r26.X.toNat) Tryz.runUnderlying26 Tryz.sizeOf75 rfl rfl rfl ?_ ?_ ?_)) ?_
 · exact SlF.some_ (SlF.cutC (lo := (r26.Y * r26.Main.W).toNat) (hi := ((r26.Y + 1) * r26.Main.W).toNat) (ownScrR.ok (B := 549755813888) ho27 ((hs_ : St _ _ _ _).ow L25) hsmr).Main.Cells (by refine ⟨?_, ?_, ?_⟩ <;> (omega)))
 · omega
 · omega
 refine WG.oK rfl ?_
 obtain ⟨L63, L64, L65, L66, hs71, ho67, ho68, ho69, ho70⟩ := ownScrR.op hs62 ho27
 have hs72 := (hs71.fb b_s)
 refine WL.storeC (x' := (⟨q, ⟨r26.A.Fg, r26.A.Bg, r26.A.Bold, r26.A.Under, r26.A.Turn⟩⟩ : CellD)) (lo := (r26.Y * r26.Main.W).toNat) (hs72.fr L63) ho67 Tryz.sizeOf75 rfl rfl rfl rfl rfl rfl rfl rfl rfl ?_ rfl (fun L73 whs74 hs74 ho75 _ => ?_)
 · omega
 replace hs74 := St.back [_] hs74
 refine WL.nil ⟨((((hs74.rm L73).rm L64).rm L65).rm L66), WH.dn (hK59 _ _ (WC.q1 hs74 [0, 0] rfl (fun _ hs76 => ?_)))⟩
 refine WC.cq rfl (fun h77 qh77 => ?_) (fun h77 qh77 => ?_)
 ·have hlt : r26.dat.X ≠ r26.dat.W - 1 := by show r26.X ≠ r26.W - 1; have h9 := h77; simp at h9; omega
  refine WC.region (WL.r 7 hs76 [0] rfl (WL.st tbk hs76 0 rfl rfl (fun _ hs78 => WL.nil (retK0 rfl ?_))))
  obtain ⟨L80, hs79, ho81⟩ := ownScrR.fl hs78 ho75 ho68 ho69 ho70
  have hs82 := (hs79.fb b_s)
  refine ownScrR.retp4 rfl ((hs82.fr L80).fb b_s) ho81 ?_
  · first | (rw [runeD_lt hd28 hlt, hpt, hfd]; exact ScrD.ext' rfl rfl (fill_one (g := r26.Main.dat) rfl rfl (by show 0 ≤ r26.X ∧ r26.X < r26.Main.W; omega) (by show 0 ≤ r26.Y; omega) rfl (by show (r26.Y * r26.Main.W).toNat + r26.X.toNat < r26.Main.Cells.xs.length; omega)) rfl rfl rfl rfl rfl rfl rfl rfl rfl rfl rfl rfl rfl rfl rfl rfl) | (rw [runeD_eq hd28 hlt, hpt, hfd]; exact ScrD.ext' rfl rfl (fill_one (g := r26.Main.dat) rfl rfl (by show 0 ≤ r26.X ∧ r26.X < r26.Main.W; omega) (by show 0 ≤ r26.Y; omega) rfl (by show (r26.Y * r26.Main.W).toNat + r26.X.toNat < r26.Main.Cells.xs.length; omega)) rfl rfl rfl rfl rfl rfl rfl rfl rfl rfl rfl rfl rfl rfl rfl rfl)
 have hlt : r26.dat.X = r26.dat.W - 1 := by show r26.X = r26.W - 1; have h9 := h77; simp at h9; omega
 refine WC.region (WL.r 8 hs76 [0] rfl (WL.st tbk hs76 0 rfl rfl (fun _ hs83 => WL.nil (retK0 rfl ?_))))
 obtain ⟨L85, hs84, ho86⟩ := ownScrR.fl hs83 ho75 ho68 ho69 ho70
 have hs87 := (hs84.fb b_s)
 refine ownScrR.retp4 rfl ((hs87.fr L85).fb b_s) ho86 ?_
 · first | (rw [runeD_lt hd28 hlt, hpt, hfd]; exact ScrD.ext' rfl rfl (fill_one (g := r26.Main.dat) rfl rfl (by show 0 ≤ r26.X ∧ r26.X < r26.Main.W; omega) (by show 0 ≤ r26.Y; omega) rfl (by show (r26.Y * r26.Main.W).toNat + r26.X.toNat < r26.Main.Cells.xs.length; omega)) rfl rfl rfl rfl rfl rfl rfl rfl rfl rfl rfl rfl rfl rfl rfl rfl) | (rw [runeD_eq hd28 hlt, hpt, hfd]; exact ScrD.ext' rfl rfl (fill_one (g := r26.Main.dat) rfl rfl (by show 0 ≤ r26.X ∧ r26.X < r26.Main.W; omega) (by show 0 ≤ r26.Y; omega) rfl (by show (r26.Y * r26.Main.W).toNat + r26.X.toNat < r26.Main.Cells.xs.length; omega)) rfl rfl rfl rfl rfl rfl rfl rfl rfl rfl rfl rfl rfl rfl rfl rfl)
theorem k139_ (A_s : Option Addr) (n_s c_s : Nat) (s : List Int) (p : Int → Bool) (cv : Value) (w : World) (f_s : SlF encI w A_s n_s s) (hcl : ∀ w1 : World, St w [] [] w1 → ∀ m : Int, Calls Tryz.prog 227 #[i64 m, cv] w1 fun e w2 => e = .returned (.bool (p m)) ∧ St w1 [] [] w2) (hn : n_s ≤ 1048576) :
    Calls Tryz.prog 226 #[.slice A_s n_s c_s, .func (.func 227) #[] #[cv]] w fun e w' => e = .returned (i64 (findI p s)) ∧ St w [] [] w' := by
 refine enter 19 Tryz.func226 rfl Tryz.ntmps226 rfl rfl ?_
 have hs1 := St.init w
 refine WC.r1 hs1 [] rfl (WC.seq (fun K2 hK2 => WC.r1 hs1 [] rfl (WC.block ?_)))
 refine WC.lS [0, 1, 7] rfl hs1 (fun k_ f w' => ∃ (i : Nat), k_ = n_s - i ∧ (i ≤ n_s) ∧ (∀ j, j < i → p (iat s j) = false) ∧ Sub [(8, .int .i64 i)] f) ((fun (i : Nat) => n_s - i) (0)) ?_ ?_
 ·refine ⟨0, rfl, ?_, ?_, ⟨rfl, trivial⟩⟩
  · exact Nat.zero_le _
  · exact fun j hj => absurd hj (by omega)
 clear hs1
 rintro _ f w ⟨i, rfl, p0, p1, hG⟩ hF hs3
 refine WC.sub _ (hG.app hF) ?_
 clear hG hF
 refine WC.r1 hs3 [] rfl (WC.seq (fun K4 hK4 => ?_))
 refine WC.cond rfl (fun h5 => ?_) (fun h5 => ?_)
 ·have qh5 := h5
  try simp only [decide_eq_true_eq, decide_eq_false_iff_not] at qh5
  refine WC.skip (hK4 _ _ (WC.seq (fun K6 hK6 => WC.block (WC.r1 hs3 [] rfl (WC.sr (WL.r 3 hs3 [] rfl ?_))))))
  refine WL.val rfl rfl rfl (Run.idxN Tryz.runUnderlying23 Tryz.sizeOf3 rfl rfl rfl ?_ ?_ ?_) ?_
  · exact SlF.some_ (SlF.st0 f_s hs3)
  · omega
  · omega
  refine WL.val rfl rfl rfl (Run.load Tryz.isAgg3 rfl rfl (SlF.one1 (SlF.st0 f_s hs3) ?_ rfl)) ?_
  · omega
  refine WL.call rfl rfl rfl (Run.callC Tryz.call227 rfl rfl rfl) (hcl _ hs3 _) ?_
  rintro _ whs7 ⟨rfl, hs7⟩
  replace hs7 := hs3.call0 hs7
  refine ⟨_, rfl, WL.nil (WC.cond rfl (fun h8 => ?_) (fun h8 => ?_))⟩
  ·have qh8 := h8
   try simp only [decide_eq_true_eq, decide_eq_false_iff_not] at qh8
   refine WC.r1 hs7 [] rfl (WC.ret (ibR (tkR (tkR (ibR (tkR ?_))))))
   clear hK6 hK2
   refine rtv rfl rfl hs7 ?_
   rw [findI_some (F := encI) (by rw [f_s.len]; omega) p1 h8]
  have qh8 := h8
  try simp only [decide_eq_true_eq, decide_eq_false_iff_not] at qh8
  refine WC.skip (hK6 _ _ (WC.region (WL.r 2 hs7 [] rfl (WL.nil (tkN ?_)))))
  refine ⟨sbF rfl, hs7, _, ?_, i + 1, rfl, ?_, ?_, ⟨rfl, trivial⟩⟩
  · omega
  · omega
  · intro j hj; rcases Nat.lt_or_ge j i with h_ | h_
    · exact p1 j h_
    · obtain rfl : j = i := by omega
      exact h8
 have qh5 := h5
 try simp only [decide_eq_true_eq, decide_eq_false_iff_not] at qh5
 refine WC.exit (hK2 _ _ (WC.r1 hs3 [] rfl (WC.ret (rtv rfl rfl hs3 ?_))))
 rw [findI_none (F := encI) (fun j hj => p1 j (by rw [f_s.len] at hj; omega))]
theorem k140_ (u_0 u_1 u_2 u_3 : Value) (b_p b_s : Nat) (s : ScrR) (m : Int) (w : World) (hp : w.heap[b_p]? = some (Obj.cells (List.toArray [.pointer (some ⟨b_s, 4, none⟩)]) 115 (0, 0))) (hq : w.heap[b_s]? = some (oS u_0 u_1 u_2 u_3 s)) (hne : b_p ≠ b_s) :
    Calls Tryz.prog 227 #[i64 m, .pointer (some ⟨b_p, 0, none⟩)] w fun e w' => e = .returned (.bool (decide (s.X < m))) ∧ St w [] [] w' := by
 refine enter 10 Tryz.func227 rfl Tryz.ntmps227 rfl rfl ?_
 have hs1 := St.take w [(b_p, Obj.cells (List.toArray [.pointer (some ⟨b_s, 4, none⟩)]) 115 (0, 0)), (b_s, oS u_0 u_1 u_2 u_3 s)] (fun p hp_ => by rcases List.mem_cons.1 hp_ with rfl | hp_; exact hp; obtain rfl := List.mem_singleton.1 hp_; exact hq) (by simp [hne])
 refine WC.r1 hs1 [] rfl (WC.r1 hs1 [0, 1] rfl (WC.ret (retV1 rfl (resV.tmp rfl) (⟨rfl, St.untouch hs1 (fun k hk => ?_) (fun p hp_ => ?_)⟩))))
 · rcases List.mem_cons.1 hk with rfl | hk
   · exact ⟨_, List.mem_cons_self⟩
   · obtain rfl := List.mem_singleton.1 hk
     exact ⟨_, List.mem_cons_of_mem _ List.mem_cons_self⟩
 · rcases List.mem_cons.1 hp_ with rfl | hp_
   · exact hp
   · obtain rfl := List.mem_singleton.1 hp_
     exact hq
theorem k141_ (u_0 u_1 u_2 u_3 : Value) (b_s : Nat) (s : ScrR) (L_s : Hp) (b : Int) (w : World) (hb_s : w.heap[b_s]? = some (oS u_0 u_1 u_2 u_3 s)) (o_s : ownScrR s L_s) (h_s : Hh w L_s) (hd_ : (b_s :: L_s.map (·.1)).Nodup) (hf : ScrFine s.dat) (hsm : smScr 1048576 s.dat) :
    Calls Tryz.prog 174 #[.pointer (some ⟨b_s, 4, none⟩), i64 b] w fun e w' => ∃ r L1, e = .returned (.tuple #[]) ∧ St w (b_s :: L_s.map (·.1)) ([(b_s, oS u_0 u_1 u_2 u_3 r)] ++ L1) w' ∧ ownScrR r L1 ∧ r.dat = ctlD s.dat b := by
 have hsmB : smScr 549755813888 s.dat := by first | assumption | exact smScr_mono hsm (by decide)
 have hok9 := hf.ok
 obtain ⟨hb1, hb2, hb3, hb4, hb5, hb6⟩ := scrOk_bnd hok9
 obtain ⟨hm, hma⟩ := scrOk_main hok9
 simp only [ScrR.dat, GridR.dat, List.length_map] at hb1 hb2 hb3 hb4 hb5 hb6
 have hwh : (1 ≤ s.W ∧ s.W ≤ 120) ∧ 1 ≤ s.H ∧ s.H ≤ 120 := ⟨(isSize_bnd hf.size).1, (isSize_bnd hf.size).2.1⟩
 have hxy := hf.pos
 simp only [ScrR.dat, GridR.dat] at hxy
 obtain ⟨_, _, hTl, _⟩ := ownScrR.len o_s
 have hTs : s.Tabs.xs.length ≤ 1048576 := hsm.2.2.1
 refine enter 63 Tryz.func174 rfl Tryz.ntmps174 rfl rfl ?_
 have hs1 := St.takeP w b_s _ L_s hb_s h_s hd_
 refine WC.sr (WL.bx hs1 rfl (fun b2 _ hs3 => WL.nil (WC.r1 hs3 [] rfl (WC.block (WC.r1 hs3 [] rfl ?_)))))
 refine WC.cq rfl (fun h4 qh4 => ?_) (fun h4 qh4 => ?_)
 ·have e8 : b = 8 := by have h9 := h4; simpa using h9
  refine WC.rG 10 ((hs3.fb b_s).d1.rm L_s) hs3 hs3 (fun _ hs5 => ?_)
  refine WG.rn [0, 1, 2, 3, 4, 5, 6, 7, 8, 9] hs5 [0, 0, 1, 0, 1] rfl rfl (WG.oK rfl ?_)
  have hF6 := ((hs5.fr L_s).fb b_s)
  refine WL.cl Tryz.call225 rfl (k119_ _ _ _ _ _ s _ _ _ _ (St.headP hF6) o_s (St.ownP hF6) (St.nodupP hF6) ?_) ?_
  · first | assumption | rfl | omega
  rintro _ whs7 ⟨r8, L9, rfl, hs7, ho10, hd11⟩
  replace hs7 := St.lendP hF6 hs7
  refine ⟨_, rfl, ?_⟩
  have hs12 := ((hs7.fb b2).fb b_s)
  refine WL.nil ⟨(hs12.d1.rm L9), WH.dn (ibN (retK0 rfl (⟨r8, _, rfl, St.keepP (L1 := L9) ((hs12.fr L9).fb b_s), ho10, ?_⟩)))⟩
  · unfold ctlD; rw [if_pos e8]; exact hd11
 have e8 : ¬ b = 8 := by have h9 := h4; simpa using h9
 refine WC.r1 hs3 [] rfl (WC.cq rfl (fun h13 qh13 => ?_) (fun h13 qh13 => ?_))
 ·have e9 : b = 9 := by have h9 := h13; simpa using h9
  refine WC.r1 hs3 [0, 1] rfl (WC.seq (fun K14 hK14 => WC.sr (WL.r 4 hs3 [0, 1] rfl (WL.val rfl rfl rfl (Run.makeFunc rfl rfl) ?_))))
  refine WL.cl Tryz.call226 rfl (k139_ _ _ _ _ _ _ _ (ownScrR.ok (B := 549755813888) o_s (hs3.ow L_s) (by assumption)).Tabs (fun w_ hx_ m_ => k140_ _ _ _ _ b2 b_s s m_ w_ ((hx_.keep _ (lt_of_heap (hs3.own _ (nthL_mem (i := 0) rfl)).1) (by simp)).trans (hs3.own _ (nthL_mem (i := 0) rfl)).1) ((hx_.keep _ (lt_of_heap (hs3.own _ (nthL_mem (i := 1) rfl)).1) (by simp)).trans (hs3.own _ (nthL_mem (i := 1) rfl)).1) (St.neq hs3 (i := 0) (j := 1) rfl rfl (by decide))) ?_) ?_
  · first | assumption | rfl | omega
  rintro _ whs15 ⟨rfl, hs15⟩
  replace hs15 := hs3.call0 hs15
  refine ⟨_, rfl, WL.r 1 hs15 [] rfl (WL.nil (WC.r1 hs15 [] rfl (WC.cq rfl (fun h16 qh16 => ?_) (fun h16 qh16 => ?_))))⟩
  ·have hk0 : 0 ≤ findI (fun n => decide (s.X < n)) s.Tabs.xs := by have h9 := h16; simpa using h9
   have hkn := findI_bnd (p := fun n => decide (s.X < n)) (s := s.Tabs.xs) (by omega)
   have hnt : nextTab s.dat = iat s.Tabs.xs (findI (fun n => decide (s.X < n)) s.Tabs.xs).toNat := by unfold nextTab; exact if_pos hk0
   refine WC.region (WL.r 5 hs15 [0, 1] rfl (WL.val rfl rfl rfl (Run.idxK ((findI (fun n => decide (s.X < n)) s.Tabs.xs).toNat) Tryz.runUnderlying23 Tryz.sizeOf3 rfl rfl rfl ?_ ?_ ?_) ?_))
   · exact SlF.some_ (ownScrR.ok (B := 549755813888) o_s (hs15.ow L_s) (by assumption)).Tabs
   · omega
   · omega
   refine WL.val rfl rfl rfl (Run.load Tryz.isAgg3 rfl rfl (SlF.one1 (ownScrR.ok (B := 549755813888) o_s (hs15.ow L_s) (by assumption)).Tabs ?_ rfl)) ?_
   · omega
   refine WL.r 1 hs15 [] rfl (WL.nil (hK14 _ _ (WC.rG 6 ((hs15.fb b_s).d1.rm L_s) hs15 hs15 (fun _ hs17 => ?_))))
   refine WG.rn [0, 1, 2, 3, 4, 5] hs17 [0, 0, 1] rfl rfl (WG.oK rfl ?_)
   have hF18 := ((hs17.fr L_s).fb b_s)
   refine WL.cl Tryz.call225 rfl (k119_ _ _ _ _ _ s _ _ _ _ (St.headP hF18) o_s (St.ownP hF18) (St.nodupP hF18) ?_) ?_
   · first | assumption | rfl | omega
   rintro _ whs19 ⟨r20, L21, rfl, hs19, ho22, hd23⟩
   replace hs19 := St.lendP hF18 hs19
   refine ⟨_, rfl, ?_⟩
   have hs24 := ((hs19.fb b2).fb b_s)
   refine WL.nil ⟨(hs24.d1.rm L21), WH.dn (ibN (retK0 rfl (⟨r20, _, rfl, St.keepP (L1 := L21) ((hs24.fr L21).fb b_s), ho22, ?_⟩)))⟩
   · unfold ctlD; rw [if_neg e8, if_pos e9]; rw [hnt]; exact hd23
  have hnt : nextTab s.dat = s.W - 1 := by unfold nextTab; exact if_neg (show ¬ 0 ≤ findI (fun n => decide (s.X < n)) s.Tabs.xs by have h9 := h16; simp at h9; omega)
  refine WC.skip (hK14 _ _ (WC.rG 6 ((hs15.fb b_s).d1.rm L_s) hs15 hs15 (fun _ hs25 => ?_)))
  refine WG.rn [0, 1, 2, 3, 4, 5] hs25 [0, 0, 1] rfl rfl (WG.oK rfl ?_)
  have hF26 := ((hs25.fr L_s).fb b_s)
  refine WL.cl Tryz.call225 rfl (k119_ _ _ _ _ _ s _ _ _ _ (St.headP hF26) o_s (St.ownP hF26) (St.nodupP hF26) ?_) ?_
  · first | assumption | rfl | omega
  rintro _ whs27 ⟨r28, L29, rfl, hs27, ho30, hd31⟩
  replace hs27 := St.lendP hF26 hs27
  refine ⟨_, rfl, ?_⟩
  have hs32 := ((hs27.fb b2).fb b_s)
  refine WL.nil ⟨(hs32.d1.rm L29), WH.dn (ibN (retK0 rfl (⟨r28, _, rfl, St.keepP (L1 := L29) ((hs32.fr L29).fb b_s), ho30, ?_⟩)))⟩
  · unfold ctlD; rw [if_neg e8, if_pos e9]; rw [hnt]; exact hd31
 have e9 : ¬ b = 9 := by have h9 := h13; simpa using h9
 refine WC.seq (fun K33 hK33 => WC.r1 hs3 [] rfl ?_)
 refine WC.cq rfl (fun h34 qh34 => ?_) (fun h34 qh34 => ?_)
 ·have e10 : b = 10 := by have h9 := h34; simpa using h9
  refine WC.skip (hK33 _ _ (WC.condT rfl h34 (WC.region (WL.r 1 hs3 [0] rfl ?_))))
  have hF36 := ((hs3.fr L_s).fb b_s)
  refine WL.cl Tryz.call151 rfl (k95_ _ _ _ _ _ s _ _ (St.headP hF36) o_s (St.ownP hF36) (St.nodupP hF36) ?_ ?_) ?_
  iterate 2 first | assumption | rfl | omega
  rintro _ whs37 ⟨r38, L39, rfl, hs37, ho40, hd41⟩
  replace hs37 := St.lendP hF36 hs37
  refine ⟨_, rfl, ?_⟩
  have hs42 := ((hs37.fb b2).fb b_s)
  refine WL.nil (ibN (retK0 rfl (⟨r38, _, rfl, St.keepP (L1 := L39) ((hs42.fr L39).fb b_s), ho40, ?_⟩)))
  · unfold ctlD; rw [if_neg e8, if_neg e9, if_pos (show b = 10 ∨ b = 11 ∨ b = 12 by omega)]; exact hd41
 have e10 : ¬ b = 10 := by have h9 := h34; simpa using h9
 refine WC.r1 hs3 [] rfl (WC.cq rfl (fun h43 qh43 => ?_) (fun h43 qh43 => ?_))
 ·have e11 : b = 11 := by have h9 := h43; simpa using h9
  refine WC.skip (hK33 _ _ (WC.condT rfl h43 (WC.region (WL.r 1 hs3 [0] rfl ?_))))
  have hF45 := ((hs3.fr L_s).fb b_s)
  refine WL.cl Tryz.call151 rfl (k95_ _ _ _ _ _ s _ _ (St.headP hF45) o_s (St.ownP hF45) (St.nodupP hF45) ?_ ?_) ?_
  iterate 2 first | assumption | rfl | omega
  rintro _ whs46 ⟨r47, L48, rfl, hs46, ho49, hd50⟩
  replace hs46 := St.lendP hF45 hs46
  refine ⟨_, rfl, ?_⟩
  have hs51 := ((hs46.fb b2).fb b_s)
  refine WL.nil (ibN (retK0 rfl (⟨r47, _, rfl, St.keepP (L1 := L48) ((hs51.fr L48).fb b_s), ho49, ?_⟩)))
  · unfold ctlD; rw [if_neg e8, if_neg e9, if_pos (show b = 10 ∨ b = 11 ∨ b = 12 by omega)]; exact hd50
 have e11 : ¬ b = 11 := by have h9 := h43; simpa using h9
 refine WC.region (WL.r 2 hs3 [] rfl (WL.nil (hK33 _ _ ?_)))
 refine WC.cq rfl (fun h52 qh52 => ?_) (fun h52 qh52 => ?_)
 ·have e12 : b = 12 := by have h9 := h52; simpa using h9
  refine WC.region (WL.r 1 hs3 [0] rfl ?_)
  have hF53 := ((hs3.fr L_s).fb b_s)
  refine WL.cl Tryz.call151 rfl (k95_ _ _ _ _ _ s _ _ (St.headP hF53) o_s (St.ownP hF53) (St.nodupP hF53) ?_ ?_) ?_
  iterate 2 first | assumption | rfl | omega
  rintro _ whs54 ⟨r55, L56, rfl, hs54, ho57, hd58⟩
  replace hs54 := St.lendP hF53 hs54
  refine ⟨_, rfl, ?_⟩
  have hs59 := ((hs54.fb b2).fb b_s)
  refine WL.nil (ibN (retK0 rfl (⟨r55, _, rfl, St.keepP (L1 := L56) ((hs59.fr L56).fb b_s), ho57, ?_⟩)))
  · unfold ctlD; rw [if_neg e8, if_neg e9, if_pos (show b = 10 ∨ b = 11 ∨ b = 12 by omega)]; exact hd58
 have e12 : ¬ b = 12 := by have h9 := h52; simpa using h9
 refine WC.r1 hs3 [] rfl (WC.cq rfl (fun h60 qh60 => ?_) (fun h60 qh60 => ?_))
 ·have e13 : b = 13 := by have h9 := h60; simpa using h9
  refine WC.rG 5 ((hs3.fb b_s).d1.rm L_s) hs3 hs3 (fun _ hs61 => ?_)
  refine WG.rn [0, 1, 2, 3, 4] hs61 [0, 0, 1] rfl rfl (WG.oK rfl ?_)
  have hF62 := ((hs61.fr L_s).fb b_s)
  refine WL.cl Tryz.call225 rfl (k119_ _ _ _ _ _ s _ _ _ _ (St.headP hF62) o_s (St.ownP hF62) (St.nodupP hF62) ?_) ?_
  · first | assumption | rfl | omega
  rintro _ whs63 ⟨r64, L65, rfl, hs63, ho66, hd67⟩
  replace hs63 := St.lendP hF62 hs63
  refine ⟨_, rfl, ?_⟩
  have hs68 := ((hs63.fb b2).fb b_s)
  refine WL.nil ⟨(hs68.d1.rm L65), WH.dn (ibN (retK0 rfl (⟨r64, _, rfl, St.keepP (L1 := L65) ((hs68.fr L65).fb b_s), ho66, ?_⟩)))⟩
  · unfold ctlD; rw [if_neg e8, if_neg e9, if_neg (show ¬ (b = 10 ∨ b = 11 ∨ b = 12) by omega), if_pos e13]; exact hd67
 have e13 : ¬ b = 13 := by have h9 := h60; simpa using h9
 refine WC.skip (ibN (retK0 rfl (⟨s, _, rfl, St.keepP (L1 := L_s) ((hs3.fr L_s).fb b_s), o_s, ?_⟩)))
 · unfold ctlD; rw [if_neg e8, if_neg e9, if_neg (show ¬ (b = 10 ∨ b = 11 ∨ b = 12) by omega), if_neg e13]
theorem k142_ (u_0 u_1 u_2 u_3 : Value) (b_s : Nat) (s : ScrR) (L_s : Hp) (a : ActR) (w : World) (hb_s : w.heap[b_s]? = some (oS u_0 u_1 u_2 u_3 s)) (o_s : ownScrR s L_s) (h_s : Hh w L_s) (f_a : SlF encI w a.Args.A a.Args.n a.Args.xs) (s_a : 0 < a.Args.n → (adr a.Args.A).block ∉ (b_s :: L_s.map (·.1))) (hd_ : (b_s :: L_s.map (·.1)).Nodup) (hf : ScrFine s.dat) (hsm : smScr 1048576 s.dat) (ha : areArgs a.dat.Args = true) (han : a.Args.n ≤ 549755813888) :
    Calls Tryz.prog 118 #[.pointer (some ⟨b_s, 4, none⟩), .agg #[i64 a.Kind, i64 a.R, .bool a.Mark, .slice a.Args.A a.Args.n a.Args.c]] w fun e w' => ∃ r L1, e = .returned (.tuple #[]) ∧ St w (b_s :: L_s.map (·.1)) ([(b_s, oS u_0 u_1 u_2 u_3 r)] ++ L1) w' ∧ ownScrR r L1 ∧ r.dat = doAct s.dat a.dat := by
 have hsmB : smScr 549755813888 s.dat := by first | assumption | exact smScr_mono hsm (by decide)
 refine enter 37 Tryz.func118 rfl Tryz.ntmps118 rfl rfl ?_
 have hs1 := St.takeP w b_s _ L_s hb_s h_s hd_
 refine WC.sr (WL.bx hs1 rfl (fun b2 _ hs3 => WL.nil (WC.r1 hs3 [0] rfl (WC.block (WC.r1 hs3 [] rfl ?_)))))
 refine WC.cq rfl (fun h4 qh4 => ?_) (fun h4 qh4 => ?_)
 ·have e1 : a.Kind = 1 := by have h9 := h4; simpa using h9
  refine WC.sr (WL.r 2 hs3 [0] rfl (WL.cl Tryz.call171 rfl (k1_ _ _) ?_))
  rintro _ whs5 ⟨rfl, hs5⟩
  replace hs5 := hs3.call0 hs5
  refine ⟨_, rfl, WL.nil (WC.cq rfl (fun h6 qh6 => ?_) (fun h6 qh6 => ?_))⟩
  ·have hsh : shows a.dat.R = true := h6
   refine WC.region (WL.r 3 hs5 [0] rfl ?_)
   have hF7 := ((hs5.fr L_s).fb b_s)
   refine WL.cl Tryz.call172 rfl (k138_ _ _ _ _ _ s _ _ _ (St.headP hF7) o_s (St.ownP hF7) (St.nodupP hF7) ?_ ?_) ?_
   iterate 2 first | assumption | rfl | omega
   rintro _ whs8 ⟨r9, L10, rfl, hs8, ho11, hd12⟩
   replace hs8 := St.lendP hF7 hs8
   refine ⟨_, rfl, ?_⟩
   have hs13 := ((hs8.fb b2).fb b_s)
   refine WL.nil (ibN (retK0 rfl (⟨r9, _, rfl, St.keepP (L1 := L10) ((hs13.fr L10).fb b_s), ho11, ?_⟩)))
   · unfold doAct; rw [if_pos (show a.dat.Kind = 1 from e1), if_pos hsh]; exact hd12
  have hsh : ¬ shows a.dat.R = true := by show ¬ shows a.R = true; have h9 := h6; rw [h9]; decide
  refine WC.skip (ibN (retK0 rfl (⟨s, _, rfl, St.keepP (L1 := L_s) ((hs5.fr L_s).fb b_s), o_s, ?_⟩)))
  · unfold doAct; rw [if_pos (show a.dat.Kind = 1 from e1), if_neg hsh]
 have e1 : ¬ a.Kind = 1 := by have h9 := h4; simpa using h9
 refine WC.r1 hs3 [] rfl (WC.cq rfl (fun h14 qh14 => ?_) (fun h14 qh14 => ?_))
 ·have e2 : a.Kind = 2 := by have h9 := h14; simpa using h9
  refine WC.region (WL.r 3 hs3 [0] rfl ?_)
  have hF15 := ((hs3.fr L_s).fb b_s)
  refine WL.cl Tryz.call174 rfl (k141_ _ _ _ _ _ s _ _ _ (St.headP hF15) o_s (St.ownP hF15) (St.nodupP hF15) ?_ ?_) ?_
  iterate 2 first | assumption | rfl | omega
  rintro _ whs16 ⟨r17, L18, rfl, hs16, ho19, hd20⟩
  replace hs16 := St.lendP hF15 hs16
  refine ⟨_, rfl, ?_⟩
  have hs21 := ((hs16.fb b2).fb b_s)
  refine WL.nil (ibN (retK0 rfl (⟨r17, _, rfl, St.keepP (L1 := L18) ((hs21.fr L18).fb b_s), ho19, ?_⟩)))
  · unfold doAct; rw [if_neg (show ¬ a.dat.Kind = 1 from e1), if_pos (show a.dat.Kind = 2 from e2)]; exact hd20
 have e2 : ¬ a.Kind = 2 := by have h9 := h14; simpa using h9
 refine WC.r1 hs3 [] rfl (WC.cq rfl (fun h22 qh22 => ?_) (fun h22 qh22 => ?_))
 ·have e3 : a.Kind = 3 := by have h9 := h22; simpa using h9
  refine WC.region (WL.r 3 hs3 [0] rfl ?_)
  have hF23 := ((hs3.fr L_s).fb b_s)
  refine WL.cl Tryz.call76 rfl (k104_ _ _ _ _ _ s _ _ _ (St.headP hF23) o_s (St.ownP hF23) (St.nodupP hF23) ?_ ?_) ?_
  iterate 2 first | assumption | rfl | omega
  rintro _ whs24 ⟨r25, L26, rfl, hs24, ho27, hd28⟩
  replace hs24 := St.lendP hF23 hs24
  refine ⟨_, rfl, ?_⟩
  have hs29 := ((hs24.fb b2).fb b_s)
  refine WL.nil (ibN (retK0 rfl (⟨r25, _, rfl, St.keepP (L1 := L26) ((hs29.fr L26).fb b_s), ho27, ?_⟩)))
  · unfold doAct; rw [if_neg (show ¬ a.dat.Kind = 1 from e1), if_neg (show ¬ a.dat.Kind = 2 from e2), if_pos (show a.dat.Kind = 3 from e3)]; exact hd28
 have e3 : ¬ a.Kind = 3 := by have h9 := h22; simpa using h9
 refine WC.r1 hs3 [] rfl (WC.cq rfl (fun h30 qh30 => ?_) (fun h30 qh30 => ?_))
 ·have e4 : a.Kind = 4 := by have h9 := h30; simpa using h9
  refine WC.region (WL.r 7 hs3 [0, 0, 0] rfl ?_)
  have hF31 := ((hs3.fr L_s).fb b_s)
  refine WL.cl Tryz.call103 rfl (k135_ _ _ _ _ _ s _ _ _ _ _ _ _ _ (St.headP hF31) o_s (St.ownP hF31) (SlF.st f_a hs3 s_a) (St.nodupP hF31) (St.sepTP hF31 f_a s_a) ?_ ?_ ?_ ?_) ?_
  iterate 4 first | assumption | omega
  rintro _ whs32 ⟨r33, L34, rfl, hs32, ho35, hd36⟩
  replace hs32 := St.lendP hF31 hs32
  refine ⟨_, rfl, ?_⟩
  have hs37 := ((hs32.fb b2).fb b_s)
  refine WL.nil (ibN (retK0 rfl (⟨r33, _, rfl, St.keepP (L1 := L34) ((hs37.fr L34).fb b_s), ho35, ?_⟩)))
  · unfold doAct; rw [if_neg (show ¬ a.dat.Kind = 1 from e1), if_neg (show ¬ a.dat.Kind = 2 from e2), if_neg (show ¬ a.dat.Kind = 3 from e3), if_pos (show a.dat.Kind = 4 from e4)]; exact hd36
 have e4 : ¬ a.Kind = 4 := by have h9 := h30; simpa using h9
 refine WC.skip (ibN (retK0 rfl (⟨s, _, rfl, St.keepP (L1 := L_s) ((hs3.fr L_s).fb b_s), o_s, ?_⟩)))
 · unfold doAct; rw [if_neg (show ¬ a.dat.Kind = 1 from e1), if_neg (show ¬ a.dat.Kind = 2 from e2), if_neg (show ¬ a.dat.Kind = 3 from e3), if_neg (show ¬ a.dat.Kind = 4 from e4)]
theorem built_25_0_1_2_3 (x0 : Int) (x1 : Bool) (x2 : Option Addr) (x3 : Nat) (x4 : Nat) (x5 : Option Addr) (x6 : Nat) (x7 : Nat) : Tryz.prog.built 25 [(0, .int .i64 x0), (1, .bool x1), (2, .slice x2 x3 x4), (3, .slice x5 x6 x7)] = some (List.toArray [.int .i64 x0, .bool x1, .slice x2 x3 x4, .slice x5 x6 x7]) := by kernel_rfl
theorem k143_ (p : VpR) (w : World) (f_p : okVpR 549755813888 w p) (hsm : smVp 1048576 p.dat) :
    Calls Tryz.prog 200 #[.agg #[i64 p.State, .bool p.Mark, .slice p.Args.A p.Args.n p.Args.c, .slice p.Part.A p.Part.n p.Part.c]] w fun e w' => ∃ r L1, e = .returned (.agg #[i64 r.State, .bool r.Mark, .slice r.Args.A r.Args.n r.Args.c, .slice r.Part.A r.Part.n r.Part.c]) ∧ St w [] L1 w' ∧ ownVpR r L1 ∧ r.dat = p.dat := by
 have nb_p_Args := f_p.Args_n
 have nl_p_Args := f_p.Args.len
 have nb_p_Part := f_p.Part_n
 have nl_p_Part := f_p.Part.len
 have hsB : smVp 549755813888 p.dat := ⟨Nat.le_trans hsm.1 (by decide), Nat.le_trans hsm.2 (by decide)⟩
 have hsa : p.Args.xs.length ≤ 1048576 := hsm.1
 have hsp : p.Part.xs.length ≤ 1048576 := hsm.2
 refine enter 14 Tryz.func200 rfl Tryz.ntmps200 rfl rfl ?_
 have hs1 := St.init w
 refine WC.sr (WL.bx hs1 rfl (fun b2 _ hs3 => WL.al hs3 Tryz.zeroValue25 rfl rfl (fun b4 _ hs5 => WL.nil (WC.seq (fun K6 hK6 => WC.rH hs5.d1 hs5 (fun _ hs7 => ?_))))))
 refine WH.rn [0, 1, 2, 3, 4, 5, 7, 8] hs7.d1 [0, 0, 0, 0] rfl rfl (WH.o1 6 rfl (WL.cl Tryz.call207 rfl (k53_ _ _ _ _ _ (SlF.st0 f_p.Args hs7) ?_) ?_))
 · first | assumption | rfl | omega
 rintro _ whs8 ⟨A9, c10, L1_11, rfl, hs8, ho12⟩
 replace hs8 := hs7.callF hs8
 refine ⟨_, rfl, ?_⟩
 replace hs8 := St.back [_, _] hs8
 refine WL.nil ⟨(hs8.d1.rm L1_11), WH.o1 9 rfl (WL.cl Tryz.call245 rfl (k52_ _ _ _ _ _ (SlF.st0 f_p.Part hs8) ?_) ?_)⟩
 · first | assumption | rfl | omega
 rintro _ whs13 ⟨A14, c15, L1_16, rfl, hs13, ho17⟩
 replace hs13 := hs8.callF hs13
 refine ⟨_, rfl, ?_⟩
 replace hs13 := St.back [_, _] hs13
 refine WL.nil ⟨((hs13.d1.rm L1_16).rm L1_11), ?_⟩
 refine WH.take 10 rfl (by kernel_rfl) rfl rfl rfl ((hs13.d1.rm L1_16).rm L1_11) (fun w_ hs_ => (Run.build rfl rfl rfl rfl (built_25_0_1_2_3 _ _ _ _ _ _ _ _))) ?_
 refine WH.o1 11 rfl (WL.st tbk hs13 0 rfl rfl (fun _ hs18 => WL.nil ⟨((hs18.d1.rm L1_16).rm L1_11), WH.dn (hK6 _ _ (WC.ret (retV1 rfl (resV.cellA tbk hs18 0 rfl rfl rfl rfl) ?_)))⟩))
 obtain ⟨L20, hs19, ho21⟩ := ownVpR.fl hs18 ho12 ho17
 have hs22 := ((hs19.fb b2).fb b4)
 refine ownVpR.ret rfl (St.keep1 (hs22.fr L20)) ho21 ?_
 · exact VpD.ext' rfl rfl rfl rfl
theorem k144_ (p : VpR) (w : World) (f_p : okVpR 549755813888 w p) (hsm : smVp 1048576 p.dat) :
    Calls Tryz.prog 166 #[.agg #[i64 p.State, .bool p.Mark, .slice p.Args.A p.Args.n p.Args.c, .slice p.Part.A p.Part.n p.Part.c]] w fun e w' => ∃ r L1, e = .returned (.agg #[i64 r.State, .bool r.Mark, .slice r.Args.A r.Args.n r.Args.c, .slice r.Part.A r.Part.n r.Part.c]) ∧ St w [] L1 w' ∧ ownVpR r L1 ∧ r.dat = p.dat := by
 have nb_p_Args := f_p.Args_n
 have nl_p_Args := f_p.Args.len
 have nb_p_Part := f_p.Part_n
 have nl_p_Part := f_p.Part.len
 have hsB : smVp 549755813888 p.dat := ⟨Nat.le_trans hsm.1 (by decide), Nat.le_trans hsm.2 (by decide)⟩
 have hsa : p.Args.xs.length ≤ 1048576 := hsm.1
 have hsp : p.Part.xs.length ≤ 1048576 := hsm.2
 refine enter 14 Tryz.func166 rfl Tryz.ntmps166 rfl rfl ?_
 have hs1 := St.init w
 refine WC.sr (WL.bx hs1 rfl (fun b2 _ hs3 => WL.al hs3 Tryz.zeroValue25 rfl rfl (fun b4 _ hs5 => WL.nil (WC.sr (WL.buildF (F := encI) hs5 ([]) Tryz.runUnderlying23 Tryz.sizeOf3 Tryz.zeroValue3 rfl rfl rfl rfl rfl rfl rfl rfl rfl rfl rfl rfl (fun A9 c10 L6 whs7 hs7 ho8 => ?_))))))
 replace hs7 := St.back [_, _] hs7
 refine WL.r 2 hs7 [1] rfl (WL.appendG (hs7.fr L6) ho8 (SlF.src (SlF.st0 f_p.Args hs7) Tryz.underlying23) Tryz.underlying23 inf3 rfl rfl rfl rfl rfl rfl rfl rfl rfl rfl ?_ (fun A14 c15 L11 whs12 hs12 ho13 => ?_))
 · first | omega | (simp; omega)
 replace hs12 := St.back [_, _] hs12
 refine WL.r 1 hs12 [] rfl (WL.st tbk hs12 1 rfl rfl (fun _ hs16 => WL.nil (WC.sr (WL.buildF (F := encB) hs16 ([]) Tryz.runUnderlying22 Tryz.sizeOf5 Tryz.zeroValue5 rfl rfl rfl rfl rfl rfl rfl rfl rfl rfl rfl rfl (fun A20 c21 L17 whs18 hs18 ho19 => ?_)))))
 replace hs18 := St.back [_, _] hs18
 refine WL.r 2 hs18 [1] rfl (WL.appendG (hs18.fr L17) ho19 (SlF.src (SlF.st0 f_p.Part hs18) Tryz.underlying22) Tryz.underlying22 inf5 rfl rfl rfl rfl rfl rfl rfl rfl rfl rfl ?_ (fun A25 c26 L22 whs23 hs23 ho24 => ?_))
 · first | omega | (simp; omega)
 replace hs23 := St.back [_, _] hs23
 refine WL.r 1 hs23 [] rfl (WL.st tbk hs23 1 rfl rfl (fun _ hs27 => WL.nil (WC.sr (WL.r 1 hs27 [1] rfl (WL.st tbk hs27 0 rfl rfl (fun _ hs28 => WL.nil (WC.ret ?_)))))))
 refine retV1 rfl (resV.cellA tbk hs28 0 rfl rfl rfl rfl) ?_
 obtain ⟨L30, hs29, ho31⟩ := ownVpR.fl hs28 ho13 ho24
 have hs32 := ((hs29.fb b2).fb b4)
 refine ownVpR.ret rfl (St.keep1 (hs32.fr L30)) ho31 ?_
 · exact VpD.ext' rfl rfl rfl rfl
theorem built_25 : Tryz.prog.built 25 [] = some (List.toArray [.int .i64 0, .bool false, .slice none 0 0, .slice none 0 0]) := by kernel_rfl
theorem built_59_0_1 (x0 : Int) (x1 : Int) : Tryz.prog.built 59 [(0, .int .i64 x0), (1, .int .i64 x1)] = some (List.toArray [.int .i64 x0, .int .i64 x1, .bool false, .slice none 0 0]) := by kernel_rfl
theorem built_25_3 (x0 : Option Addr) (x1 : Nat) (x2 : Nat) : Tryz.prog.built 25 [(3, .slice x0 x1 x2)] = some (List.toArray [.int .i64 0, .bool false, .slice none 0 0, .slice x0 x1 x2]) := by kernel_rfl
theorem built_59 : Tryz.prog.built 59 [] = some (List.toArray [.int .i64 0, .int .i64 0, .bool false, .slice none 0 0]) := by kernel_rfl
theorem k145_ (A_p : Option Addr) (n_p c_p : Nat) (p : List UInt8) (b : Int) (w : World) (f_p : SlF encB w A_p n_p p) (hn : n_p ≤ 1048576) :
    Calls Tryz.prog 221 #[.slice A_p n_p c_p, i64 b] w fun e w' => ∃ r0 L0 r1 L1, e = .returned (.tuple #[.agg #[i64 r0.State, .bool r0.Mark, .slice r0.Args.A r0.Args.n r0.Args.c, .slice r0.Part.A r0.Part.n r0.Part.c], .agg #[i64 r1.Kind, i64 r1.R, .bool r1.Mark, .slice r1.Args.A r1.Args.n r1.Args.c]]) ∧ St w [] (L0 ++ L1) w' ∧ ownVpR r0 L0 ∧ ownActR r1 L1 ∧ r0.dat = (vpPlain p b).1 ∧ r1.dat = (vpPlain p b).2 := by
 have hpl := f_p.len
 refine enter 49 Tryz.func221 rfl Tryz.ntmps221 rfl rfl ?_
 have hs1 := St.init w
 refine WC.sr (WL.al hs1 Tryz.zeroValue25 rfl rfl (fun b2 _ hs3 => WL.al hs3 Tryz.zeroValue59 rfl rfl (fun b4 _ hs5 => WL.nil (WC.seq (fun K6 hK6 => WC.sr (WL.r 3 hs5 [] rfl (WL.pO tbk 2 Acts.nil hs5 [] rfl rfl rfl rfl (fun g_ => trivial) ?_)))))))
 refine WL.nil (WC.cq rfl (fun h7 qh7 => ?_) (fun h7 qh7 => ?_))
 ·refine WC.sr ?_
  refine WL.val rfl rfl rfl (Run.build rfl rfl rfl rfl (built_25)) (WL.r 1 hs5 [] rfl ?_)
  refine WL.val rfl rfl rfl (Run.build rfl rfl rfl rfl (built_59_0_1 _ _)) (WL.st tbk hs5 1 rfl rfl (fun _ hs8 => WL.st tbk hs8 0 rfl rfl (fun _ hs9 => WL.nil (WC.ret (tkR ?_)))))
  clear hK6
  refine retV2 rfl (resV.cellA tbk hs9 1 rfl rfl rfl rfl) (resV.cellA tbk hs9 0 rfl rfl rfl rfl) ?_
  have hv : vpPlain p b = (vp0, ⟨2, b, false, []⟩) := by unfold vpPlain; rw [if_pos (by simp at qh7; omega)]
  try simp only [List.nil_append] at *
  obtain ⟨L13, hs12, ho14⟩ := ownVpR.fl hs9 (OwnF.nil _ _) (OwnF.nil _ _)
  have hs15 := ((hs12.fb b2).fb b4)
  refine ⟨⟨0, false, ⟨none, 0, 0, []⟩, ⟨none, 0, 0, []⟩⟩, _, ⟨(2), b, false, ⟨none, 0, 0, []⟩⟩, _, rfl, (St.drop ((hs15.fr ([] : Hp)).fr L13) (List.Sublist.append_left (List.sublist_append_left ([] : Hp) _) L13)), ?_, ?_, ?_, ?_⟩
  · exact (by exact ho14)
  · exact (OwnF.nil _ _)
  · rw [hv]; rfl
  · rw [hv]; rfl
 have hn1 : ¬ (b < 32 ∨ b = 127) := by simp at qh7; omega
 refine WC.skip (hK6 _ _ (WC.seq (fun K17 hK17 => WC.r1 hs5 [] rfl ?_)))
 refine WC.cD rfl (fun qh18 => ?_) (fun qh18 => ?_)
 ·refine WC.sr ?_
  refine WL.val rfl rfl rfl (Run.build rfl rfl rfl rfl (built_25)) (WL.r 1 hs5 [] rfl ?_)
  refine WL.val rfl rfl rfl (Run.build rfl rfl rfl rfl (built_59_0_1 _ _)) (WL.st tbk hs5 1 rfl rfl (fun _ hs19 => WL.st tbk hs19 0 rfl rfl (fun _ hs20 => WL.nil (WC.ret (tkR ?_)))))
  clear hK17
  refine retV2 rfl (resV.cellA tbk hs20 1 rfl rfl rfl rfl) (resV.cellA tbk hs20 0 rfl rfl rfl rfl) ?_
  have hv : vpPlain p b = (vp0, ⟨1, b, false, []⟩) := by unfold vpPlain; rw [if_neg (by simp at *; omega), if_pos (by omega)]
  try simp only [List.nil_append] at *
  obtain ⟨L24, hs23, ho25⟩ := ownVpR.fl hs20 (OwnF.nil _ _) (OwnF.nil _ _)
  have hs26 := ((hs23.fb b2).fb b4)
  refine ⟨⟨0, false, ⟨none, 0, 0, []⟩, ⟨none, 0, 0, []⟩⟩, _, ⟨(1), b, false, ⟨none, 0, 0, []⟩⟩, _, rfl, (St.drop ((hs26.fr ([] : Hp)).fr L24) (List.Sublist.append_left (List.sublist_append_left ([] : Hp) _) L24)), ?_, ?_, ?_, ?_⟩
  · exact (by exact ho25)
  · exact (OwnF.nil _ _)
  · rw [hv]; rfl
  · rw [hv]; rfl
 refine WC.skip (hK17 _ _ (WC.sr (WL.buildF (F := encB) hs5 ([]) Tryz.runUnderlying22 Tryz.sizeOf5 Tryz.zeroValue5 rfl rfl rfl rfl rfl rfl rfl rfl rfl rfl rfl rfl (fun A31 c32 L28 whs29 hs29 ho30 => ?_))))
 replace hs29 := St.back [_, _] hs29
 refine WL.r 1 hs29 [] rfl (WL.appendG (hs29.fr L28) ho30 (SlF.src (SlF.st0 f_p hs29) Tryz.underlying22) Tryz.underlying22 inf5 rfl rfl rfl rfl rfl rfl rfl rfl rfl rfl ?_ (fun A36 c37 L33 whs34 hs34 ho35 => ?_))
 · first | omega | (simp; omega)
 replace hs34 := St.back [_, _] hs34
 refine WL.r 2 hs34 [] rfl (WL.buildSlice hs34 Tryz.runUnderlying22 Tryz.sizeOf5 Tryz.zeroValue5 rfl rfl rfl rfl rfl rfl rfl rfl rfl rfl (fun b38 whs39 hs39 => ?_))
 refine WL.appendG (hs39.fr L33) ho35 (srcB1 Tryz.underlying22 (hs39.own _ (nthL_mem (i := 0) rfl)).1) Tryz.underlying22 inf5 rfl rfl rfl rfl rfl rfl rfl rfl rfl rfl ?_ (fun A43 c44 L40 whs41 hs41 ho42 => ?_)
 · first | omega | (simp; omega)
 replace hs41 := St.back [_, _, _] hs41
 refine WL.r 1 hs41 [] rfl (WL.nil (WC.sr (WL.r 1 hs41 [] rfl (WL.cl Tryz.call254 rfl (k107_ _ _ _ _ _ (SlF.ofOwn ho42 (hs41.ow L40)) (OwnF.cap ho42) ?_) ?_))))
 · first | assumption | rfl | omega | (simp; omega)
 rintro _ whs45 ⟨rfl, hs45⟩
 replace hs45 := hs41.call0 hs45
 refine ⟨_, rfl, WL.r 5 hs45 [] rfl (WL.nil (WC.seq (fun K46 hK46 => WC.r1 hs45 [] rfl ?_)))⟩
 refine WC.cD rfl (fun qh47 => ?_) (fun qh47 => ?_)
 ·refine WC.sr ?_
  refine WL.val rfl rfl rfl (Run.build rfl rfl rfl rfl (built_25)) (WL.r 1 hs45 [] rfl ?_)
  refine WL.val rfl rfl rfl (Run.build rfl rfl rfl rfl (built_59_0_1 _ _)) (WL.st tbk hs45 2 rfl rfl (fun _ hs48 => WL.st tbk hs48 1 rfl rfl (fun _ hs49 => WL.nil (WC.ret (tkR ?_)))))
  clear hK46
  refine retV2 rfl (resV.cellA tbk hs49 2 rfl rfl rfl rfl) (resV.cellA tbk hs49 1 rfl rfl rfl rfl) ?_
  have hv : vpPlain p b = (vp0, ⟨1, rvN (runeL (p ++ [ub b])), false, []⟩) := by unfold vpPlain; rw [if_neg hn1, if_neg (by omega), if_pos (by simpa [← Int.ofNat_inj] using qh47)]
  try simp only [List.nil_append] at *
  obtain ⟨L53, hs52, ho54⟩ := ownVpR.fl hs49 (OwnF.nil _ _) (OwnF.nil _ _)
  have hs55 := (((hs52.fb b2).fb b4).fb b38)
  refine ⟨⟨0, false, ⟨none, 0, 0, []⟩, ⟨none, 0, 0, []⟩⟩, _, ⟨(1), _, false, ⟨none, 0, 0, []⟩⟩, _, rfl, (St.drop ((hs55.fr ([] : Hp)).fr L53) (List.Sublist.append_left (List.sublist_append_left ([] : Hp) _) L53)), ?_, ?_, ?_, ?_⟩
  · exact (by exact ho54)
  · exact (OwnF.nil _ _)
  · rw [hv]; rfl
  · rw [hv]; rfl
 have hn3 : ¬ rvS (runeL (p ++ [ub b])) = (p ++ [ub b]).length := by simpa [← Int.ofNat_inj] using qh47
 refine WC.skip (hK46 _ _ (WC.seq (fun K57 hK57 => WC.sr (WL.r 1 hs45 [] rfl ?_))))
 refine WL.cl Tryz.call220 rfl (k109_ _ _ _ _ _ (SlF.ofOwn ho42 (hs45.ow L40)) (OwnF.cap ho42) ?_) ?_
 · first | assumption | rfl | omega | (simp; omega)
 rintro _ whs58 ⟨rfl, hs58⟩
 replace hs58 := hs45.call0 hs58
 refine ⟨_, rfl, WL.nil (WC.cq rfl (fun h59 qh59 => ?_) (fun h59 qh59 => ?_))⟩
 ·refine WC.sr (WL.r 1 hs58 [] rfl ?_)
  refine WL.val rfl rfl rfl (Run.build rfl rfl rfl rfl (built_25_3 _ _ _)) ?_
  refine WL.val rfl rfl rfl (Run.build rfl rfl rfl rfl (built_59)) (WL.st tbk hs58 2 rfl rfl (fun _ hs60 => WL.st tbk hs60 1 rfl rfl (fun _ hs61 => WL.nil (WC.ret (tkR ?_)))))
  clear hK57
  refine retV2 rfl (resV.cellA tbk hs61 2 rfl rfl rfl rfl) (resV.cellA tbk hs61 1 rfl rfl rfl rfl) ?_
  have hv : vpPlain p b = (⟨0, false, [], p ++ [ub b]⟩, act0) := by unfold vpPlain; rw [if_neg hn1, if_neg (by omega), if_neg hn3, if_pos (by simpa using h59)]
  try simp only [List.nil_append] at *
  obtain ⟨L64, hs63, ho65⟩ := ownVpR.fl hs61 (OwnF.nil _ _) ho42
  have hs66 := (((hs63.fb b2).fb b4).fb b38)
  refine ⟨⟨0, false, ⟨none, 0, 0, []⟩, SlD.of ho42⟩, _, ⟨0, 0, false, ⟨none, 0, 0, []⟩⟩, _, rfl, (St.drop ((hs66.fr ([] : Hp)).fr L64) (List.Sublist.append_left (List.sublist_append_left ([] : Hp) _) L64)), ?_, ?_, ?_, ?_⟩
  · exact (by exact ho65)
  · exact (OwnF.nil _ _)
  · rw [hv]; rfl
  · rw [hv]; rfl
 refine WC.skip (hK57 _ _ (WC.sr ?_))
 refine WL.val rfl rfl rfl (Run.build rfl rfl rfl rfl (built_25)) ?_
 refine WL.val rfl rfl rfl (Run.build rfl rfl rfl rfl (built_59_0_1 _ _)) (WL.st tbk hs58 2 rfl rfl (fun _ hs68 => WL.st tbk hs68 1 rfl rfl (fun _ hs69 => WL.nil (WC.ret (retV2 rfl (resV.cellA tbk hs69 2 rfl rfl rfl rfl) (resV.cellA tbk hs69 1 rfl rfl rfl rfl) ?_)))))
 have hv : vpPlain p b = (vp0, ⟨1, 65533, false, []⟩) := by unfold vpPlain; rw [if_neg hn1, if_neg (by omega), if_neg hn3, if_neg (by simpa using h59)]
 try simp only [List.nil_append] at *
 obtain ⟨L73, hs72, ho74⟩ := ownVpR.fl hs69 (OwnF.nil _ _) (OwnF.nil _ _)
 have hs75 := (((hs72.fb b2).fb b4).fb b38)
 refine ⟨⟨0, false, ⟨none, 0, 0, []⟩, ⟨none, 0, 0, []⟩⟩, _, ⟨(1), (65533), false, ⟨none, 0, 0, []⟩⟩, _, rfl, (St.drop ((hs75.fr ([] : Hp)).fr L73) (List.Sublist.append_left (List.sublist_append_left ([] : Hp) _) L73)), ?_, ?_, ?_, ?_⟩
 · exact (by exact ho74)
 · exact (OwnF.nil _ _)
 · rw [hv]; rfl
 · rw [hv]; rfl
theorem k146_ (p : VpR) (b : Int) (w : World) (f_p : okVpR 549755813888 w p) (hn : p.Part.n ≤ 1048576) :
    Calls Tryz.prog 246 #[.agg #[i64 p.State, .bool p.Mark, .slice p.Args.A p.Args.n p.Args.c, .slice p.Part.A p.Part.n p.Part.c], i64 b] w fun e w' => ∃ r0 L0 r1 L1, e = .returned (.tuple #[.agg #[i64 r0.State, .bool r0.Mark, .slice r0.Args.A r0.Args.n r0.Args.c, .slice r0.Part.A r0.Part.n r0.Part.c], .agg #[i64 r1.Kind, i64 r1.R, .bool r1.Mark, .slice r1.Args.A r1.Args.n r1.Args.c]]) ∧ St w [] (L0 ++ L1) w' ∧ ownVpR r0 L0 ∧ ownActR r1 L1 ∧ r0.dat = (vpPlain p.Part.xs b).1 ∧ r1.dat = (vpPlain p.Part.xs b).2 := by
 have nb_p_Args := f_p.Args_n
 have nl_p_Args := f_p.Args.len
 have nb_p_Part := f_p.Part_n
 have nl_p_Part := f_p.Part.len
 have hpl := f_p.Part.len
 refine enter 51 Tryz.func246 rfl Tryz.ntmps246 rfl rfl ?_
 have hs1 := St.init w
 refine WC.sr (WL.bx hs1 rfl (fun b2 _ hs3 => WL.al hs3 Tryz.zeroValue25 rfl rfl (fun b4 _ hs5 => WL.al hs5 Tryz.zeroValue59 rfl rfl (fun b6 _ hs7 => WL.nil (WC.seq (fun K8 hK8 => WC.block (WC.sr ?_)))))))
 refine WL.r 3 hs7 [] rfl (WL.pO tbk 2 Acts.nil hs7 [] rfl rfl rfl rfl (fun g_ => trivial) (WL.r 1 hs7 [] rfl (WL.nil (WC.cq rfl (fun h9 qh9 => ?_) (fun h9 qh9 => ?_)))))
 ·refine WC.sr ?_
  refine WL.val rfl rfl rfl (Run.build rfl rfl rfl rfl (built_25)) (WL.r 1 hs7 [] rfl ?_)
  refine WL.val rfl rfl rfl (Run.build rfl rfl rfl rfl (built_59_0_1 _ _)) (WL.st tbk hs7 1 rfl rfl (fun _ hs10 => WL.st tbk hs10 0 rfl rfl (fun _ hs11 => WL.nil (WC.ret (ibR (tkR ?_))))))
  clear hK8
  refine retV2 rfl (resV.cellA tbk hs11 1 rfl rfl rfl rfl) (resV.cellA tbk hs11 0 rfl rfl rfl rfl) ?_
  have hv : vpPlain p.Part.xs b = (vp0, ⟨2, b, false, []⟩) := by unfold vpPlain; rw [if_pos (by simp at qh9; omega)]
  try simp only [List.nil_append] at *
  obtain ⟨L15, hs14, ho16⟩ := ownVpR.fl hs11 (OwnF.nil _ _) (OwnF.nil _ _)
  have hs17 := (((hs14.fb b2).fb b4).fb b6)
  refine ⟨⟨0, false, ⟨none, 0, 0, []⟩, ⟨none, 0, 0, []⟩⟩, _, ⟨(2), b, false, ⟨none, 0, 0, []⟩⟩, _, rfl, (St.drop ((hs17.fr ([] : Hp)).fr L15) (List.Sublist.append_left (List.sublist_append_left ([] : Hp) _) L15)), ?_, ?_, ?_, ?_⟩
  · exact (by exact ho16)
  · exact (OwnF.nil _ _)
  · rw [hv]; rfl
  · rw [hv]; rfl
 have hn1 : ¬ (b < 32 ∨ b = 127) := by simp at qh9; omega
 refine WC.r1 hs7 [] rfl (WC.cD rfl (fun qh19 => ?_) (fun qh19 => ?_))
 ·refine WC.sr ?_
  refine WL.val rfl rfl rfl (Run.build rfl rfl rfl rfl (built_25)) (WL.r 1 hs7 [] rfl ?_)
  refine WL.val rfl rfl rfl (Run.build rfl rfl rfl rfl (built_59_0_1 _ _)) (WL.st tbk hs7 1 rfl rfl (fun _ hs20 => WL.st tbk hs20 0 rfl rfl (fun _ hs21 => WL.nil (WC.ret (ibR (tkR ?_))))))
  clear hK8
  refine retV2 rfl (resV.cellA tbk hs21 1 rfl rfl rfl rfl) (resV.cellA tbk hs21 0 rfl rfl rfl rfl) ?_
  have hv : vpPlain p.Part.xs b = (vp0, ⟨1, b, false, []⟩) := by unfold vpPlain; rw [if_neg (by simp at *; omega), if_pos (by omega)]
  try simp only [List.nil_append] at *
  obtain ⟨L25, hs24, ho26⟩ := ownVpR.fl hs21 (OwnF.nil _ _) (OwnF.nil _ _)
  have hs27 := (((hs24.fb b2).fb b4).fb b6)
  refine ⟨⟨0, false, ⟨none, 0, 0, []⟩, ⟨none, 0, 0, []⟩⟩, _, ⟨(1), b, false, ⟨none, 0, 0, []⟩⟩, _, rfl, (St.drop ((hs27.fr ([] : Hp)).fr L25) (List.Sublist.append_left (List.sublist_append_left ([] : Hp) _) L25)), ?_, ?_, ?_, ?_⟩
  · exact (by exact ho26)
  · exact (OwnF.nil _ _)
  · rw [hv]; rfl
  · rw [hv]; rfl
 refine WC.skip (hK8 _ _ (WC.sr (WL.r 2 hs7 [2] rfl ?_)))
 refine WL.cl Tryz.call245 rfl (k52_ _ _ _ _ _ (SlF.st0 f_p.Part hs7) ?_) ?_
 · first | assumption | rfl | omega | (simp; omega)
 rintro _ whs29 ⟨A30, c31, L1_32, rfl, hs29, ho33⟩
 replace hs29 := hs7.callF hs29
 refine ⟨_, rfl, ?_⟩
 replace hs29 := St.back [_, _, _] hs29
 refine WL.r 2 hs29 [] rfl (WL.buildSlice hs29 Tryz.runUnderlying22 Tryz.sizeOf5 Tryz.zeroValue5 rfl rfl rfl rfl rfl rfl rfl rfl rfl rfl (fun b34 whs35 hs35 => ?_))
 refine WL.appendG (hs35.fr L1_32) ho33 (srcB1 Tryz.underlying22 (hs35.own _ (nthL_mem (i := 0) rfl)).1) Tryz.underlying22 inf5 rfl rfl rfl rfl rfl rfl rfl rfl rfl rfl ?_ (fun A39 c40 L36 whs37 hs37 ho38 => ?_)
 · first | omega | (simp; omega)
 replace hs37 := St.back [_, _, _, _] hs37
 refine WL.r 1 hs37 [] rfl (WL.nil (WC.seq (fun K41 hK41 => WC.sr (WL.r 1 hs37 [] rfl ?_))))
 refine WL.cl Tryz.call257 rfl (k54_ _ _ _ _ _ (SlF.ofOwn ho38 (hs37.ow L36)) (OwnF.cap ho38) ?_) ?_
 · first | assumption | rfl | omega | (simp; omega)
 rintro _ whs42 ⟨rfl, hs42⟩
 replace hs42 := hs37.call0 hs42
 refine ⟨_, rfl, WL.r 5 hs42 [] rfl (WL.nil (WC.r1 hs42 [] rfl (WC.cD rfl (fun qh43 => ?_) (fun qh43 => ?_))))⟩
 ·refine WC.sr ?_
  refine WL.val rfl rfl rfl (Run.build rfl rfl rfl rfl (built_25)) (WL.r 1 hs42 [] rfl ?_)
  refine WL.val rfl rfl rfl (Run.build rfl rfl rfl rfl (built_59_0_1 _ _)) (WL.st tbk hs42 2 rfl rfl (fun _ hs44 => WL.st tbk hs44 1 rfl rfl (fun _ hs45 => WL.nil (WC.ret (tkR ?_)))))
  clear hK41
  refine retV2 rfl (resV.cellA tbk hs45 2 rfl rfl rfl rfl) (resV.cellA tbk hs45 1 rfl rfl rfl rfl) ?_
  have hv : vpPlain p.Part.xs b = (vp0, ⟨1, rvN (runeL (p.Part.xs ++ [ub b])), false, []⟩) := by unfold vpPlain; rw [if_neg hn1, if_neg (by omega), if_pos (by simpa [← Int.ofNat_inj] using qh43)]
  try simp only [List.nil_append] at *
  obtain ⟨L49, hs48, ho50⟩ := ownVpR.fl hs45 (OwnF.nil _ _) (OwnF.nil _ _)
  have hs51 := ((((hs48.fb b2).fb b4).fb b6).fb b34)
  refine ⟨⟨0, false, ⟨none, 0, 0, []⟩, ⟨none, 0, 0, []⟩⟩, _, ⟨(1), _, false, ⟨none, 0, 0, []⟩⟩, _, rfl, (St.drop ((hs51.fr ([] : Hp)).fr L49) (List.Sublist.append_left (List.sublist_append_left ([] : Hp) _) L49)), ?_, ?_, ?_, ?_⟩
  · exact (by exact ho50)
  · exact (OwnF.nil _ _)
  · rw [hv]; rfl
  · rw [hv]; rfl
 have hn3 : ¬ rvS (runeL (p.Part.xs ++ [ub b])) = (p.Part.xs ++ [ub b]).length := by simpa [← Int.ofNat_inj] using qh43
 refine WC.skip (hK41 _ _ (WC.seq (fun K53 hK53 => WC.sr (WL.r 1 hs42 [] rfl ?_))))
 refine WL.cl Tryz.call242 rfl (k108_ _ _ _ _ _ (SlF.ofOwn ho38 (hs42.ow L36)) (OwnF.cap ho38) ?_) ?_
 · first | assumption | rfl | omega | (simp; omega)
 rintro _ whs54 ⟨rfl, hs54⟩
 replace hs54 := hs42.call0 hs54
 refine ⟨_, rfl, WL.nil (WC.cq rfl (fun h55 qh55 => ?_) (fun h55 qh55 => ?_))⟩
 ·refine WC.sr (WL.r 1 hs54 [] rfl ?_)
  refine WL.val rfl rfl rfl (Run.build rfl rfl rfl rfl (built_25_3 _ _ _)) ?_
  refine WL.val rfl rfl rfl (Run.build rfl rfl rfl rfl (built_59)) (WL.st tbk hs54 2 rfl rfl (fun _ hs56 => WL.st tbk hs56 1 rfl rfl (fun _ hs57 => WL.nil (WC.ret (tkR ?_)))))
  clear hK53
  refine retV2 rfl (resV.cellA tbk hs57 2 rfl rfl rfl rfl) (resV.cellA tbk hs57 1 rfl rfl rfl rfl) ?_
  have hv : vpPlain p.Part.xs b = (⟨0, false, [], p.Part.xs ++ [ub b]⟩, act0) := by unfold vpPlain; rw [if_neg hn1, if_neg (by omega), if_neg hn3, if_pos (by simpa using h55)]
  try simp only [List.nil_append] at *
  obtain ⟨L60, hs59, ho61⟩ := ownVpR.fl hs57 (OwnF.nil _ _) ho38
  have hs62 := ((((hs59.fb b2).fb b4).fb b6).fb b34)
  refine ⟨⟨0, false, ⟨none, 0, 0, []⟩, SlD.of ho38⟩, _, ⟨0, 0, false, ⟨none, 0, 0, []⟩⟩, _, rfl, (St.drop ((hs62.fr ([] : Hp)).fr L60) (List.Sublist.append_left (List.sublist_append_left ([] : Hp) _) L60)), ?_, ?_, ?_, ?_⟩
  · exact (by exact ho61)
  · exact (OwnF.nil _ _)
  · rw [hv]; rfl
  · rw [hv]; rfl
 refine WC.skip (hK53 _ _ (WC.sr ?_))
 refine WL.val rfl rfl rfl (Run.build rfl rfl rfl rfl (built_25)) ?_
 refine WL.val rfl rfl rfl (Run.build rfl rfl rfl rfl (built_59_0_1 _ _)) (WL.st tbk hs54 2 rfl rfl (fun _ hs64 => WL.st tbk hs64 1 rfl rfl (fun _ hs65 => WL.nil (WC.ret (retV2 rfl (resV.cellA tbk hs65 2 rfl rfl rfl rfl) (resV.cellA tbk hs65 1 rfl rfl rfl rfl) ?_)))))
 have hv : vpPlain p.Part.xs b = (vp0, ⟨1, 65533, false, []⟩) := by unfold vpPlain; rw [if_neg hn1, if_neg (by omega), if_neg hn3, if_neg (by simpa using h55)]
 try simp only [List.nil_append] at *
 obtain ⟨L69, hs68, ho70⟩ := ownVpR.fl hs65 (OwnF.nil _ _) (OwnF.nil _ _)
 have hs71 := ((((hs68.fb b2).fb b4).fb b6).fb b34)
 refine ⟨⟨0, false, ⟨none, 0, 0, []⟩, ⟨none, 0, 0, []⟩⟩, _, ⟨(1), (65533), false, ⟨none, 0, 0, []⟩⟩, _, rfl, (St.drop ((hs71.fr ([] : Hp)).fr L69) (List.Sublist.append_left (List.sublist_append_left ([] : Hp) _) L69)), ?_, ?_, ?_, ?_⟩
 · exact (by exact ho70)
 · exact (OwnF.nil _ _)
 · rw [hv]; rfl
 · rw [hv]; rfl
theorem k147_ (p : VpR) (d : Int) (w : World) (f_p : okVpR 549755813888 w p) (hsm : smVp 1048576 p.dat) (hok : areArgs p.dat.Args = true) (hd : 0 ≤ d ∧ d ≤ 9) :
    Calls Tryz.prog 258 #[.agg #[i64 p.State, .bool p.Mark, .slice p.Args.A p.Args.n p.Args.c, .slice p.Part.A p.Part.n p.Part.c], i64 d] w fun e w' => ∃ r L1, e = .returned (.agg #[i64 r.State, .bool r.Mark, .slice r.Args.A r.Args.n r.Args.c, .slice r.Part.A r.Part.n r.Part.c]) ∧ St w [] L1 w' ∧ ownVpR r L1 ∧ r.dat = vpDigit p.dat d := by
 have nb_p_Args := f_p.Args_n
 have nl_p_Args := f_p.Args.len
 have nb_p_Part := f_p.Part_n
 have nl_p_Part := f_p.Part.len
 have hsB : smVp 549755813888 p.dat := ⟨Nat.le_trans hsm.1 (by decide), Nat.le_trans hsm.2 (by decide)⟩
 have hsa : p.Args.xs.length ≤ 1048576 := hsm.1
 have hsp : p.Part.xs.length ≤ 1048576 := hsm.2
 refine enter 32 Tryz.func258 rfl Tryz.ntmps258 rfl rfl ?_
 have hs1 := St.init w
 refine WC.sr (WL.bx hs1 rfl (fun b2 _ hs3 => WL.al hs3 Tryz.zeroValue25 rfl rfl (fun b4 _ hs5 => WL.nil (WC.sr (WL.r 1 hs5 [1] rfl ?_)))))
 refine WL.cl Tryz.call200 rfl (k143_ p _ (okVpR.st0 f_p hs5) ?_) ?_
 · first | assumption | rfl | omega
 rintro _ whs6 ⟨r7, L1_8, rfl, hs6, ho9, hd10⟩
 replace hs6 := hs5.callF hs6
 refine ⟨_, rfl, ?_⟩
 replace hs6 := St.back [_, _] hs6
 have hlr := ownVpR.len ho9
 have hxr : r7.Args.xs = p.Args.xs := congrArg VpD.Args hd10
 have hpr : r7.Part.xs = p.Part.xs := congrArg VpD.Part hd10
 have hxp : p.dat.Args = p.Args.xs := rfl
 have hlx : r7.Args.xs.length = p.Args.xs.length := by rw [hxr]
 have hly : r7.Part.xs.length = p.Part.xs.length := by rw [hpr]
 refine WL.al hs6 Tryz.zeroValue25 rfl rfl (fun b11 _ hs12 => WL.st tbk hs12 0 rfl rfl (fun _ hs13 => WL.nil (WC.seq (fun K14 hK14 => WC.r1 hs13 [0] rfl ?_))))
 refine WC.cD rfl (fun qh15 => ?_) (fun qh15 => ?_)
 ·have gb : gat encI [0] ((([0] : List Int).length : Int) - 1).toNat = 0 := rfl
  refine WC.region (WL.buildF (F := encI) hs13 ([0]) Tryz.runUnderlying23 Tryz.sizeOf3 Tryz.zeroValue3 rfl rfl rfl rfl rfl rfl rfl rfl rfl rfl rfl rfl (fun A19 c20 L16 whs17 hs17 ho18 => ?_))
  replace hs17 := St.back [_, _, _] hs17
  refine WL.r 1 hs17 [] rfl (WL.st tbk hs17 0 rfl rfl (fun _ hs21 => WL.nil (hK14 _ _ (WC.sr ?_))))
  refine WL.run tbk 6 hs21 [0, 0] rfl ⟨by first | omega | (simp; done) | (simp; omega) | omega, rfl, rfl, trivial⟩ (WL.val rfl rfl rfl (Run.idx Tryz.runUnderlying23 Tryz.sizeOf3 rfl rfl rfl ?_ ?_ ?_) ?_)
  · exact SlF.some_ (SlF.ofOwn ho18 (hs21.ow L16))
  · first | omega | (simp; done) | (simp; omega) | omega
  · first | omega | (simp; done) | (simp; omega) | omega
  refine WL.r 1 hs21 [] rfl (WL.nil (WC.sr (WL.r 3 hs21 [] rfl (WL.val rfl rfl rfl (Run.load Tryz.isAgg3 rfl rfl (SlF.one1 (SlF.ofOwn ho18 (hs21.ow L16)) ?_ rfl)) ?_))))
  · first | omega | (simp; done) | (simp; omega) | omega
  refine WL.run tbk 5 hs21 [] rfl ⟨by first | omega | (simp; done) | (simp; omega) | omega, by first | omega | (simp; done) | (simp; omega) | omega, trivial⟩ (WL.storeF1 (x' := _) (hs21.fr L16) ho18 Tryz.sizeOf3 rfl rfl rfl rfl rfl rfl rfl rfl rfl ?_ rfl (fun L22 whs23 hs23 ho24 _ => ?_))
  · first | omega | (simp; done) | (simp; omega) | omega
  replace hs23 := St.back [_, _, _] hs23
  refine WL.nil (WC.sr (WL.r 1 hs23 [0] rfl (WL.st tbk hs23 1 rfl rfl (fun _ hs25 => WL.nil (WC.ret (retV1 rfl (resV.cellA tbk hs25 1 rfl rfl rfl rfl) ?_))))))
  obtain ⟨L26, L27, hs30, ho28, ho29⟩ := ownVpR.op hs25 ho9
  have hs31 := (((hs30.fb b2).fb b4).fb b11)
  obtain ⟨L33, hs32, ho34⟩ := ownVpR.fl hs31 ho24 ho29
  have hs35 := (((hs32.fb b2).fb b4).fb b11)
  refine ownVpR.ret rfl (St.keep1 (hs35.fr L33)) ho34 ?_
  · show VpD.mk r7.State r7.Mark _ r7.Part.xs = _
    rw [← hd10, vpDigit_A (show r7.dat.Args.length = 0 from (by omega : r7.Args.xs.length = 0))]; rfl
 have gb := areArgs_gat (k := ((r7.Args.n : Int) - 1).toNat) hok (by rw [hxp, ← hxr]; omega)
 rw [hxp, ← hxr] at gb
 refine WC.skip (hK14 _ _ (WC.sr ?_))
 refine WL.run tbk 6 hs13 [0, 0] rfl ⟨by first | omega | (simp; done) | (simp; omega) | omega, rfl, rfl, trivial⟩ (WL.val rfl rfl rfl (Run.idx Tryz.runUnderlying23 Tryz.sizeOf3 rfl rfl rfl ?_ ?_ ?_) ?_)
 · exact SlF.some_ (ownVpR.ok (B := 549755813888) ho9 (hs13.ow L1_8) (by rw [hd10]; assumption)).Args
 · first | omega | (simp; done) | (simp; omega) | omega
 · first | omega | (simp; done) | (simp; omega) | omega
 refine WL.r 1 hs13 [] rfl (WL.nil (WC.sr (WL.r 3 hs13 [] rfl ?_)))
 refine WL.val rfl rfl rfl (Run.load Tryz.isAgg3 rfl rfl (SlF.one1 (ownVpR.ok (B := 549755813888) ho9 (hs13.ow L1_8) (by rw [hd10]; assumption)).Args ?_ rfl)) ?_
 · first | omega | (simp; done) | (simp; omega) | omega
 refine WL.run tbk 5 hs13 [] rfl ⟨by first | omega | (simp; done) | (simp; omega) | omega, by first | omega | (simp; done) | (simp; omega) | omega, trivial⟩ ?_
 obtain ⟨L36, L37, hs40, ho38, ho39⟩ := ownVpR.op hs13 ho9
 have hs41 := (((hs40.fb b2).fb b4).fb b11)
 refine WL.storeF1 (x' := _) (hs41.fr L36) ho38 Tryz.sizeOf3 rfl rfl rfl rfl rfl rfl rfl rfl rfl ?_ rfl (fun L42 whs43 hs43 ho44 _ => ?_)
 · first | omega | (simp; done) | (simp; omega) | omega
 replace hs43 := St.back [_, _, _] hs43
 refine WL.nil (WC.sr (WL.r 1 hs43 [0] rfl (WL.st tbk hs43 1 rfl rfl (fun _ hs45 => WL.nil (WC.ret (retV1 rfl (resV.cellA tbk hs45 1 rfl rfl rfl rfl) ?_))))))
 obtain ⟨L47, hs46, ho48⟩ := ownVpR.fl hs45 ho44 ho39
 have hs49 := (((hs46.fb b2).fb b4).fb b11)
 refine ownVpR.ret rfl (St.keep1 (hs49.fr L47)) ho48 ?_
 · show VpD.mk r7.State r7.Mark (r7.Args.xs.set ((r7.Args.n : Int) - 1).toNat (min 9999 (10 * gat encI r7.Args.xs ((r7.Args.n : Int) - 1).toNat + d))) r7.Part.xs = _
   rw [← hd10, vpDigit_B (show ¬ r7.dat.Args.length = 0 from (by omega : ¬ r7.Args.xs.length = 0)), show ((r7.Args.n : Int) - 1).toNat = r7.Args.xs.length - 1 by omega]; rfl
theorem k148_ (p : VpR) (w : World) (f_p : okVpR 549755813888 w p) (hsm : smVp 1048576 p.dat) (hok : areArgs p.dat.Args = true) :
    Calls Tryz.prog 259 #[.agg #[i64 p.State, .bool p.Mark, .slice p.Args.A p.Args.n p.Args.c, .slice p.Part.A p.Part.n p.Part.c]] w fun e w' => ∃ r L1, e = .returned (.agg #[i64 r.State, .bool r.Mark, .slice r.Args.A r.Args.n r.Args.c, .slice r.Part.A r.Part.n r.Part.c]) ∧ St w [] L1 w' ∧ ownVpR r L1 ∧ r.dat = vpNext p.dat := by
 have nb_p_Args := f_p.Args_n
 have nl_p_Args := f_p.Args.len
 have nb_p_Part := f_p.Part_n
 have nl_p_Part := f_p.Part.len
 have hsB : smVp 549755813888 p.dat := ⟨Nat.le_trans hsm.1 (by decide), Nat.le_trans hsm.2 (by decide)⟩
 have hsa : p.Args.xs.length ≤ 1048576 := hsm.1
 have hsp : p.Part.xs.length ≤ 1048576 := hsm.2
 refine enter 27 Tryz.func259 rfl Tryz.ntmps259 rfl rfl ?_
 have hs1 := St.init w
 refine WC.sr (WL.bx hs1 rfl (fun b2 _ hs3 => WL.al hs3 Tryz.zeroValue25 rfl rfl (fun b4 _ hs5 => WL.nil (WC.sr (WL.r 1 hs5 [1] rfl ?_)))))
 refine WL.cl Tryz.call200 rfl (k143_ p _ (okVpR.st0 f_p hs5) ?_) ?_
 · first | assumption | rfl | omega
 rintro _ whs6 ⟨r7, L1_8, rfl, hs6, ho9, hd10⟩
 replace hs6 := hs5.callF hs6
 refine ⟨_, rfl, ?_⟩
 replace hs6 := St.back [_, _] hs6
 have hlr := ownVpR.len ho9
 have hxr : r7.Args.xs = p.Args.xs := congrArg VpD.Args hd10
 have hpr : r7.Part.xs = p.Part.xs := congrArg VpD.Part hd10
 have hxp : p.dat.Args = p.Args.xs := rfl
 have hlx : r7.Args.xs.length = p.Args.xs.length := by rw [hxr]
 have hly : r7.Part.xs.length = p.Part.xs.length := by rw [hpr]
 refine WL.al hs6 Tryz.zeroValue25 rfl rfl (fun b11 _ hs12 => WL.st tbk hs12 0 rfl rfl (fun _ hs13 => WL.nil (WC.seq (fun K14 hK14 => WC.r1 hs13 [0] rfl ?_))))
 refine WC.cD rfl (fun qh15 => ?_) (fun qh15 => ?_)
 ·refine WC.region (WL.buildF (F := encI) hs13 ([0]) Tryz.runUnderlying23 Tryz.sizeOf3 Tryz.zeroValue3 rfl rfl rfl rfl rfl rfl rfl rfl rfl rfl rfl rfl (fun A19 c20 L16 whs17 hs17 ho18 => ?_))
  replace hs17 := St.back [_, _, _] hs17
  refine WL.r 1 hs17 [] rfl (WL.st tbk hs17 0 rfl rfl (fun _ hs21 => WL.nil (hK14 _ _ (WC.seq (fun K22 hK22 => WC.sr (WL.r 2 hs21 [0] rfl (WL.buildSlice hs21 Tryz.runUnderlying23 Tryz.sizeOf3 Tryz.zeroValue3 rfl rfl rfl rfl rfl rfl rfl rfl rfl rfl (fun b23 whs24 hs24 => ?_))))))))
  refine WL.appendG (hs24.fr L16) ho18 (srcI1 Tryz.underlying23 (hs24.own _ (nthL_mem (i := 0) rfl)).1) Tryz.underlying23 inf3 rfl rfl rfl rfl rfl rfl rfl rfl rfl rfl ?_ (fun A28 c29 L25 whs26 hs26 ho27 => ?_)
  · first | omega | (simp; done) | (simp; omega) | omega
  replace hs26 := St.back [_, _, _, _] hs26
  refine WL.r 1 hs26 [] rfl (WL.st tbk hs26 1 rfl rfl (fun _ hs30 => WL.nil (WC.r1 hs30 [1] rfl ?_)))
  refine WC.cD rfl (fun qh31 => ?_) (fun qh31 => ?_)
  ·refine WC.rH (hs30.fb b11).d1 hs30 (fun _ hs32 => ?_)
   refine WH.rn [0] (hs32.fb b11).d1 [] rfl rfl (WH.o1 1 rfl (WL.r 1 hs32 [1] rfl (WL.nil ⟨(hs32.fb b11).d1, ?_⟩)))
   have ho33 := OwnF.take (k := 8) ho27 (by first | omega | (simp at *; done) | (simp at *; omega) | omega)
   have hcho33 := OwnF.cap ho33
   refine WH.take 2 rfl (by kernel_rfl) rfl rfl rfl (hs32.fb b11).d1 (fun w_ hs_ => (Run.sliceH0 (8) Tryz.runUnderlying23 Tryz.sizeOf3 rfl rfl rfl ?_ ?_)) ?_
   · first | rfl | (first | omega | (simp at *; done) | (simp at *; omega) | omega)
   · first | (exact Nat.zero_le _) | (first | omega | (simp at *; done) | (simp at *; omega) | omega)
   refine WH.rn [3] (hs32.fb b11).d1 [] rfl rfl (WH.o1 4 rfl (WL.st tbk hs32 1 rfl rfl (fun _ hs34 => WL.nil ⟨(hs34.fb b11).d1, WH.rn [5] (hs34.fb b11).d1 [] rfl rfl (WH.o1 6 rfl (WL.st tbk hs34 1 rfl rfl (fun _ hs35 => WL.nil ⟨(hs35.fb b11).d1, ?_⟩)))⟩)))
   refine WH.dn (hK22 _ _ (WC.sr (WL.r 1 hs35 [1] rfl (WL.st tbk hs35 2 rfl rfl (fun _ hs36 => WL.nil (WC.ret (retV1 rfl (resV.cellA tbk hs36 2 rfl rfl rfl rfl) ?_)))))))
   obtain ⟨L37, L38, hs41, ho39, ho40⟩ := ownVpR.op hs36 ho9
   have hs42 := ((((hs41.fb b2).fb b4).fb b11).fb b23)
   obtain ⟨L44, hs43, ho45⟩ := ownVpR.fl hs42 ho33 ho40
   have hs46 := ((((hs43.fb b2).fb b4).fb b11).fb b23)
   refine ownVpR.ret rfl (St.keep1 (hs46.fr L44)) ho45 ?_
   · exfalso; simp at qh31
  refine WC.skip (hK22 _ _ (WC.sr (WL.r 1 hs30 [1] rfl (WL.st tbk hs30 2 rfl rfl (fun _ hs47 => WL.nil (WC.ret (retV1 rfl (resV.cellA tbk hs47 2 rfl rfl rfl rfl) ?_)))))))
  obtain ⟨L48, L49, hs52, ho50, ho51⟩ := ownVpR.op hs47 ho9
  have hs53 := ((((hs52.fb b2).fb b4).fb b11).fb b23)
  obtain ⟨L55, hs54, ho56⟩ := ownVpR.fl hs53 ho27 ho51
  have hs57 := ((((hs54.fb b2).fb b4).fb b11).fb b23)
  refine ownVpR.ret rfl (St.keep1 (hs57.fr L55)) ho56 ?_
  · show VpD.mk r7.State r7.Mark _ r7.Part.xs = _
    rw [← hd10, vpNext_A (show r7.dat.Args.length = 0 from (by omega : r7.Args.xs.length = 0))]; rfl
 refine WC.skip (hK14 _ _ (WC.seq (fun K58 hK58 => WC.sr (WL.r 2 hs13 [0] rfl (WL.buildSlice hs13 Tryz.runUnderlying23 Tryz.sizeOf3 Tryz.zeroValue3 rfl rfl rfl rfl rfl rfl rfl rfl rfl rfl (fun b59 whs60 hs60 => ?_))))))
 obtain ⟨L61, L62, hs65, ho63, ho64⟩ := ownVpR.op hs60 ho9
 have hs66 := ((((hs65.fb b2).fb b4).fb b11).fb b59)
 refine WL.appendG (hs66.fr L61) ho63 (srcI1 Tryz.underlying23 (hs66.own _ (nthL_mem (i := 0) rfl)).1) Tryz.underlying23 inf3 rfl rfl rfl rfl rfl rfl rfl rfl rfl rfl ?_ (fun A70 c71 L67 whs68 hs68 ho69 => ?_)
 · first | omega | (simp; done) | (simp; omega) | omega
 replace hs68 := St.back [_, _, _, _] hs68
 refine WL.r 1 hs68 [] rfl (WL.st tbk hs68 1 rfl rfl (fun _ hs72 => WL.nil (WC.r1 hs72 [1] rfl ?_)))
 refine WC.cD rfl (fun qh73 => ?_) (fun qh73 => ?_)
 ·refine WC.rH (hs72.fb b11).d1 hs72 (fun _ hs74 => ?_)
  refine WH.rn [0] (hs74.fb b11).d1 [] rfl rfl (WH.o1 1 rfl (WL.r 1 hs74 [1] rfl (WL.nil ⟨(hs74.fb b11).d1, ?_⟩)))
  have ho75 := OwnF.take (k := 8) ho69 (by first | omega | (simp at *; done) | (simp at *; omega) | omega)
  have hcho75 := OwnF.cap ho75
  refine WH.take 2 rfl (by kernel_rfl) rfl rfl rfl (hs74.fb b11).d1 (fun w_ hs_ => (Run.sliceH0 (8) Tryz.runUnderlying23 Tryz.sizeOf3 rfl rfl rfl ?_ ?_)) ?_
  · first | rfl | (first | omega | (simp at *; done) | (simp at *; omega) | omega)
  · first | (exact Nat.zero_le _) | (first | omega | (simp at *; done) | (simp at *; omega) | omega)
  refine WH.rn [3] (hs74.fb b11).d1 [] rfl rfl (WH.o1 4 rfl (WL.st tbk hs74 1 rfl rfl (fun _ hs76 => WL.nil ⟨(hs76.fb b11).d1, WH.rn [5] (hs76.fb b11).d1 [] rfl rfl (WH.o1 6 rfl (WL.st tbk hs76 1 rfl rfl (fun _ hs77 => WL.nil ⟨(hs77.fb b11).d1, ?_⟩)))⟩)))
  refine WH.dn (hK58 _ _ (WC.sr (WL.r 1 hs77 [1] rfl (WL.st tbk hs77 2 rfl rfl (fun _ hs78 => WL.nil (WC.ret (retV1 rfl (resV.cellA tbk hs78 2 rfl rfl rfl rfl) ?_)))))))
  obtain ⟨L80, hs79, ho81⟩ := ownVpR.fl hs78 ho75 ho64
  have hs82 := ((((hs79.fb b2).fb b4).fb b11).fb b59)
  refine ownVpR.ret rfl (St.keep1 (hs82.fr L80)) ho81 ?_
  · show VpD.mk 3 r7.Mark _ r7.Part.xs = _
    rw [← hd10, vpNext_C (show 8 < r7.dat.Args.length + 1 from (by simp at qh73; omega : 8 < r7.Args.xs.length + 1))]; rfl
 refine WC.skip (hK58 _ _ (WC.sr (WL.r 1 hs72 [1] rfl (WL.st tbk hs72 2 rfl rfl (fun _ hs83 => WL.nil (WC.ret (retV1 rfl (resV.cellA tbk hs83 2 rfl rfl rfl rfl) ?_)))))))
 obtain ⟨L85, hs84, ho86⟩ := ownVpR.fl hs83 ho69 ho64
 have hs87 := ((((hs84.fb b2).fb b4).fb b11).fb b59)
 refine ownVpR.ret rfl (St.keep1 (hs87.fr L85)) ho86 ?_
 · show VpD.mk r7.State r7.Mark _ r7.Part.xs = _
   rw [← hd10, vpNext_B (show ¬ r7.dat.Args.length = 0 from (by omega : ¬ r7.Args.xs.length = 0)) (show r7.dat.Args.length + 1 ≤ 8 from (by simp at qh73; omega : r7.Args.xs.length + 1 ≤ 8))]; rfl
theorem built_59_0_1_2_3 (x0 : Int) (x1 : Int) (x2 : Bool) (x3 : Option Addr) (x4 : Nat) (x5 : Nat) : Tryz.prog.built 59 [(0, .int .i64 x0), (1, .int .i64 x1), (2, .bool x2), (3, .slice x3 x4 x5)] = some (List.toArray [.int .i64 x0, .int .i64 x1, .bool x2, .slice x3 x4 x5]) := by kernel_rfl
theorem built_25_0 (x0 : Int) : Tryz.prog.built 25 [(0, .int .i64 x0)] = some (List.toArray [.int .i64 x0, .bool false, .slice none 0 0, .slice none 0 0]) := by kernel_rfl
theorem k149_ (p : VpR) (b : Int) (w : World) (f_p : okVpR 549755813888 w p) (hsm : smVp 1048576 p.dat) (hok : areArgs p.dat.Args = true) (hb : 0 ≤ b ∧ b ≤ 255) :
    Calls Tryz.prog 247 #[.agg #[i64 p.State, .bool p.Mark, .slice p.Args.A p.Args.n p.Args.c, .slice p.Part.A p.Part.n p.Part.c], i64 b] w fun e w' => ∃ r0 L0 r1 L1, e = .returned (.tuple #[.agg #[i64 r0.State, .bool r0.Mark, .slice r0.Args.A r0.Args.n r0.Args.c, .slice r0.Part.A r0.Part.n r0.Part.c], .agg #[i64 r1.Kind, i64 r1.R, .bool r1.Mark, .slice r1.Args.A r1.Args.n r1.Args.c]]) ∧ St w [] (L0 ++ L1) w' ∧ ownVpR r0 L0 ∧ ownActR r1 L1 ∧ r0.dat = (vpCsi p.dat b).1 ∧ r1.dat = (vpCsi p.dat b).2 := by
 have nb_p_Args := f_p.Args_n
 have nl_p_Args := f_p.Args.len
 have nb_p_Part := f_p.Part_n
 have nl_p_Part := f_p.Part.len
 have hsB : smVp 549755813888 p.dat := ⟨Nat.le_trans hsm.1 (by decide), Nat.le_trans hsm.2 (by decide)⟩
 have hsa : p.Args.xs.length ≤ 1048576 := hsm.1
 have hsp : p.Part.xs.length ≤ 1048576 := hsm.2
 have hal := f_p.Args.len
 refine enter 63 Tryz.func247 rfl Tryz.ntmps247 rfl rfl ?_
 have hs1 := St.init w
 refine WC.sr (WL.bx hs1 rfl (fun b2 _ hs3 => WL.al hs3 Tryz.zeroValue25 rfl rfl (fun b4 _ hs5 => WL.al hs5 Tryz.zeroValue59 rfl rfl (fun b6 _ hs7 => WL.nil (WC.sr (WL.r 1 hs7 [2] rfl ?_))))))
 refine WL.cl Tryz.call200 rfl (k143_ p _ (okVpR.st0 f_p hs7) ?_) ?_
 · first | assumption | rfl | omega | (simp; omega)
 rintro _ whs8 ⟨r9, L1_10, rfl, hs8, ho11, hd12⟩
 replace hs8 := hs7.callF hs8
 refine ⟨_, rfl, ?_⟩
 replace hs8 := St.back [_, _, _] hs8
 have hlr := ownVpR.len ho11
 have hxr : r9.Args.xs = p.Args.xs := congrArg VpD.Args hd12
 have hpr : r9.Part.xs = p.Part.xs := congrArg VpD.Part hd12
 have hxp : p.dat.Args = p.Args.xs := rfl
 have hlx : r9.Args.xs.length = p.Args.xs.length := by rw [hxr]
 have hly : r9.Part.xs.length = p.Part.xs.length := by rw [hpr]
 skip
 refine WL.al hs8 Tryz.zeroValue25 rfl rfl (fun b13 _ hs14 => WL.st tbk hs14 0 rfl rfl (fun _ hs15 => WL.nil (WC.seq (fun K16 hK16 => WC.block (WC.sr (WL.r 3 hs15 [] rfl (WL.pA tbk 4 Acts.nil hs15 [3] rfl rfl rfl rfl (fun g_ => ⟨rfl, trivial⟩) ?_)))))))
 refine WL.r 1 hs15 [] rfl (WL.pA tbk 3 Acts.nil hs15 [3] rfl rfl rfl rfl (fun g_ => ⟨rfl, trivial⟩) (WL.r 1 hs15 [] rfl (WL.nil (WC.cq rfl (fun h17 qh17 => ?_) (fun h17 qh17 => ?_)))))
 ·have hc1 : (b = 63 ∧ p.dat.Args.length = 0) ∧ p.dat.Mark = false := by show (b = 63 ∧ p.Args.xs.length = 0) ∧ p.Mark = false; simp at qh17; exact ⟨⟨qh17.1.1, by omega⟩, qh17.2⟩
  refine WC.sr (WL.r 1 hs15 [] rfl (WL.st tbk hs15 0 rfl rfl (fun _ hs18 => WL.nil (WC.sr (WL.r 1 hs18 [0] rfl ?_)))))
  refine WL.val rfl rfl rfl (Run.build rfl rfl rfl rfl (built_59)) (WL.st tbk hs18 2 rfl rfl (fun _ hs19 => WL.st tbk hs19 1 rfl rfl (fun _ hs20 => WL.nil (WC.ret (ibR (tkR ?_))))))
  clear hK16
  refine retV2 rfl (resV.cellA tbk hs20 2 rfl rfl rfl rfl) (resV.cellA tbk hs20 1 rfl rfl rfl rfl) ?_
  have hv : vpCsi p.dat b = ({ p.dat with Mark := true }, act0) := by unfold vpCsi; rw [if_pos hc1]
  obtain ⟨L21, L22, hs25, ho23, ho24⟩ := ownVpR.op hs20 ho11
  have hs26 := ((((hs25.fb b2).fb b4).fb b6).fb b13)
  obtain ⟨L28, hs27, ho29⟩ := ownVpR.fl hs26 ho23 ho24
  have hs30 := ((((hs27.fb b2).fb b4).fb b6).fb b13)
  refine ⟨⟨r9.State, true, SlD.of ho23, SlD.of ho24⟩, _, ⟨0, 0, false, ⟨none, 0, 0, []⟩⟩, _, rfl, (St.drop ((hs30.fr ([] : Hp)).fr L28) (List.Sublist.append_left (List.sublist_append_left ([] : Hp) _) L28)), ?_, ?_, ?_, ?_⟩
  · exact (by exact ho29)
  · exact (OwnF.nil _ _)
  · rw [hv, ← hd12]; rfl
  · rw [hv]; first | exact rfl | rfl
 have hc1 : ¬ ((b = 63 ∧ p.dat.Args.length = 0) ∧ p.dat.Mark = false) := by show ¬ ((b = 63 ∧ p.Args.xs.length = 0) ∧ p.Mark = false); rintro ⟨⟨h1, h2⟩, h3⟩; rw [h3] at qh17; simp at qh17; omega
 refine WC.sr (WL.r 1 hs15 [] rfl (WL.cl Tryz.call97 rfl (k0_ _ _ _ _) ?_))
 rintro _ whs32 ⟨rfl, hs32⟩
 replace hs32 := hs15.call0 hs32
 refine ⟨_, rfl, WL.r 1 hs32 [] rfl (WL.nil (WC.cq rfl (fun h33 qh33 => ?_) (fun h33 qh33 => ?_)))⟩
 ·have hc2 : 48 ≤ b ∧ b ≤ 57 := by first | omega | (simp at qh33; omega)
  refine WC.sr (WL.r 3 hs32 [3] rfl (WL.cl Tryz.call258 rfl (k147_ p _ _ (okVpR.st0 f_p hs32) ?_ ?_ ?_) ?_))
  iterate 3 first | assumption | rfl | omega | (simp; omega)
  rintro _ whs34 ⟨r35, L1_36, rfl, hs34, ho37, hd38⟩
  replace hs34 := hs32.callF hs34
  refine ⟨_, rfl, ?_⟩
  replace hs34 := St.back [_, _, _, _] hs34
  refine WL.val rfl rfl rfl (Run.build rfl rfl rfl rfl (built_59)) (WL.st tbk hs34 2 rfl rfl (fun _ hs39 => WL.st tbk hs39 1 rfl rfl (fun _ hs40 => WL.nil (WC.ret (ibR (tkR ?_))))))
  clear hK16
  refine retV2 rfl (resV.cellA tbk hs40 2 rfl rfl rfl rfl) (resV.cellA tbk hs40 1 rfl rfl rfl rfl) ?_
  have hv : vpCsi p.dat b = (vpDigit p.dat (b - 48), act0) := by unfold vpCsi; rw [if_neg hc1, if_pos hc2]
  refine ⟨r35, _, ⟨0, 0, false, ⟨none, 0, 0, []⟩⟩, _, rfl, (St.drop ((hs40.fr ([] : Hp)).fr L1_36) (List.Sublist.append_left (List.sublist_append_left ([] : Hp) _) L1_36)), ?_, ?_, ?_, ?_⟩
  · exact ho37
  · exact (OwnF.nil _ _)
  · rw [hv]; first | exact hd38 | rfl
  · rw [hv]; first | exact rfl | rfl
 have hc2 : ¬ (48 ≤ b ∧ b ≤ 57) := by first | omega | (simp at qh33; omega)
 refine WC.r1 hs32 [] rfl (WC.cD rfl (fun qh42 => ?_) (fun qh42 => ?_))
 ·have hc3 : b = 59 := by first | omega | (simp at qh42; omega)
  refine WC.sr (WL.r 1 hs32 [3] rfl (WL.cl Tryz.call259 rfl (k148_ p _ (okVpR.st0 f_p hs32) ?_ ?_) ?_))
  iterate 2 first | assumption | rfl | omega | (simp; omega)
  rintro _ whs43 ⟨r44, L1_45, rfl, hs43, ho46, hd47⟩
  replace hs43 := hs32.callF hs43
  refine ⟨_, rfl, ?_⟩
  replace hs43 := St.back [_, _, _, _] hs43
  refine WL.val rfl rfl rfl (Run.build rfl rfl rfl rfl (built_59)) (WL.st tbk hs43 2 rfl rfl (fun _ hs48 => WL.st tbk hs48 1 rfl rfl (fun _ hs49 => WL.nil (WC.ret (ibR (tkR ?_))))))
  clear hK16
  refine retV2 rfl (resV.cellA tbk hs49 2 rfl rfl rfl rfl) (resV.cellA tbk hs49 1 rfl rfl rfl rfl) ?_
  have hv : vpCsi p.dat b = (vpNext p.dat, act0) := by unfold vpCsi; rw [if_neg hc1, if_neg hc2, if_pos hc3]
  refine ⟨r44, _, ⟨0, 0, false, ⟨none, 0, 0, []⟩⟩, _, rfl, (St.drop ((hs49.fr ([] : Hp)).fr L1_45) (List.Sublist.append_left (List.sublist_append_left ([] : Hp) _) L1_45)), ?_, ?_, ?_, ?_⟩
  · exact ho46
  · exact (OwnF.nil _ _)
  · rw [hv]; first | exact hd47 | rfl
  · rw [hv]; first | exact rfl | rfl
 have hc3 : ¬ (b = 59) := by first | omega | (simp at qh42; omega)
 refine WC.sr (WL.r 1 hs32 [] rfl (WL.cl Tryz.call97 rfl (k0_ _ _ _ _) ?_))
 rintro _ whs51 ⟨rfl, hs51⟩
 replace hs51 := hs32.call0 hs51
 refine ⟨_, rfl, WL.r 1 hs51 [] rfl (WL.nil (WC.cq rfl (fun h52 qh52 => ?_) (fun h52 qh52 => ?_)))⟩
 ·have hc4 : 64 ≤ b ∧ b ≤ 126 := by first | omega | (simp at qh52; omega)
  refine WC.seq (fun K53 hK53 => WC.rH ((hs51.fb b6).d1.fb b4).d1 hs51 (fun _ hs54 => ?_))
  refine WH.take 0 rfl (by kernel_rfl) rfl rfl rfl ((hs54.fb b6).d1.fb b4).d1 (fun w_ hs_ => (Run.build rfl rfl rfl rfl (built_25))) ?_
  refine WH.rn [1, 2, 3, 4, 5] ((hs54.fb b6).d1.fb b4).d1 [1, 0] rfl rfl ?_
  refine WH.take 6 rfl (by kernel_rfl) rfl rfl rfl ((hs54.fb b6).d1.fb b4).d1 (fun w_ hs_ => (Run.build rfl rfl rfl rfl (built_59_0_1_2_3 _ _ _ _ _ _))) ?_
  refine WH.o1 7 rfl (WL.st tbk hs54 2 rfl rfl (fun _ hs55 => WL.nil ⟨((hs55.fb b6).d1.fb b4).d1, WH.o1 8 rfl (WL.st tbk hs55 1 rfl rfl (fun _ hs56 => WL.nil ⟨((hs56.fb b6).d1.fb b4).d1, WH.dn (hK53 _ _ ?_)⟩))⟩))
  refine WC.ret (ibR (tkR ?_))
  clear hK16
  refine retV2 rfl (resV.cellA tbk hs56 2 rfl rfl rfl rfl) (resV.cellA tbk hs56 1 rfl rfl rfl rfl) ?_
  have hv : vpCsi p.dat b = (vp0, ⟨4, b, p.dat.Mark, p.dat.Args⟩) := by unfold vpCsi; rw [if_neg hc1, if_neg hc2, if_neg hc3, if_pos hc4]
  obtain ⟨L60, hs59, ho61⟩ := ownVpR.fl hs56 (OwnF.nil _ _) (OwnF.nil _ _)
  have hs62 := ((((hs59.fb b2).fb b4).fb b6).fb b13)
  obtain ⟨L63, L64, hs67, ho65, ho66⟩ := ownVpR.op hs62 ho11
  have hs68 := ((((hs67.fb b2).fb b4).fb b6).fb b13)
  refine ⟨⟨0, false, ⟨none, 0, 0, []⟩, ⟨none, 0, 0, []⟩⟩, _, ⟨(4), b, p.Mark, SlD.of ho65⟩, _, rfl, (St.drop ((hs68.fr L63).fr L60) (List.Sublist.append_left (List.sublist_append_left L63 _) L60)), ?_, ?_, ?_, ?_⟩
  · exact (by exact ho61)
  · exact ho65
  · rw [hv]; rfl
  · rw [hv]; exact ActD.ext' rfl rfl rfl hxr
 have hc4 : ¬ (64 ≤ b ∧ b ≤ 126) := by first | omega | (simp at qh52; omega)
 refine WC.sr (WL.r 3 hs51 [] rfl (WL.pO tbk 2 Acts.nil hs51 [] rfl rfl rfl rfl (fun g_ => trivial) (WL.r 1 hs51 [] rfl (WL.nil (WC.cq rfl (fun h69 qh69 => ?_) (fun h69 qh69 => ?_))))))
 ·have hc5 : b < 32 ∨ b = 127 := by first | omega | (simp at qh69; omega)
  refine WC.sr (WL.r 2 hs51 [0] rfl ?_)
  refine WL.val rfl rfl rfl (Run.build rfl rfl rfl rfl (built_59_0_1 _ _)) (WL.st tbk hs51 2 rfl rfl (fun _ hs70 => WL.st tbk hs70 1 rfl rfl (fun _ hs71 => WL.nil (WC.ret (ibR (tkR ?_))))))
  clear hK16
  refine retV2 rfl (resV.cellA tbk hs71 2 rfl rfl rfl rfl) (resV.cellA tbk hs71 1 rfl rfl rfl rfl) ?_
  have hv : vpCsi p.dat b = (p.dat, ⟨2, b, false, []⟩) := by unfold vpCsi; rw [if_neg hc1, if_neg hc2, if_neg hc3, if_neg hc4, if_pos hc5]
  refine ⟨r9, _, ⟨(2), b, false, ⟨none, 0, 0, []⟩⟩, _, rfl, (St.drop ((hs71.fr ([] : Hp)).fr L1_10) (List.Sublist.append_left (List.sublist_append_left ([] : Hp) _) L1_10)), ?_, ?_, ?_, ?_⟩
  · exact ho11
  · exact (OwnF.nil _ _)
  · rw [hv]; exact hd12
  · rw [hv]; first | exact rfl | rfl
 have hc5 : ¬ (b < 32 ∨ b = 127) := by first | omega | (simp at qh69; omega)
 refine WC.skip (hK16 _ _ (WC.sr (WL.r 1 hs51 [] rfl (WL.st tbk hs51 0 rfl rfl (fun _ hs73 => WL.nil (WC.sr (WL.r 1 hs73 [0] rfl ?_)))))))
 refine WL.val rfl rfl rfl (Run.build rfl rfl rfl rfl (built_59)) (WL.st tbk hs73 2 rfl rfl (fun _ hs74 => WL.st tbk hs74 1 rfl rfl (fun _ hs75 => WL.nil (WC.ret (retV2 rfl (resV.cellA tbk hs75 2 rfl rfl rfl rfl) (resV.cellA tbk hs75 1 rfl rfl rfl rfl) ?_)))))
 have hv : vpCsi p.dat b = ({ p.dat with State := 3 }, act0) := by unfold vpCsi; rw [if_neg hc1, if_neg hc2, if_neg hc3, if_neg hc4, if_neg hc5]
 obtain ⟨L76, L77, hs80, ho78, ho79⟩ := ownVpR.op hs75 ho11
 have hs81 := ((((hs80.fb b2).fb b4).fb b6).fb b13)
 obtain ⟨L83, hs82, ho84⟩ := ownVpR.fl hs81 ho78 ho79
 have hs85 := ((((hs82.fb b2).fb b4).fb b6).fb b13)
 refine ⟨⟨(3), r9.Mark, SlD.of ho78, SlD.of ho79⟩, _, ⟨0, 0, false, ⟨none, 0, 0, []⟩⟩, _, rfl, (St.drop ((hs85.fr ([] : Hp)).fr L83) (List.Sublist.append_left (List.sublist_append_left ([] : Hp) _) L83)), ?_, ?_, ?_, ?_⟩
 · exact (by exact ho84)
 · exact (OwnF.nil _ _)
 · rw [hv, ← hd12]; rfl
 · rw [hv]; first | exact rfl | rfl
theorem k150_ (p : VpR) (b : Int) (w : World) (f_p : okVpR 549755813888 w p) (hsm : smVp 1048576 p.dat) (hok : vpOk p.dat = true) (hb : 0 ≤ b ∧ b ≤ 255) :
    Calls Tryz.prog 201 #[.agg #[i64 p.State, .bool p.Mark, .slice p.Args.A p.Args.n p.Args.c, .slice p.Part.A p.Part.n p.Part.c], i64 b] w fun e w' => ∃ r0 L0 r1 L1, e = .returned (.tuple #[.agg #[i64 r0.State, .bool r0.Mark, .slice r0.Args.A r0.Args.n r0.Args.c, .slice r0.Part.A r0.Part.n r0.Part.c], .agg #[i64 r1.Kind, i64 r1.R, .bool r1.Mark, .slice r1.Args.A r1.Args.n r1.Args.c]]) ∧ St w [] (L0 ++ L1) w' ∧ ownVpR r0 L0 ∧ ownActR r1 L1 ∧ r0.dat = (vpStep p.dat b).1 ∧ r1.dat = (vpStep p.dat b).2 := by
 have nb_p_Args := f_p.Args_n
 have nl_p_Args := f_p.Args.len
 have nb_p_Part := f_p.Part_n
 have nl_p_Part := f_p.Part.len
 have hsB : smVp 549755813888 p.dat := ⟨Nat.le_trans hsm.1 (by decide), Nat.le_trans hsm.2 (by decide)⟩
 have hsa : p.Args.xs.length ≤ 1048576 := hsm.1
 have hsp : p.Part.xs.length ≤ 1048576 := hsm.2
 refine enter 58 Tryz.func201 rfl Tryz.ntmps201 rfl rfl ?_
 have hs1 := St.init w
 refine WC.sr (WL.bx hs1 rfl (fun b2 _ hs3 => WL.al hs3 Tryz.zeroValue25 rfl rfl (fun b4 _ hs5 => WL.al hs5 Tryz.zeroValue59 rfl rfl (fun b6 _ hs7 => WL.nil (WC.seq (fun K8 hK8 => WC.block (WC.r1 hs7 [] rfl ?_)))))))
 refine WC.cD rfl (fun qh9 => ?_) (fun qh9 => ?_)
 ·have k1 : b = 27 := by first | exact qh9 | omega | (simp at qh9; omega)
  refine WC.sr ?_
  refine WL.val rfl rfl rfl (Run.build rfl rfl rfl rfl (built_25_0 _)) ?_
  refine WL.val rfl rfl rfl (Run.build rfl rfl rfl rfl (built_59)) (WL.st tbk hs7 1 rfl rfl (fun _ hs10 => WL.st tbk hs10 0 rfl rfl (fun _ hs11 => WL.nil (WC.ret (ibR (tkR ?_))))))
  clear hK8
  refine retV2 rfl (resV.cellA tbk hs11 1 rfl rfl rfl rfl) (resV.cellA tbk hs11 0 rfl rfl rfl rfl) ?_
  have hv : vpStep p.dat b = (⟨1, false, [], []⟩, act0) := by unfold vpStep; rw [if_pos k1]
  obtain ⟨L15, hs14, ho16⟩ := ownVpR.fl hs11 (OwnF.nil _ _) (OwnF.nil _ _)
  have hs17 := (((hs14.fb b2).fb b4).fb b6)
  refine ⟨⟨(1), false, ⟨none, 0, 0, []⟩, ⟨none, 0, 0, []⟩⟩, _, ⟨0, 0, false, ⟨none, 0, 0, []⟩⟩, _, rfl, (St.drop ((hs17.fr ([] : Hp)).fr L15) (List.Sublist.append_left (List.sublist_append_left ([] : Hp) _) L15)), ?_, ?_, ?_, ?_⟩
  · exact (by exact ho16)
  · exact (OwnF.nil _ _)
  · rw [hv]; first | exact rfl | rfl
  · rw [hv]; first | exact rfl | rfl
 have k1 : ¬ (b = 27) := by first | exact qh9 | omega | (simp at qh9; omega)
 refine WC.sr (WL.r 3 hs7 [] rfl (WL.pO tbk 2 Acts.nil hs7 [] rfl rfl rfl rfl (fun g_ => trivial) (WL.r 1 hs7 [] rfl (WL.nil (WC.cq rfl (fun h19 qh19 => ?_) (fun h19 qh19 => ?_))))))
 ·have k2 : b = 24 ∨ b = 26 := by first | exact qh19 | omega | (simp at qh19; omega)
  refine WC.sr ?_
  refine WL.val rfl rfl rfl (Run.build rfl rfl rfl rfl (built_25)) ?_
  refine WL.val rfl rfl rfl (Run.build rfl rfl rfl rfl (built_59)) (WL.st tbk hs7 1 rfl rfl (fun _ hs20 => WL.st tbk hs20 0 rfl rfl (fun _ hs21 => WL.nil (WC.ret (ibR (tkR ?_))))))
  clear hK8
  refine retV2 rfl (resV.cellA tbk hs21 1 rfl rfl rfl rfl) (resV.cellA tbk hs21 0 rfl rfl rfl rfl) ?_
  have hv : vpStep p.dat b = (vp0, act0) := by unfold vpStep; rw [if_neg k1, if_pos k2]
  obtain ⟨L25, hs24, ho26⟩ := ownVpR.fl hs21 (OwnF.nil _ _) (OwnF.nil _ _)
  have hs27 := (((hs24.fb b2).fb b4).fb b6)
  refine ⟨⟨0, false, ⟨none, 0, 0, []⟩, ⟨none, 0, 0, []⟩⟩, _, ⟨0, 0, false, ⟨none, 0, 0, []⟩⟩, _, rfl, (St.drop ((hs27.fr ([] : Hp)).fr L25) (List.Sublist.append_left (List.sublist_append_left ([] : Hp) _) L25)), ?_, ?_, ?_, ?_⟩
  · exact (by exact ho26)
  · exact (OwnF.nil _ _)
  · rw [hv]; first | exact rfl | rfl
  · rw [hv]; first | exact rfl | rfl
 have k2 : ¬ (b = 24 ∨ b = 26) := by first | exact qh19 | omega | (simp at qh19; omega)
 refine WC.skip (hK8 _ _ (WC.seq (fun K29 hK29 => WC.r1 hs7 [2] rfl (WC.block (WC.r1 hs7 [] rfl ?_)))))
 refine WC.cD rfl (fun qh30 => ?_) (fun qh30 => ?_)
 ·have k3 : p.dat.State = 0 := by show p.State = 0; first | exact qh30 | omega | (simp at qh30; omega)
  refine WC.sr (WL.r 2 hs7 [2] rfl (WL.cl Tryz.call246 rfl (k146_ p _ _ (okVpR.st0 f_p hs7) ?_) ?_))
  · first | assumption | rfl | omega | (simp; omega)
  rintro _ whs31 ⟨r0_32, L0_33, r1_34, L1_35, rfl, hs31, ho36, ho37, hd0_38, hd1_39⟩
  replace hs31 := hs7.callF hs31
  refine ⟨_, rfl, ?_⟩
  replace hs31 := St.assoc hs31
  replace hs31 := St.back2 [_, _, _] hs31
  refine WL.r 2 hs31 [] rfl (WL.st tbk hs31 1 rfl rfl (fun _ hs40 => WL.st tbk hs40 0 rfl rfl (fun _ hs41 => WL.nil (WC.ret (ibR (tkR ?_))))))
  clear hK29
  refine retV2 rfl (resV.cellA tbk hs41 1 rfl rfl rfl rfl) (resV.cellA tbk hs41 0 rfl rfl rfl rfl) ?_
  have hv : vpStep p.dat b = vpPlain p.dat.Part b := by unfold vpStep; rw [if_neg k1, if_neg k2, if_pos k3]
  refine ⟨r0_32, _, r1_34, _, rfl, (St.drop ((hs41.fr L1_35).fr L0_33) (List.Sublist.append_left (List.sublist_append_left L1_35 _) L0_33)), ?_, ?_, ?_, ?_⟩
  · exact ho36
  · exact ho37
  · rw [hv]; first | exact hd0_38 | rfl
  · rw [hv]; first | exact hd1_39 | rfl
 have k3 : ¬ (p.dat.State = 0) := by show ¬ (p.State = 0); first | exact qh30 | omega | (simp at qh30; omega)
 refine WC.r1 hs7 [] rfl (WC.cD rfl (fun qh42 => ?_) (fun qh42 => ?_))
 ·have k4 : p.dat.State = 1 := by show p.State = 1; first | exact qh42 | omega | (simp at qh42; omega)
  refine WC.seq (fun K43 hK43 => WC.block (WC.r1 hs7 [] rfl ?_))
  refine WC.cD rfl (fun qh44 => ?_) (fun qh44 => ?_)
  ·have k5 : b = 91 := by first | exact qh44 | omega | (simp at qh44; omega)
   refine WC.sr ?_
   refine WL.val rfl rfl rfl (Run.build rfl rfl rfl rfl (built_25_0 _)) ?_
   refine WL.val rfl rfl rfl (Run.build rfl rfl rfl rfl (built_59)) (WL.st tbk hs7 1 rfl rfl (fun _ hs45 => WL.st tbk hs45 0 rfl rfl (fun _ hs46 => WL.nil (WC.ret (ibR (tkR (ibR (tkR ?_))))))))
   clear hK43 hK29
   refine retV2 rfl (resV.cellA tbk hs46 1 rfl rfl rfl rfl) (resV.cellA tbk hs46 0 rfl rfl rfl rfl) ?_
   have hv : vpStep p.dat b = (⟨2, false, [], []⟩, act0) := by unfold vpStep; rw [if_neg k1, if_neg k2, if_neg k3, if_pos k4, if_pos k5]
   obtain ⟨L50, hs49, ho51⟩ := ownVpR.fl hs46 (OwnF.nil _ _) (OwnF.nil _ _)
   have hs52 := (((hs49.fb b2).fb b4).fb b6)
   refine ⟨⟨(2), false, ⟨none, 0, 0, []⟩, ⟨none, 0, 0, []⟩⟩, _, ⟨0, 0, false, ⟨none, 0, 0, []⟩⟩, _, rfl, (St.drop ((hs52.fr ([] : Hp)).fr L50) (List.Sublist.append_left (List.sublist_append_left ([] : Hp) _) L50)), ?_, ?_, ?_, ?_⟩
   · exact (by exact ho51)
   · exact (OwnF.nil _ _)
   · rw [hv]; first | exact rfl | rfl
   · rw [hv]; first | exact rfl | rfl
  have k5 : ¬ (b = 91) := by first | exact qh44 | omega | (simp at qh44; omega)
  refine WC.sr (WL.r 1 hs7 [] rfl (WL.cl Tryz.call97 rfl (k0_ _ _ _ _) ?_))
  rintro _ whs54 ⟨rfl, hs54⟩
  replace hs54 := hs7.call0 hs54
  refine ⟨_, rfl, WL.r 1 hs54 [] rfl (WL.nil (WC.cq rfl (fun h55 qh55 => ?_) (fun h55 qh55 => ?_)))⟩
  ·have k6 : 48 ≤ b ∧ b ≤ 126 := by first | exact qh55 | omega | (simp at qh55; omega)
   refine WC.sr ?_
   refine WL.val rfl rfl rfl (Run.build rfl rfl rfl rfl (built_25)) (WL.r 1 hs54 [] rfl ?_)
   refine WL.val rfl rfl rfl (Run.build rfl rfl rfl rfl (built_59_0_1 _ _)) (WL.st tbk hs54 1 rfl rfl (fun _ hs56 => WL.st tbk hs56 0 rfl rfl (fun _ hs57 => WL.nil (WC.ret (ibR (tkR (ibR (tkR ?_))))))))
   clear hK43 hK29
   refine retV2 rfl (resV.cellA tbk hs57 1 rfl rfl rfl rfl) (resV.cellA tbk hs57 0 rfl rfl rfl rfl) ?_
   have hv : vpStep p.dat b = (vp0, ⟨3, b, false, []⟩) := by unfold vpStep; rw [if_neg k1, if_neg k2, if_neg k3, if_pos k4, if_neg k5, if_pos k6]
   obtain ⟨L61, hs60, ho62⟩ := ownVpR.fl hs57 (OwnF.nil _ _) (OwnF.nil _ _)
   have hs63 := (((hs60.fb b2).fb b4).fb b6)
   refine ⟨⟨0, false, ⟨none, 0, 0, []⟩, ⟨none, 0, 0, []⟩⟩, _, ⟨(3), b, false, ⟨none, 0, 0, []⟩⟩, _, rfl, (St.drop ((hs63.fr ([] : Hp)).fr L61) (List.Sublist.append_left (List.sublist_append_left ([] : Hp) _) L61)), ?_, ?_, ?_, ?_⟩
   · exact (by exact ho62)
   · exact (OwnF.nil _ _)
   · rw [hv]; first | exact rfl | rfl
   · rw [hv]; first | exact rfl | rfl
  have k6 : ¬ (48 ≤ b ∧ b ≤ 126) := by first | exact qh55 | omega | (simp at qh55; omega)
  refine WC.skip (hK43 _ _ (WC.sr ?_))
  refine WL.val rfl rfl rfl (Run.build rfl rfl rfl rfl (built_25)) ?_
  refine WL.val rfl rfl rfl (Run.build rfl rfl rfl rfl (built_59)) (WL.st tbk hs54 1 rfl rfl (fun _ hs65 => WL.st tbk hs65 0 rfl rfl (fun _ hs66 => WL.nil (WC.ret (ibR (tkR ?_))))))
  clear hK29
  refine retV2 rfl (resV.cellA tbk hs66 1 rfl rfl rfl rfl) (resV.cellA tbk hs66 0 rfl rfl rfl rfl) ?_
  have hv : vpStep p.dat b = (vp0, act0) := by unfold vpStep; rw [if_neg k1, if_neg k2, if_neg k3, if_pos k4, if_neg k5, if_neg k6]
  obtain ⟨L70, hs69, ho71⟩ := ownVpR.fl hs66 (OwnF.nil _ _) (OwnF.nil _ _)
  have hs72 := (((hs69.fb b2).fb b4).fb b6)
  refine ⟨⟨0, false, ⟨none, 0, 0, []⟩, ⟨none, 0, 0, []⟩⟩, _, ⟨0, 0, false, ⟨none, 0, 0, []⟩⟩, _, rfl, (St.drop ((hs72.fr ([] : Hp)).fr L70) (List.Sublist.append_left (List.sublist_append_left ([] : Hp) _) L70)), ?_, ?_, ?_, ?_⟩
  · exact (by exact ho71)
  · exact (OwnF.nil _ _)
  · rw [hv]; first | exact rfl | rfl
  · rw [hv]; first | exact rfl | rfl
 have k4 : ¬ (p.dat.State = 1) := by show ¬ (p.State = 1); first | exact qh42 | omega | (simp at qh42; omega)
 refine WC.r1 hs7 [] rfl (WC.cD rfl (fun qh74 => ?_) (fun qh74 => ?_))
 ·have k7 : p.dat.State = 2 := by show p.State = 2; first | exact qh74 | omega | (simp at qh74; omega)
  have hoa : areArgs p.dat.Args = true := by have h_ := hok; rw [vpOk_csi (.inl k7), Bool.and_eq_true] at h_; exact h_.1
  refine WC.sr (WL.r 2 hs7 [2] rfl (WL.cl Tryz.call247 rfl (k149_ p _ _ (okVpR.st0 f_p hs7) ?_ ?_ ?_) ?_))
  iterate 3 first | assumption | rfl | omega | (simp; omega)
  rintro _ whs75 ⟨r0_76, L0_77, r1_78, L1_79, rfl, hs75, ho80, ho81, hd0_82, hd1_83⟩
  replace hs75 := hs7.callF hs75
  refine ⟨_, rfl, ?_⟩
  replace hs75 := St.assoc hs75
  replace hs75 := St.back2 [_, _, _] hs75
  refine WL.r 2 hs75 [] rfl (WL.st tbk hs75 1 rfl rfl (fun _ hs84 => WL.st tbk hs84 0 rfl rfl (fun _ hs85 => WL.nil (WC.ret (ibR (tkR ?_))))))
  clear hK29
  refine retV2 rfl (resV.cellA tbk hs85 1 rfl rfl rfl rfl) (resV.cellA tbk hs85 0 rfl rfl rfl rfl) ?_
  have hv : vpStep p.dat b = vpCsi p.dat b := by unfold vpStep; rw [if_neg k1, if_neg k2, if_neg k3, if_neg k4, if_pos k7]
  refine ⟨r0_76, _, r1_78, _, rfl, (St.drop ((hs85.fr L1_79).fr L0_77) (List.Sublist.append_left (List.sublist_append_left L1_79 _) L0_77)), ?_, ?_, ?_, ?_⟩
  · exact ho80
  · exact ho81
  · rw [hv]; first | exact hd0_82 | rfl
  · rw [hv]; first | exact hd1_83 | rfl
 have k7 : ¬ (p.dat.State = 2) := by show ¬ (p.State = 2); first | exact qh74 | omega | (simp at qh74; omega)
 refine WC.skip (hK29 _ _ (WC.seq (fun K86 hK86 => WC.sr (WL.r 1 hs7 [] rfl (WL.cl Tryz.call97 rfl (k0_ _ _ _ _) ?_)))))
 rintro _ whs87 ⟨rfl, hs87⟩
 replace hs87 := hs7.call0 hs87
 refine ⟨_, rfl, WL.nil (WC.cq rfl (fun h88 qh88 => ?_) (fun h88 qh88 => ?_))⟩
 ·have k8 : 64 ≤ b ∧ b ≤ 126 := by first | exact qh88 | omega | (simp at qh88; omega)
  refine WC.sr ?_
  refine WL.val rfl rfl rfl (Run.build rfl rfl rfl rfl (built_25)) ?_
  refine WL.val rfl rfl rfl (Run.build rfl rfl rfl rfl (built_59)) (WL.st tbk hs87 1 rfl rfl (fun _ hs89 => WL.st tbk hs89 0 rfl rfl (fun _ hs90 => WL.nil (WC.ret (tkR ?_)))))
  clear hK86
  refine retV2 rfl (resV.cellA tbk hs90 1 rfl rfl rfl rfl) (resV.cellA tbk hs90 0 rfl rfl rfl rfl) ?_
  have hv : vpStep p.dat b = (vp0, act0) := by unfold vpStep; rw [if_neg k1, if_neg k2, if_neg k3, if_neg k4, if_neg k7, if_pos k8]
  obtain ⟨L94, hs93, ho95⟩ := ownVpR.fl hs90 (OwnF.nil _ _) (OwnF.nil _ _)
  have hs96 := (((hs93.fb b2).fb b4).fb b6)
  refine ⟨⟨0, false, ⟨none, 0, 0, []⟩, ⟨none, 0, 0, []⟩⟩, _, ⟨0, 0, false, ⟨none, 0, 0, []⟩⟩, _, rfl, (St.drop ((hs96.fr ([] : Hp)).fr L94) (List.Sublist.append_left (List.sublist_append_left ([] : Hp) _) L94)), ?_, ?_, ?_, ?_⟩
  · exact (by exact ho95)
  · exact (OwnF.nil _ _)
  · rw [hv]; first | exact rfl | rfl
  · rw [hv]; first | exact rfl | rfl
 have k8 : ¬ (64 ≤ b ∧ b ≤ 126) := by first | exact qh88 | omega | (simp at qh88; omega)
 refine WC.skip (hK86 _ _ (WC.sr (WL.r 1 hs87 [2] rfl ?_)))
 refine WL.cl Tryz.call200 rfl (k143_ p _ (okVpR.st0 f_p hs87) ?_) ?_
 · first | assumption | rfl | omega | (simp; omega)
 rintro _ whs98 ⟨r99, L1_100, rfl, hs98, ho101, hd102⟩
 replace hs98 := hs87.callF hs98
 refine ⟨_, rfl, ?_⟩
 replace hs98 := St.back [_, _, _] hs98
 refine WL.val rfl rfl rfl (Run.build rfl rfl rfl rfl (built_59)) (WL.st tbk hs98 1 rfl rfl (fun _ hs103 => WL.st tbk hs103 0 rfl rfl (fun _ hs104 => WL.nil (WC.ret (retV2 rfl (resV.cellA tbk hs104 1 rfl rfl rfl rfl) (resV.cellA tbk hs104 0 rfl rfl rfl rfl) ?_)))))
 have hv : vpStep p.dat b = (p.dat, act0) := by unfold vpStep; rw [if_neg k1, if_neg k2, if_neg k3, if_neg k4, if_neg k7, if_neg k8]
 refine ⟨r99, _, ⟨0, 0, false, ⟨none, 0, 0, []⟩⟩, _, rfl, (St.drop ((hs104.fr ([] : Hp)).fr L1_100) (List.Sublist.append_left (List.sublist_append_left ([] : Hp) _) L1_100)), ?_, ?_, ?_, ?_⟩
 · exact ho101
 · exact (OwnF.nil _ _)
 · rw [hv]; first | exact hd102 | rfl
 · rw [hv]; first | exact rfl | rfl
theorem inf59 : Tryz.prog.info? 59 = some Tryz.t59 := by kernel_rfl
theorem k151_ (p : VpR) (A_b : Option Addr) (n_b c_b : Nat) (b : List UInt8) (w : World) (f_p : okVpR 549755813888 w p) (f_b : SlF encB w A_b n_b b) (hsm : smVp 1048576 p.dat) (hok : vpOk p.dat = true) (hn : n_b ≤ 1048576) :
    Calls Tryz.prog 117 #[.agg #[i64 p.State, .bool p.Mark, .slice p.Args.A p.Args.n p.Args.c, .slice p.Part.A p.Part.n p.Part.c], .slice A_b n_b c_b] w fun e w' => ∃ r0 L0 A1 c1 x1 L1, e = .returned (.tuple #[.agg #[i64 r0.State, .bool r0.Mark, .slice r0.Args.A r0.Args.n r0.Args.c, .slice r0.Part.A r0.Part.n r0.Part.c], .slice A1 x1.length c1]) ∧ St w [] (L0 ++ L1) w' ∧ ownVpR r0 L0 ∧ OwnN encActR ownActR 59 (.slice A1 x1.length c1) x1 L1 ∧ r0.dat = (vpParse p.dat b).1 ∧ x1.map ActR.dat = (vpParse p.dat b).2 := by
 have nb_p_Args := f_p.Args_n
 have nl_p_Args := f_p.Args.len
 have nb_p_Part := f_p.Part_n
 have nl_p_Part := f_p.Part.len
 have hsB : smVp 549755813888 p.dat := ⟨Nat.le_trans hsm.1 (by decide), Nat.le_trans hsm.2 (by decide)⟩
 have hsa : p.Args.xs.length ≤ 1048576 := hsm.1
 have hsp : p.Part.xs.length ≤ 1048576 := hsm.2
 have hbl := f_b.len
 refine enter 39 Tryz.func117 rfl Tryz.ntmps117 rfl rfl ?_
 have hs1 := St.init w
 refine WC.sr (WL.bx hs1 rfl (fun b2 _ hs3 => WL.al hs3 Tryz.zeroValue25 rfl rfl (fun b4 _ hs5 => WL.r 1 hs5 [] rfl (WL.nil (WC.sr (WL.r 1 hs5 [1] rfl ?_))))))
 refine WL.cl Tryz.call200 rfl (k143_ p _ (okVpR.st0 f_p hs5) ?_) ?_
 · first | assumption | rfl | omega | exact ⟨by omega, by omega⟩ | (simp; omega)
 rintro _ whs6 ⟨r7, L1_8, rfl, hs6, ho9, hd10⟩
 replace hs6 := hs5.callF hs6
 refine ⟨_, rfl, ?_⟩
 replace hs6 := St.back [_, _] hs6
 skip
 refine WL.buildF (F := encActR) hs6 ([]) Tryz.runUnderlying126 Tryz.sizeOf59 Tryz.zeroValue59 rfl rfl rfl rfl rfl rfl rfl rfl rfl rfl rfl rfl (fun A14 c15 L11 whs12 hs12 ho13 => ?_)
 replace hs12 := St.back [_, _] hs12
 obtain ⟨L16, hs17, ho18⟩ := OwnN.fresh (own := ownActR) (hs12.fr L11) ho13 Bag.nil
 have hs19 := ((hs17.fb b2).fb b4)
 refine WL.al hs19 Tryz.zeroValue25 rfl rfl (fun b20 _ hs21 => WL.st tbk hs21 0 rfl rfl (fun _ hs22 => WL.r 1 hs22 [] rfl (WL.nil (WC.seq (fun K23 hK23 => WC.r1 hs22 [] rfl (WC.block ?_))))))
 have hM32 := (St.grp2 (L1 := L1_8) (L2 := L16) [_] (((((hs22.fb b2).fb b4).fr L16).fr L1_8).fb b20))
 refine WC.lV [4, 5, 6, 15, 16] rfl hM32 (fun k_ (a_ : Hp) f => ∃ (i : Nat) (acts : List ActR) (r : VpR) (L26 : Hp) (A28 : Option Addr) (c29 : Nat) (L30 : Hp), k_ = n_b - i ∧ a_ = [(b20, .cells (List.toArray [i64 r.State, .bool r.Mark, .slice r.Args.A r.Args.n r.Args.c, .slice r.Part.A r.Part.n r.Part.c]) 25 (0, 0))] ++ (L26 ++ L30) ∧ (i ≤ n_b) ∧ (r.dat = (vpParse p.dat (b.take i)).1) ∧ (acts.map ActR.dat = (vpParse p.dat (b.take i)).2) ∧ (acts.length ≤ i) ∧ ownVpR r L26 ∧ OwnN encActR ownActR 59 (.slice A28 (acts).length c29) (acts) L30 ∧ Sub [(7, .slice A28 (acts).length c29), (17, .int .i64 i)] f) (((fun (i : Nat) (acts : List ActR) => n_b - i) (0) ([]))) ?_ ?_
 ·refine ⟨0, [], r7, L1_8, A14, c15, L16, rfl, rfl, ?_, ?_, ?_, ?_, ho9, ho18, ⟨rfl, rfl, trivial⟩⟩
  · exact Nat.zero_le _
  · exact hd10
  · rfl
  · exact Nat.le_refl _
 rintro _ _ f w ⟨i, acts, r, L26, A28, c29, L30, rfl, rfl, p0, p1, p2, p3, ho27, ho31, hG⟩ hF hs33
 refine WC.sub _ (hG.app hF) ?_
 clear hG hF
 replace hs33 := St.ungrp2 [_] hs33
 have hs34 := (((hs33.fb b2).fb b4).fb b20)
 have hvr : vpOk r.dat = true := by rw [p1]; exact vpParse_ok hok
 have hlr := vpOk_len hvr
 have hsmr : smVp 1048576 r.dat := ⟨by omega, by omega⟩
 have hsmB : smVp 549755813888 r.dat := ⟨by omega, by omega⟩
 have hxb := (gat encB b i).toNat_lt
 refine WC.r1 hs34 [] rfl (WC.seq (fun K35 hK35 => ?_))
 refine WC.cD rfl (fun qh36 => ?_) (fun qh36 => ?_)
 ·refine WC.skip (hK35 _ _ (WC.seq (fun K37 hK37 => WC.block (WC.sr ?_))))
  refine WL.val rfl rfl rfl (Run.idxN Tryz.runUnderlying22 Tryz.sizeOf5 rfl rfl rfl ?_ ?_ ?_) ?_
  · exact SlF.some_ (SlF.st0 f_b hs34)
  · omega
  · omega
  refine WL.val rfl rfl rfl (Run.load Tryz.isAgg5 rfl rfl (SlF.one1 (SlF.st0 f_b hs34) ?_ rfl)) ?_
  · omega
  refine WL.r 1 hs34 [] rfl (WL.nil (WC.sr (WL.r 3 hs34 [0] rfl (WL.cl Tryz.call201 rfl (k150_ r _ _ (ownVpR.ok (B := 549755813888) ho27 (hs34.ow L26) (by assumption)) ?_ ?_ ?_) ?_))))
  iterate 3 first | assumption | rfl | omega | exact ⟨by omega, by omega⟩ | (simp; omega)
  rintro _ whs38 ⟨r0_39, L0_40, r1_41, L1_42, rfl, hs38, ho43, ho44, hd0_45, hd1_46⟩
  replace hs38 := hs34.callF hs38
  refine ⟨_, rfl, ?_⟩
  replace hs38 := St.assoc hs38
  replace hs38 := St.back2 [_, _, _] hs38
  refine WL.r 3 hs38 [] rfl (WL.al hs38 Tryz.zeroValue25 rfl rfl (fun b47 _ hs48 => WL.al hs48 Tryz.zeroValue59 rfl rfl (fun b49 _ hs50 => WL.st tbk hs50 1 rfl rfl (fun _ hs51 => WL.st tbk hs51 0 rfl rfl (fun _ hs52 => WL.nil (WC.sr (WL.r 1 hs52 [1] rfl ?_)))))))
  refine WL.st tbk hs52 2 rfl rfl (fun _ hs53 => WL.nil (WC.r1 hs53 [0] rfl ?_))
  refine WC.cN rfl (fun qh54 => ?_) (fun qh54 => ?_)
  ·have hk0 := hd0_45
   have hk1 := hd1_46
   have hkk : r1_41.Kind = (vpStep r.dat (gat encB b i).toNat).2.Kind := congrArg ActD.Kind hd1_46
   have hk : ¬ (vpStep r.dat (gat encB b i).toNat).2.Kind = 0 := by omega
   refine WC.region (WL.r 2 hs53 [0] rfl (WL.buildSlice hs53 Tryz.runUnderlying126 Tryz.sizeOf59 Tryz.zeroValue59 rfl rfl rfl rfl rfl rfl rfl rfl rfl rfl (fun b55 whs56 hs56 => ?_)))
   obtain ⟨L57, L58, hs61, ho59, ho60⟩ := OwnN.open_ (hs56.fr L30) ho31
   have hs62 := ((((((hs61.fb b2).fb b4).fb b20).fb b47).fb b49).fb b55)
   refine WL.appendG (hs62.fr L57) ho59 (srcF (F := encActR) (ys := [(r1_41 : ActR)]) Tryz.underlying126 rfl rfl (hs62.own _ (nthL_mem (i := 0) rfl)).1) Tryz.underlying126 inf59 rfl rfl rfl rfl rfl rfl rfl rfl rfl rfl ?_ (fun A66 c67 L63 whs64 hs64 ho65 => ?_)
   · (try simp only [List.length_append, List.length_singleton]); omega
   replace hs64 := St.back [_, _, _, _, _, _] hs64
   obtain ⟨L68, hs69, hb70⟩ := Bag.put (x := (r1_41 : ActR)) ((hs64.fr L1_42).fr L58) ho60 ho44
   have hs71 := ((((((hs69.fb b2).fb b4).fb b20).fb b47).fb b49).fb b55)
   obtain ⟨L73, hs72, ho74⟩ := OwnN.fold ((hs71.fr L68).fr L63) ho65 hb70
   have hs75 := ((((((hs72.fb b2).fb b4).fb b20).fb b47).fb b49).fb b55)
   refine WL.r 1 hs75 [] rfl (WL.nil (hK37 _ _ (WC.region (WL.r 2 hs75 [] rfl (WL.nil (tkN ?_))))))
   have hst := vpParse_take (v := p.dat) (l := b) (i := i) (by omega)
   replace hs75 := (hs75.d1.d1.d1.rm L26)
   have hF76 := (St.grp2 (L1 := L0_40) (L2 := L73) [_] (((((hs75.fb b2).fb b4).fr L73).fr L0_40).fb b20))
   refine ⟨sbF rfl, _, hF76, _, ?_, i + 1, ((acts) ++ [(r1_41 : ActR)]), r0_39, L0_40, A66, c67, L73, rfl, rfl, ?_, ?_, ?_, ?_, ho43, ho74, ⟨rfl, rfl, trivial⟩⟩
   · omega
   · omega
   · rw [hst, ← p1]; exact hk0
   · rw [hst, ← p2, ← p1, if_neg hk, List.map_append]; congr 1; show [_] = [_]; rw [← hk1]
   · (try simp only [List.length_append, List.length_singleton]); omega
  have hk0 := hd0_45
  have hk1 := hd1_46
  have hkk : r1_41.Kind = (vpStep r.dat (gat encB b i).toNat).2.Kind := congrArg ActD.Kind hd1_46
  have hk : (vpStep r.dat (gat encB b i).toNat).2.Kind = 0 := by omega
  refine WC.skip (hK37 _ _ (WC.region (WL.r 2 hs53 [] rfl (WL.nil (tkN ?_)))))
  have hst := vpParse_take (v := p.dat) (l := b) (i := i) (by omega)
  replace hs53 := ((hs53.d1.d1.rm L1_42).rm L26)
  have hF77 := (St.grp2 (L1 := L0_40) (L2 := L30) [_] (((((hs53.fb b2).fb b4).fr L30).fr L0_40).fb b20))
  refine ⟨sbF rfl, _, hF77, _, ?_, i + 1, acts, r0_39, L0_40, A28, c29, L30, rfl, rfl, ?_, ?_, ?_, ?_, ho43, ho31, ⟨rfl, rfl, trivial⟩⟩
  · omega
  · omega
  · rw [hst, ← p1]; exact hk0
  · rw [hst, ← p2, ← p1, if_pos hk, List.append_nil]
  · (try simp only [List.length_append, List.length_singleton]); omega
 refine WC.exit (hK23 _ _ (WC.sr (WL.r 2 hs34 [0] rfl (WL.st tbk hs34 1 rfl rfl (fun _ hs78 => WL.r 1 hs78 [] rfl (WL.nil (WC.ret ?_)))))))
 refine retV2 rfl (resV.cellA tbk hs78 1 rfl rfl rfl rfl) (resV.tmp rfl) ?_
 have hi_ : i = n_b := by omega
 have ht : b.take i = b := List.take_of_length_le (by omega)
 rw [ht] at p1 p2
 refine ⟨r, _, _, _, _, _, rfl, (St.drop ((hs78.fr L30).fr L26) (List.Sublist.append_left (List.sublist_append_left L30 _) L26)), ?_, ?_, ?_, ?_⟩
 · exact ho27
 · exact ho31
 · rw [p1]
 · rw [p2]
theorem k152_ (t : TermR) (w : World) (f_t : okTermR 549755813888 w t) :
    Calls Tryz.prog 107 #[.agg #[i64 t.P.State, .bool t.P.Mark, .slice t.P.Args.A t.P.Args.n t.P.Args.c, .slice t.P.Part.A t.P.Part.n t.P.Part.c, i64 t.S.W, i64 t.S.H, i64 t.S.Main.W, i64 t.S.Main.H, .slice t.S.Main.Cells.A t.S.Main.Cells.n t.S.Main.Cells.c, i64 t.S.Alt.W, i64 t.S.Alt.H, .slice t.S.Alt.Cells.A t.S.Alt.Cells.n t.S.Alt.Cells.c, .bool t.S.OnAlt, i64 t.S.X, i64 t.S.Y, .bool t.S.Wrap, i64 t.S.A.Fg, i64 t.S.A.Bg, .bool t.S.A.Bold, .bool t.S.A.Under, .bool t.S.A.Turn, i64 t.S.Top, i64 t.S.Bot, .bool t.S.NoWrap, .bool t.S.Hide, i64 t.S.SaveX, i64 t.S.SaveY, i64 t.S.SaveA.Fg, i64 t.S.SaveA.Bg, .bool t.S.SaveA.Bold, .bool t.S.SaveA.Under, .bool t.S.SaveA.Turn, .slice t.S.Tabs.A t.S.Tabs.n t.S.Tabs.c, i64 t.S.Limit, .slice t.S.Back.A t.S.Back.n t.S.Back.c]] w fun e w' => e = .returned (.bool (termOk t.dat)) ∧ St w [] [] w' := by
 have nb_t_P_Args := f_t.P.Args_n
 have nl_t_P_Args := f_t.P.Args.len
 have nb_t_P_Part := f_t.P.Part_n
 have nl_t_P_Part := f_t.P.Part.len
 have nb_t_S_Main_Cells := f_t.S.Main.Cells_n
 have nl_t_S_Main_Cells := f_t.S.Main.Cells.len
 have nb_t_S_Alt_Cells := f_t.S.Alt.Cells_n
 have nl_t_S_Alt_Cells := f_t.S.Alt.Cells.len
 have nb_t_S_Tabs := f_t.S.Tabs_n
 have nl_t_S_Tabs := f_t.S.Tabs.len
 have nb_t_S_Back := f_t.S.Back_n
 have nl_t_S_Back := f_t.S.Back.sl.len
 refine enter 11 Tryz.func107 rfl Tryz.ntmps107 rfl rfl ?_
 have hs1 := St.init w
 refine WC.sr (WL.bx hs1 rfl (fun b2 _ hs3 => WL.r 1 hs3 [] rfl (WL.nil (WC.sr (WL.r 2 hs3 [0] rfl (WL.cl Tryz.call191 rfl (k115_ t.P _ (okVpR.st0 f_t.P hs3)) ?_))))))
 rintro _ whs4 ⟨rfl, hs4⟩
 replace hs4 := hs3.call0 hs4
 refine ⟨_, rfl, WL.r 1 hs4 [] rfl ?_⟩
 apply WL.gA 3 Acts.nil hs4 rfl
 ·intro g5 J6
  have qg5 := g5
  try simp only [bf, within_iff, within_not] at qg5
  refine WL.runA tbk 2 (Acts.nil.cons (j := 3) rfl g5) hs4 [0] rfl ⟨rfl, trivial⟩ (WL.call (wantT rfl g5) rfl rfl (Run.call Tryz.call29 rfl rfl rfl) (k75_ t.S _ (okScrR.st0 f_t.S hs4)) ?_)
  rintro _ whs7 ⟨rfl, hs7⟩
  replace hs7 := hs4.call0 hs7
  refine ⟨_, rfl, WL.eA 3 Acts.nil J6 hs7 g5 rfl rfl⟩
 intro _ hs8
 refine WL.r 1 hs8 [] rfl (WL.nil (WC.ret (rtv rfl rfl hs8 ?_)))
 rfl
theorem k153_ (t : TermR) (w : World) (f_t : okTermR 549755813888 w t) :
    Calls Tryz.prog 105 #[.agg #[i64 t.P.State, .bool t.P.Mark, .slice t.P.Args.A t.P.Args.n t.P.Args.c, .slice t.P.Part.A t.P.Part.n t.P.Part.c, i64 t.S.W, i64 t.S.H, i64 t.S.Main.W, i64 t.S.Main.H, .slice t.S.Main.Cells.A t.S.Main.Cells.n t.S.Main.Cells.c, i64 t.S.Alt.W, i64 t.S.Alt.H, .slice t.S.Alt.Cells.A t.S.Alt.Cells.n t.S.Alt.Cells.c, .bool t.S.OnAlt, i64 t.S.X, i64 t.S.Y, .bool t.S.Wrap, i64 t.S.A.Fg, i64 t.S.A.Bg, .bool t.S.A.Bold, .bool t.S.A.Under, .bool t.S.A.Turn, i64 t.S.Top, i64 t.S.Bot, .bool t.S.NoWrap, .bool t.S.Hide, i64 t.S.SaveX, i64 t.S.SaveY, i64 t.S.SaveA.Fg, i64 t.S.SaveA.Bg, .bool t.S.SaveA.Bold, .bool t.S.SaveA.Under, .bool t.S.SaveA.Turn, .slice t.S.Tabs.A t.S.Tabs.n t.S.Tabs.c, i64 t.S.Limit, .slice t.S.Back.A t.S.Back.n t.S.Back.c]] w fun e w' => e = .returned (.bool (termOk t.dat)) ∧ St w [] [] w' := by
 have nb_t_P_Args := f_t.P.Args_n
 have nl_t_P_Args := f_t.P.Args.len
 have nb_t_P_Part := f_t.P.Part_n
 have nl_t_P_Part := f_t.P.Part.len
 have nb_t_S_Main_Cells := f_t.S.Main.Cells_n
 have nl_t_S_Main_Cells := f_t.S.Main.Cells.len
 have nb_t_S_Alt_Cells := f_t.S.Alt.Cells_n
 have nl_t_S_Alt_Cells := f_t.S.Alt.Cells.len
 have nb_t_S_Tabs := f_t.S.Tabs_n
 have nl_t_S_Tabs := f_t.S.Tabs.len
 have nb_t_S_Back := f_t.S.Back_n
 have nl_t_S_Back := f_t.S.Back.sl.len
 refine enter 11 Tryz.func105 rfl Tryz.ntmps105 rfl rfl ?_
 have hs1 := St.init w
 refine WC.sr (WL.bx hs1 rfl (fun b2 _ hs3 => WL.r 1 hs3 [] rfl (WL.nil (WC.sr (WL.r 2 hs3 [0] rfl (WL.cl Tryz.call165 rfl (k116_ t.P _ (okVpR.st0 f_t.P hs3)) ?_))))))
 rintro _ whs4 ⟨rfl, hs4⟩
 replace hs4 := hs3.call0 hs4
 refine ⟨_, rfl, WL.r 1 hs4 [] rfl ?_⟩
 apply WL.gA 3 Acts.nil hs4 rfl
 ·intro g5 J6
  have qg5 := g5
  try simp only [bf, within_iff, within_not] at qg5
  refine WL.runA tbk 2 (Acts.nil.cons (j := 3) rfl g5) hs4 [0] rfl ⟨rfl, trivial⟩ (WL.call (wantT rfl g5) rfl rfl (Run.call Tryz.call63 rfl rfl rfl) (k78_ t.S _ (okScrR.st0 f_t.S hs4)) ?_)
  rintro _ whs7 ⟨rfl, hs7⟩
  replace hs7 := hs4.call0 hs7
  refine ⟨_, rfl, WL.eA 3 Acts.nil J6 hs7 g5 rfl rfl⟩
 intro _ hs8
 refine WL.r 1 hs8 [] rfl (WL.nil (WC.ret (rtv rfl rfl hs8 ?_)))
 rfl
theorem built_35_0_1 (x0 : Value) (x1 : Value) (x2 : Value) (x3 : Value) (x4 : Value) (x5 : Value) (x6 : Value) (x7 : Value) (x8 : Value) (x9 : Value) (x10 : Value) (x11 : Value) (x12 : Value) (x13 : Value) (x14 : Value) (x15 : Value) (x16 : Value) (x17 : Value) (x18 : Value) (x19 : Value) (x20 : Value) (x21 : Value) (x22 : Value) (x23 : Value) (x24 : Value) (x25 : Value) (x26 : Value) (x27 : Value) (x28 : Value) (x29 : Value) (x30 : Value) (x31 : Value) (x32 : Value) (x33 : Value) (x34 : Value) : Tryz.prog.built 35 [(0, .agg [x0, x1, x2, x3].toArray), (1, .agg [x4, x5, x6, x7, x8, x9, x10, x11, x12, x13, x14, x15, x16, x17, x18, x19, x20, x21, x22, x23, x24, x25, x26, x27, x28, x29, x30, x31, x32, x33, x34].toArray)] = some (List.toArray [x0, x1, x2, x3, x4, x5, x6, x7, x8, x9, x10, x11, x12, x13, x14, x15, x16, x17, x18, x19, x20, x21, x22, x23, x24, x25, x26, x27, x28, x29, x30, x31, x32, x33, x34]) := by kernel_rfl
theorem k154_ (t : TermR) (w : World) (f_t : okTermR 549755813888 w t) (hsm : smTerm 1048576 t.dat) :
    Calls Tryz.prog 116 #[.agg #[i64 t.P.State, .bool t.P.Mark, .slice t.P.Args.A t.P.Args.n t.P.Args.c, .slice t.P.Part.A t.P.Part.n t.P.Part.c, i64 t.S.W, i64 t.S.H, i64 t.S.Main.W, i64 t.S.Main.H, .slice t.S.Main.Cells.A t.S.Main.Cells.n t.S.Main.Cells.c, i64 t.S.Alt.W, i64 t.S.Alt.H, .slice t.S.Alt.Cells.A t.S.Alt.Cells.n t.S.Alt.Cells.c, .bool t.S.OnAlt, i64 t.S.X, i64 t.S.Y, .bool t.S.Wrap, i64 t.S.A.Fg, i64 t.S.A.Bg, .bool t.S.A.Bold, .bool t.S.A.Under, .bool t.S.A.Turn, i64 t.S.Top, i64 t.S.Bot, .bool t.S.NoWrap, .bool t.S.Hide, i64 t.S.SaveX, i64 t.S.SaveY, i64 t.S.SaveA.Fg, i64 t.S.SaveA.Bg, .bool t.S.SaveA.Bold, .bool t.S.SaveA.Under, .bool t.S.SaveA.Turn, .slice t.S.Tabs.A t.S.Tabs.n t.S.Tabs.c, i64 t.S.Limit, .slice t.S.Back.A t.S.Back.n t.S.Back.c]] w fun e w' => ∃ r L1, e = .returned (.agg #[i64 r.P.State, .bool r.P.Mark, .slice r.P.Args.A r.P.Args.n r.P.Args.c, .slice r.P.Part.A r.P.Part.n r.P.Part.c, i64 r.S.W, i64 r.S.H, i64 r.S.Main.W, i64 r.S.Main.H, .slice r.S.Main.Cells.A r.S.Main.Cells.n r.S.Main.Cells.c, i64 r.S.Alt.W, i64 r.S.Alt.H, .slice r.S.Alt.Cells.A r.S.Alt.Cells.n r.S.Alt.Cells.c, .bool r.S.OnAlt, i64 r.S.X, i64 r.S.Y, .bool r.S.Wrap, i64 r.S.A.Fg, i64 r.S.A.Bg, .bool r.S.A.Bold, .bool r.S.A.Under, .bool r.S.A.Turn, i64 r.S.Top, i64 r.S.Bot, .bool r.S.NoWrap, .bool r.S.Hide, i64 r.S.SaveX, i64 r.S.SaveY, i64 r.S.SaveA.Fg, i64 r.S.SaveA.Bg, .bool r.S.SaveA.Bold, .bool r.S.SaveA.Under, .bool r.S.SaveA.Turn, .slice r.S.Tabs.A r.S.Tabs.n r.S.Tabs.c, i64 r.S.Limit, .slice r.S.Back.A r.S.Back.n r.S.Back.c]) ∧ St w [] L1 w' ∧ ownTermR r L1 ∧ r.dat = t.dat := by
 have nb_t_P_Args := f_t.P.Args_n
 have nl_t_P_Args := f_t.P.Args.len
 have nb_t_P_Part := f_t.P.Part_n
 have nl_t_P_Part := f_t.P.Part.len
 have nb_t_S_Main_Cells := f_t.S.Main.Cells_n
 have nl_t_S_Main_Cells := f_t.S.Main.Cells.len
 have nb_t_S_Alt_Cells := f_t.S.Alt.Cells_n
 have nl_t_S_Alt_Cells := f_t.S.Alt.Cells.len
 have nb_t_S_Tabs := f_t.S.Tabs_n
 have nl_t_S_Tabs := f_t.S.Tabs.len
 have nb_t_S_Back := f_t.S.Back_n
 have nl_t_S_Back := f_t.S.Back.sl.len
 refine enter 10 Tryz.func116 rfl Tryz.ntmps116 rfl rfl ?_
 have hs1 := St.init w
 refine WC.sr (WL.bx hs1 rfl (fun b2 _ hs3 => WL.al hs3 Tryz.zeroValue35 rfl rfl (fun b4 _ hs5 => WL.nil (WC.seq (fun K6 hK6 => WC.rH hs5.d1 hs5 (fun _ hs7 => ?_))))))
 refine WH.rn [0, 1, 3, 4] hs7.d1 [0, 0] rfl rfl (WH.o1 2 rfl (WL.cl Tryz.call200 rfl (k143_ t.P _ (okVpR.st0 f_t.P hs7) ?_) ?_))
 · first | assumption | rfl | omega | exact hsm.1 | exact hsm.2
 rintro _ whs8 ⟨r9, L1_10, rfl, hs8, ho11, hd12⟩
 replace hs8 := hs7.callF hs8
 refine ⟨_, rfl, ?_⟩
 replace hs8 := St.back [_, _] hs8
 have hvp := hd12
 refine WL.nil ⟨(hs8.d1.rm L1_10), WH.o1 5 rfl (WL.cl Tryz.call150 rfl (k81_ t.S _ (okScrR.st0 f_t.S hs8) ?_) ?_)⟩
 · first | assumption | rfl | omega | exact hsm.1 | exact hsm.2
 rintro _ whs13 ⟨r14, L1_15, rfl, hs13, ho16, hd17⟩
 replace hs13 := hs8.callF hs13
 refine ⟨_, rfl, ?_⟩
 replace hs13 := St.back [_, _] hs13
 have hsp := hd17
 refine WL.nil ⟨((hs13.d1.rm L1_15).rm L1_10), ?_⟩
 refine WH.take 6 rfl (by kernel_rfl) rfl rfl rfl ((hs13.d1.rm L1_15).rm L1_10) (fun w_ hs_ => (Run.build rfl rfl rfl rfl (built_35_0_1 _ _ _ _ _ _ _ _ _ _ _ _ _ _ _ _ _ _ _ _ _ _ _ _ _ _ _ _ _ _ _ _ _ _ _))) ?_
 refine WH.o1 7 rfl (WL.st tbk hs13 0 rfl rfl (fun _ hs18 => WL.nil ⟨((hs18.d1.rm L1_15).rm L1_10), WH.dn (hK6 _ _ (WC.ret (retV1 rfl (resV.cellA tbk hs18 0 rfl rfl rfl rfl) ?_)))⟩))
 obtain ⟨L19, L20, hs23, ho21, ho22⟩ := ownVpR.op hs18 ho11
 have hs24 := ((hs23.fb b2).fb b4)
 obtain ⟨L25, L26, L27, L28, hs33, ho29, ho30, ho31, ho32⟩ := ownScrR.op hs24 ho16
 have hs34 := ((hs33.fb b2).fb b4)
 obtain ⟨L36, hs35, ho37⟩ := ownTermR.fl hs34 ho21 ho22 ho29 ho30 ho31 ho32
 have hs38 := ((hs35.fb b2).fb b4)
 refine ownTermR.ret rfl (St.keep1 (hs38.fr L36)) ho37 ?_
 · exact TermD.ext' hvp hsp
end Go.Proofs.YtjmegoiclgancaaGreat
