/-
  The statement: for every input the law returns true. No condition. (And what it stands on, the last part.)
-/
import Derived.Test.YtgigdjgjmfekkaaGreatDoorKG6
namespace Go.Proofs.YtgigdjgjmfekkaaGreatDoor
open Go Go.RowKit
set_option linter.unusedVariables false
set_option linter.unusedSimpArgs false
theorem k141_ (u_0 u_1 u_2 u_3 : Value) (b_s : Nat) (s : ScrR) (L_s : Hp) (x : Int) (y : Int) (w : World) (hb_s : w.heap[b_s]? = some (Obj.cells (List.toArray (u_0 :: u_1 :: u_2 :: u_3 :: (cScr s))) 36 (0, 0))) (o_s : ownScrR s L_s) (h_s : Hh w L_s) (hd_ : (b_s :: L_s.map (·.1)).Nodup) (hwh : (1 ≤ s.W ∧ s.W ≤ 120) ∧ 1 ≤ s.H ∧ s.H ≤ 120) :
    Calls Tryz.prog 76 #[.pointer (some ⟨b_s, 4, none⟩), i64 x, i64 y] w fun e w' => ∃ r L1, e = .returned (.tuple #[]) ∧ St w (b_s :: L_s.map (·.1)) ([(b_s, Obj.cells (List.toArray (u_0 :: u_1 :: u_2 :: u_3 :: (cScr r))) 36 (0, 0))] ++ L1) w' ∧ ownScrR r L1 ∧ r.dat = moveD s.dat x y := by
 refine enter 31 Tryz.func76 rfl Tryz.ntmps76 rfl rfl ?_
 have hs1 := St.takeP w b_s _ L_s hb_s h_s hd_
 refine WC.rG 21 hs1.d1 hs1 hs1 (fun _ hs2 => ?_)
 refine WG.rn [0, 1, 2, 3, 4, 5, 6, 7, 8, 9, 10, 11, 12, 13, 14, 15, 16, 17, 18, 19, 20] hs2 [0, 0] rfl rfl (WG.oK rfl (WL.st tbk hs2 0 rfl rfl (fun _ hs3 => WL.nil ⟨hs3.d1, WH.rn [22, 23] hs3.d1 [] rfl rfl (WH.o1 24 rfl (WL.st tbk hs3 0 rfl rfl (fun _ hs4 => WL.nil ⟨hs4.d1, ?_⟩)))⟩)))
 refine WH.rn [25, 26] hs4.d1 [] rfl rfl (WH.o1 27 rfl (WL.st tbk hs4 0 rfl rfl (fun _ hs5 => WL.nil ⟨hs5.d1, WH.dn (retK0 rfl ?_)⟩)))
 obtain ⟨L6, L7, L8, L9, hs14, ho10, ho11, ho12, ho13⟩ := ownScrR.op hs5 o_s
 have hs15 := (hs14.fb b_s)
 obtain ⟨L17, hs16, ho18⟩ := ownScrR.fl hs15 ho10 ho11 ho12 ho13
 have hs19 := (hs16.fb b_s)
 refine ownScrR.retp4 rfl ((hs19.fr L17).fb b_s) ho18 ?_
 · rfl
theorem k142_ (u_0 u_1 u_2 u_3 : Value) (b_s : Nat) (s : ScrR) (L_s : Hp) (n : Int) (m : Int) (b : Int) (w : World) (hb_s : w.heap[b_s]? = some (Obj.cells (List.toArray (u_0 :: u_1 :: u_2 :: u_3 :: (cScr s))) 36 (0, 0))) (o_s : ownScrR s L_s) (h_s : Hh w L_s) (hd_ : (b_s :: L_s.map (·.1)).Nodup) (hf : ScrFine s.dat) (hn : 0 ≤ n ∧ n ≤ 9999) (hm : 0 ≤ m ∧ m ≤ 9999) :
    Calls Tryz.prog 120 #[.pointer (some ⟨b_s, 4, none⟩), i64 n, i64 m, i64 b] w fun e w' => ∃ r L1, e = .returned (.bool (isMove b)) ∧ St w (b_s :: L_s.map (·.1)) ([(b_s, Obj.cells (List.toArray (u_0 :: u_1 :: u_2 :: u_3 :: (cScr r))) 36 (0, 0))] ++ L1) w' ∧ ownScrR r L1 ∧ r.dat = moveByD s.dat n m b := by
 have hwh : (1 ≤ s.W ∧ s.W ≤ 120) ∧ 1 ≤ s.H ∧ s.H ≤ 120 := ⟨(isSize_bnd hf.size).1, (isSize_bnd hf.size).2.1⟩
 have hxy := hf.pos
 simp only [ScrR.dat, GridR.dat] at hxy
 refine enter 95 Tryz.func120 rfl Tryz.ntmps120 rfl rfl ?_
 have hs1 := St.takeP w b_s _ L_s hb_s h_s hd_
 refine WC.r1 hs1 [] rfl (WC.seq (fun K2 hK2 => WC.r1 hs1 [] rfl (WC.block (WC.r1 hs1 [] rfl ?_))))
 refine WC.cq rfl (fun h3 qh3 => ?_) (fun h3 qh3 => ?_)
 ·have e65 : b = 65 := by have h9 := h3; simpa using h9
  refine WC.rG 11 (hs1.d1.rm L_s) hs1 hs1 (fun _ hs4 => ?_)
  refine WG.rn [0, 1, 2, 3, 4, 5, 6, 7, 8, 9, 10] hs4 [0, 0] rfl rfl (WG.oK rfl ?_)
  have hF5 := ((hs4.fr L_s).fb b_s)
  refine WL.cl Tryz.call76 rfl (k141_ _ _ _ _ _ s _ _ _ _ (St.headP hF5) o_s (St.ownP hF5) (St.nodupP hF5) ?_) ?_
  · first | assumption | rfl | omega
  rintro _ whs6 ⟨r7, L8, rfl, hs6, ho9, hd10⟩
  replace hs6 := St.lendP hF5 hs6
  refine ⟨_, rfl, WL.nil ⟨(hs6.d1.rm L8), WH.dn (hK2 _ _ (WC.r1 hs6 [] rfl (WC.ret (retV1 rfl (resV.tmp rfl) ?_))))⟩⟩
  have hmv : isMove b = true := by unfold isMove; rw [decide_eq_true_eq]; omega
  refine ⟨r7, _, (by rw [hmv]), St.keepP (L1 := L8) ((hs6.fr L8).fb b_s), ho9, ?_⟩
  · unfold moveByD; rw [if_pos e65]; exact hd10
 have e65 : ¬ b = 65 := by have h9 := h3; simpa using h9
 refine WC.r1 hs1 [] rfl (WC.cq rfl (fun h11 qh11 => ?_) (fun h11 qh11 => ?_))
 ·have e66 : b = 66 := by have h9 := h11; simpa using h9
  refine WC.rG 11 (hs1.d1.rm L_s) hs1 hs1 (fun _ hs12 => ?_)
  refine WG.rn [0, 1, 2, 3, 4, 5, 6, 7, 8, 9, 10] hs12 [0, 0] rfl rfl (WG.oK rfl ?_)
  have hF13 := ((hs12.fr L_s).fb b_s)
  refine WL.cl Tryz.call76 rfl (k141_ _ _ _ _ _ s _ _ _ _ (St.headP hF13) o_s (St.ownP hF13) (St.nodupP hF13) ?_) ?_
  · first | assumption | rfl | omega
  rintro _ whs14 ⟨r15, L16, rfl, hs14, ho17, hd18⟩
  replace hs14 := St.lendP hF13 hs14
  refine ⟨_, rfl, WL.nil ⟨(hs14.d1.rm L16), WH.dn (hK2 _ _ (WC.r1 hs14 [] rfl (WC.ret (retV1 rfl (resV.tmp rfl) ?_))))⟩⟩
  have hmv : isMove b = true := by unfold isMove; rw [decide_eq_true_eq]; omega
  refine ⟨r15, _, (by rw [hmv]), St.keepP (L1 := L16) ((hs14.fr L16).fb b_s), ho17, ?_⟩
  · unfold moveByD; rw [if_neg e65, if_pos e66]; exact hd18
 have e66 : ¬ b = 66 := by have h9 := h11; simpa using h9
 refine WC.r1 hs1 [] rfl (WC.cq rfl (fun h19 qh19 => ?_) (fun h19 qh19 => ?_))
 ·have e67 : b = 67 := by have h9 := h19; simpa using h9
  refine WC.rG 11 (hs1.d1.rm L_s) hs1 hs1 (fun _ hs20 => ?_)
  refine WG.rn [0, 1, 2, 3, 4, 5, 6, 7, 8, 9, 10] hs20 [0, 0] rfl rfl (WG.oK rfl ?_)
  have hF21 := ((hs20.fr L_s).fb b_s)
  refine WL.cl Tryz.call76 rfl (k141_ _ _ _ _ _ s _ _ _ _ (St.headP hF21) o_s (St.ownP hF21) (St.nodupP hF21) ?_) ?_
  · first | assumption | rfl | omega
  rintro _ whs22 ⟨r23, L24, rfl, hs22, ho25, hd26⟩
  replace hs22 := St.lendP hF21 hs22
  refine ⟨_, rfl, WL.nil ⟨(hs22.d1.rm L24), WH.dn (hK2 _ _ (WC.r1 hs22 [] rfl (WC.ret (retV1 rfl (resV.tmp rfl) ?_))))⟩⟩
  have hmv : isMove b = true := by unfold isMove; rw [decide_eq_true_eq]; omega
  refine ⟨r23, _, (by rw [hmv]), St.keepP (L1 := L24) ((hs22.fr L24).fb b_s), ho25, ?_⟩
  · unfold moveByD; rw [if_neg e65, if_neg e66, if_pos e67]; exact hd26
 have e67 : ¬ b = 67 := by have h9 := h19; simpa using h9
 refine WC.r1 hs1 [] rfl (WC.cq rfl (fun h27 qh27 => ?_) (fun h27 qh27 => ?_))
 ·have e68 : b = 68 := by have h9 := h27; simpa using h9
  refine WC.rG 11 (hs1.d1.rm L_s) hs1 hs1 (fun _ hs28 => ?_)
  refine WG.rn [0, 1, 2, 3, 4, 5, 6, 7, 8, 9, 10] hs28 [0, 0] rfl rfl (WG.oK rfl ?_)
  have hF29 := ((hs28.fr L_s).fb b_s)
  refine WL.cl Tryz.call76 rfl (k141_ _ _ _ _ _ s _ _ _ _ (St.headP hF29) o_s (St.ownP hF29) (St.nodupP hF29) ?_) ?_
  · first | assumption | rfl | omega
  rintro _ whs30 ⟨r31, L32, rfl, hs30, ho33, hd34⟩
  replace hs30 := St.lendP hF29 hs30
  refine ⟨_, rfl, WL.nil ⟨(hs30.d1.rm L32), WH.dn (hK2 _ _ (WC.r1 hs30 [] rfl (WC.ret (retV1 rfl (resV.tmp rfl) ?_))))⟩⟩
  have hmv : isMove b = true := by unfold isMove; rw [decide_eq_true_eq]; omega
  refine ⟨r31, _, (by rw [hmv]), St.keepP (L1 := L32) ((hs30.fr L32).fb b_s), ho33, ?_⟩
  · unfold moveByD; rw [if_neg e65, if_neg e66, if_neg e67, if_pos e68]; exact hd34
 have e68 : ¬ b = 68 := by have h9 := h27; simpa using h9
 refine WC.r1 hs1 [] rfl (WC.cq rfl (fun h35 qh35 => ?_) (fun h35 qh35 => ?_))
 ·have e71 : b = 71 := by have h9 := h35; simpa using h9
  refine WC.region (WL.r 7 hs1 [0] rfl ?_)
  have hF36 := ((hs1.fr L_s).fb b_s)
  refine WL.cl Tryz.call76 rfl (k141_ _ _ _ _ _ s _ _ _ _ (St.headP hF36) o_s (St.ownP hF36) (St.nodupP hF36) ?_) ?_
  · first | assumption | rfl | omega
  rintro _ whs37 ⟨r38, L39, rfl, hs37, ho40, hd41⟩
  replace hs37 := St.lendP hF36 hs37
  refine ⟨_, rfl, WL.nil (hK2 _ _ (WC.r1 hs37 [] rfl (WC.ret (retV1 rfl (resV.tmp rfl) ?_))))⟩
  have hmv : isMove b = true := by unfold isMove; rw [decide_eq_true_eq]; omega
  refine ⟨r38, _, (by rw [hmv]), St.keepP (L1 := L39) ((hs37.fr L39).fb b_s), ho40, ?_⟩
  · unfold moveByD; rw [if_neg e65, if_neg e66, if_neg e67, if_neg e68, if_pos e71]; exact hd41
 have e71 : ¬ b = 71 := by have h9 := h35; simpa using h9
 refine WC.r1 hs1 [] rfl (WC.cq rfl (fun h42 qh42 => ?_) (fun h42 qh42 => ?_))
 ·have e100 : b = 100 := by have h9 := h42; simpa using h9
  refine WC.region (WL.r 7 hs1 [0] rfl ?_)
  have hF43 := ((hs1.fr L_s).fb b_s)
  refine WL.cl Tryz.call76 rfl (k141_ _ _ _ _ _ s _ _ _ _ (St.headP hF43) o_s (St.ownP hF43) (St.nodupP hF43) ?_) ?_
  · first | assumption | rfl | omega
  rintro _ whs44 ⟨r45, L46, rfl, hs44, ho47, hd48⟩
  replace hs44 := St.lendP hF43 hs44
  refine ⟨_, rfl, WL.nil (hK2 _ _ (WC.r1 hs44 [] rfl (WC.ret (retV1 rfl (resV.tmp rfl) ?_))))⟩
  have hmv : isMove b = true := by unfold isMove; rw [decide_eq_true_eq]; omega
  refine ⟨r45, _, (by rw [hmv]), St.keepP (L1 := L46) ((hs44.fr L46).fb b_s), ho47, ?_⟩
  · unfold moveByD; rw [if_neg e65, if_neg e66, if_neg e67, if_neg e68, if_neg e71, if_pos e100]; exact hd48
 have e100 : ¬ b = 100 := by have h9 := h42; simpa using h9
 refine WC.seq (fun K49 hK49 => WC.r1 hs1 [] rfl ?_)
 refine WC.cq rfl (fun h50 qh50 => ?_) (fun h50 qh50 => ?_)
 ·have e72 : b = 72 := by have h9 := h50; simpa using h9
  refine WC.skip (hK49 _ _ (WC.condT rfl h50 (WC.region (WL.r 5 hs1 [] rfl ?_))))
  have hF52 := ((hs1.fr L_s).fb b_s)
  refine WL.cl Tryz.call76 rfl (k141_ _ _ _ _ _ s _ _ _ _ (St.headP hF52) o_s (St.ownP hF52) (St.nodupP hF52) ?_) ?_
  · first | assumption | rfl | omega
  rintro _ whs53 ⟨r54, L55, rfl, hs53, ho56, hd57⟩
  replace hs53 := St.lendP hF52 hs53
  refine ⟨_, rfl, WL.nil (hK2 _ _ (WC.r1 hs53 [] rfl (WC.ret (retV1 rfl (resV.tmp rfl) ?_))))⟩
  have hmv : isMove b = true := by unfold isMove; rw [decide_eq_true_eq]; omega
  refine ⟨r54, _, (by rw [hmv]), St.keepP (L1 := L55) ((hs53.fr L55).fb b_s), ho56, ?_⟩
  · unfold moveByD; rw [if_neg e65, if_neg e66, if_neg e67, if_neg e68, if_neg e71, if_neg e100, if_pos (show b = 72 ∨ b = 102 by omega)]; exact hd57
 have e72 : ¬ b = 72 := by have h9 := h50; simpa using h9
 refine WC.region (WL.r 2 hs1 [] rfl (WL.nil (hK49 _ _ ?_)))
 refine WC.cq rfl (fun h58 qh58 => ?_) (fun h58 qh58 => ?_)
 ·have e102 : b = 102 := by have h9 := h58; simpa using h9
  refine WC.region (WL.r 5 hs1 [] rfl ?_)
  have hF59 := ((hs1.fr L_s).fb b_s)
  refine WL.cl Tryz.call76 rfl (k141_ _ _ _ _ _ s _ _ _ _ (St.headP hF59) o_s (St.ownP hF59) (St.nodupP hF59) ?_) ?_
  · first | assumption | rfl | omega
  rintro _ whs60 ⟨r61, L62, rfl, hs60, ho63, hd64⟩
  replace hs60 := St.lendP hF59 hs60
  refine ⟨_, rfl, WL.nil (hK2 _ _ (WC.r1 hs60 [] rfl (WC.ret (retV1 rfl (resV.tmp rfl) ?_))))⟩
  have hmv : isMove b = true := by unfold isMove; rw [decide_eq_true_eq]; omega
  refine ⟨r61, _, (by rw [hmv]), St.keepP (L1 := L62) ((hs60.fr L62).fb b_s), ho63, ?_⟩
  · unfold moveByD; rw [if_neg e65, if_neg e66, if_neg e67, if_neg e68, if_neg e71, if_neg e100, if_pos (show b = 72 ∨ b = 102 by omega)]; exact hd64
 have e102 : ¬ b = 102 := by have h9 := h58; simpa using h9
 refine WC.r1 hs1 [] rfl (WC.ret (ibR (tkR ?_)))
 clear hK2
 refine retV1 rfl (resV.tmp rfl) ?_
 have hmv : isMove b = false := by unfold isMove; rw [decide_eq_false_iff_not]; omega
 refine ⟨s, _, (by rw [hmv]), St.keepP (L1 := L_s) ((hs1.fr L_s).fb b_s), o_s, ?_⟩
 · unfold moveByD; rw [if_neg e65, if_neg e66, if_neg e67, if_neg e68, if_neg e71, if_neg e100, if_neg (show ¬ (b = 72 ∨ b = 102) by omega)]
theorem k143_ (u_0 u_1 u_2 u_3 : Value) (b_s : Nat) (s : ScrR) (L_s : Hp) (A_l : Option Addr) (n_l c_l : Nat) (l : List Int) (n : Int) (w : World) (hb_s : w.heap[b_s]? = some (Obj.cells (List.toArray (u_0 :: u_1 :: u_2 :: u_3 :: (cScr s))) 36 (0, 0))) (o_s : ownScrR s L_s) (h_s : Hh w L_s) (f_l : SlF encI w A_l n_l l) (hd_ : (b_s :: L_s.map (·.1)).Nodup) (s_l : 0 < n_l → (adr A_l).block ∉ (b_s :: L_s.map (·.1))) (hf : ScrFine s.dat) (hna : n = argI l 0 1) (hl : areArgs l = true) (hll : n_l ≤ 549755813888) :
    Calls Tryz.prog 124 #[.pointer (some ⟨b_s, 4, none⟩), .slice A_l n_l c_l, i64 n] w fun e w' => ∃ r L1, e = .returned (.tuple #[]) ∧ St w (b_s :: L_s.map (·.1)) ([(b_s, Obj.cells (List.toArray (u_0 :: u_1 :: u_2 :: u_3 :: (cScr r))) 36 (0, 0))] ++ L1) w' ∧ ownScrR r L1 ∧ r.dat = regionD s.dat l := by
 have hwh : (1 ≤ s.W ∧ s.W ≤ 120) ∧ 1 ≤ s.H ∧ s.H ≤ 120 := ⟨(isSize_bnd hf.size).1, (isSize_bnd hf.size).2.1⟩
 have hxy := hf.pos
 simp only [ScrR.dat, GridR.dat] at hxy
 have ha0 := argI_bnd (k := 0) (d := 1) hl (by omega)
 have ha1 : 0 ≤ argI l 1 s.H ∧ argI l 1 s.H ≤ 9999 := argI_bnd hl (by omega)
 refine enter 38 Tryz.func124 rfl Tryz.ntmps124 rfl rfl ?_
 have hs1 := St.takeP w b_s _ L_s hb_s h_s hd_
 refine WC.sr (WL.r 7 hs1 [0] rfl (WL.cl Tryz.call119 rfl (k97_ _ _ _ _ _ _ (SlF.st f_l hs1 s_l) ?_) ?_))
 · first | assumption | rfl | omega
 rintro _ whs2 ⟨rfl, hs2⟩
 replace hs2 := hs1.call0 hs2
 refine ⟨_, rfl, WL.r 3 hs2 [] rfl (WL.nil (WC.sr (WL.r 4 hs2 [] rfl (WL.pA tbk 6 Acts.nil hs2 [0] rfl rfl rfl rfl (fun g_ => ⟨rfl, trivial⟩) (WL.nil (WC.cq rfl (fun h3 qh3 => ?_) (fun h3 qh3 => ?_)))))))⟩
 ·have hr : n - 1 < argI l 1 s.H - 1 ∧ argI l 1 s.H - 1 < s.H := by have h9 := h3; simp at h9; omega
  refine WC.sr (WL.r 6 hs2 [] rfl (WL.st tbk hs2 0 rfl rfl (fun _ hs4 => WL.r 2 hs4 [] rfl (WL.st tbk hs4 0 rfl rfl (fun _ hs5 => WL.nil (WC.region (WL.r 1 hs5 [] rfl ?_)))))))
  obtain ⟨L6, L7, L8, L9, hs14, ho10, ho11, ho12, ho13⟩ := ownScrR.op hs5 o_s
  have hs15 := (hs14.fb b_s)
  obtain ⟨L17, hs16, ho18⟩ := ownScrR.fl hs15 ho10 ho11 ho12 ho13
  have hs19 := (hs16.fb b_s)
  have hF20 := ((hs19.fr L17).fb b_s)
  refine WL.cl Tryz.call76 rfl (k141_ _ _ _ _ _ ⟨s.W, s.H, ⟨s.Main.W, s.Main.H, SlD.of ho10⟩, ⟨s.Alt.W, s.Alt.H, SlD.of ho11⟩, s.OnAlt, s.X, s.Y, s.Wrap, ⟨s.A.Fg, s.A.Bg, s.A.Bold, s.A.Under, s.A.Turn⟩, (n - (1)), _, s.NoWrap, s.Hide, s.SaveX, s.SaveY, ⟨s.SaveA.Fg, s.SaveA.Bg, s.SaveA.Bold, s.SaveA.Under, s.SaveA.Turn⟩, SlD.of ho12, s.Limit, SlD.ofN ho13⟩ _ _ _ _ (St.headP hF20) (by exact ho18) (St.ownP hF20) (St.nodupP hF20) ?_) ?_
  · first | assumption | rfl | omega
  rintro _ whs21 ⟨r22, L23, rfl, hs21, ho24, hd25⟩
  replace hs21 := St.lendP hF20 hs21
  refine ⟨_, rfl, WL.nil (retK0 rfl (⟨r22, _, rfl, St.keepP (L1 := L23) ((hs21.fr L23).fb b_s), ho24, ?_⟩))⟩
  · unfold regionD; rw [if_pos (show argI l 0 1 - 1 < argI l 1 s.dat.H - 1 ∧ argI l 1 s.dat.H - 1 < s.dat.H from hna ▸ hr), ← hna]; exact hd25
 have hr : ¬ (n - 1 < argI l 1 s.H - 1 ∧ argI l 1 s.H - 1 < s.H) := by rintro ⟨h7, h8⟩; have h9 := h3; simp at h9; have := h9 (by omega); omega
 refine WC.skip (retK0 rfl (⟨s, _, rfl, St.keepP (L1 := L_s) ((hs2.fr L_s).fb b_s), o_s, ?_⟩))
 · unfold regionD; rw [if_neg (show ¬ (argI l 0 1 - 1 < argI l 1 s.dat.H - 1 ∧ argI l 1 s.dat.H - 1 < s.dat.H) from hna ▸ hr)]
theorem k144_ (u_0 u_1 u_2 u_3 : Value) (b_s : Nat) (s : ScrR) (L_s : Hp) (n : Int) (on : Bool) (w : World) (hb_s : w.heap[b_s]? = some (Obj.cells (List.toArray (u_0 :: u_1 :: u_2 :: u_3 :: (cScr s))) 36 (0, 0))) (o_s : ownScrR s L_s) (h_s : Hh w L_s) (hd_ : (b_s :: L_s.map (·.1)).Nodup) (hf : ScrFine s.dat) (hsmB : smScr 549755813888 s.dat) :
    Calls Tryz.prog 86 #[.pointer (some ⟨b_s, 4, none⟩), i64 n, .bool on] w fun e w' => ∃ r L1, e = .returned (.tuple #[]) ∧ St w (b_s :: L_s.map (·.1)) ([(b_s, Obj.cells (List.toArray (u_0 :: u_1 :: u_2 :: u_3 :: (cScr r))) 36 (0, 0))] ++ L1) w' ∧ ownScrR r L1 ∧ r.dat = modeD s.dat n on := by
 have hwh : (1 ≤ s.W ∧ s.W ≤ 120) ∧ 1 ≤ s.H ∧ s.H ≤ 120 := ⟨(isSize_bnd hf.size).1, (isSize_bnd hf.size).2.1⟩
 have hxy := hf.pos
 simp only [ScrR.dat, GridR.dat] at hxy
 have hsz : isSize s.W s.H = true := hf.size
 refine enter 80 Tryz.func86 rfl Tryz.ntmps86 rfl rfl ?_
 have hs1 := St.takeP w b_s _ L_s hb_s h_s hd_
 refine WC.block (WC.r1 hs1 [] rfl (WC.cq rfl (fun h2 qh2 => ?_) (fun h2 qh2 => ?_)))
 ·have e7 : n = 7 := by have h9 := h2; simpa using h9
  refine WC.region (WL.r 9 hs1 [0] rfl (WL.pA tbk 1 Acts.nil hs1 [] rfl rfl rfl rfl (fun g_ => trivial) (WL.r 2 hs1 [] rfl (WL.st tbk hs1 0 rfl rfl (fun _ hs3 => WL.r 2 hs3 [] rfl (WL.st tbk hs3 0 rfl rfl (fun _ hs4 => WL.nil ?_)))))))
  refine ibN (retK0 rfl ?_)
  obtain ⟨L5, L6, L7, L8, hs13, ho9, ho10, ho11, ho12⟩ := ownScrR.op hs4 o_s
  have hs14 := (hs13.fb b_s)
  obtain ⟨L16, hs15, ho17⟩ := ownScrR.fl hs14 ho9 ho10 ho11 ho12
  have hs18 := (hs15.fb b_s)
  refine ownScrR.retp4 rfl ((hs18.fr L16).fb b_s) ho17 ?_
  · unfold modeD; rw [if_pos e7]; rfl
 have e7 : ¬ n = 7 := by have h9 := h2; simpa using h9
 refine WC.r1 hs1 [] rfl (WC.cq rfl (fun h19 qh19 => ?_) (fun h19 qh19 => ?_))
 ·have e25 : n = 25 := by have h9 := h19; simpa using h9
  refine WC.region (WL.r 5 hs1 [] rfl (WL.st tbk hs1 0 rfl rfl (fun _ hs20 => WL.nil (ibN (retK0 rfl ?_)))))
  obtain ⟨L21, L22, L23, L24, hs29, ho25, ho26, ho27, ho28⟩ := ownScrR.op hs20 o_s
  have hs30 := (hs29.fb b_s)
  obtain ⟨L32, hs31, ho33⟩ := ownScrR.fl hs30 ho25 ho26 ho27 ho28
  have hs34 := (hs31.fb b_s)
  refine ownScrR.retp4 rfl ((hs34.fr L32).fb b_s) ho33 ?_
  · unfold modeD; rw [if_neg e7, if_pos e25]; rfl
 have e25 : ¬ n = 25 := by have h9 := h19; simpa using h9
 refine WC.sr (WL.r 3 hs1 [] rfl (WL.pA tbk 1 Acts.nil hs1 [] rfl rfl rfl rfl (fun g_ => trivial) (WL.r 1 hs1 [] rfl (WL.pA tbk 5 Acts.nil hs1 [0] rfl rfl rfl rfl (fun g_ => ⟨rfl, trivial⟩) (WL.r 1 hs1 [] rfl (WL.nil (WC.cq rfl (fun h35 qh35 => ?_) (fun h35 qh35 => ?_))))))))
 ·have a1 : (n = 1049 ∧ on = true) ∧ s.dat.OnAlt = false := by show (n = 1049 ∧ on = true) ∧ s.OnAlt = false; have h9 := h35; simp at h9; first | exact h9 | exact ⟨⟨h9.1.1, h9.1.2⟩, h9.2⟩ | exact ⟨⟨h9.1, h9.2.1⟩, h9.2.2⟩
  refine WC.sr (WL.r 1 hs1 [] rfl ?_)
  have hF36 := ((hs1.fr L_s).fb b_s)
  refine WL.cl Tryz.call80 rfl (k138_ _ _ _ _ _ s _ _ (St.headP hF36) o_s (St.ownP hF36) (St.nodupP hF36) ?_) ?_
  · first | assumption | rfl | omega
  rintro _ whs37 ⟨r38, L39, rfl, hs37, ho40, hd41⟩
  replace hs37 := St.lendP hF36 hs37
  refine ⟨_, rfl, ?_⟩
  have hrW : r38.W = s.W := congrArg ScrD.W hd41
  have hrH : r38.H = s.H := congrArg ScrD.H hd41
  have hszr : isSize r38.W r38.H = true := by rw [hrW, hrH]; exact hsz
  refine WL.nil (WC.rG 13 hs37.d1 hs37 hs37 (fun _ hs42 => ?_))
  refine WG.rn [0, 1, 2, 3, 4, 5, 6, 7, 8, 9] hs42 [0, 0] rfl rfl (WG.o1 10 rfl rfl (WL.cl Tryz.call117 rfl (k26_ _ _ _ ?_) ?_))
  · first | assumption | rfl | omega
  rintro _ whs43 ⟨r44, L1_45, rfl, hs43, ho46, hd47⟩
  replace hs43 := hs42.callF hs43
  refine ⟨_, rfl, ?_⟩
  replace hs43 := St.back [_] hs43
  refine WL.nil ⟨(hs43.rm L1_45), WG.rn [11, 12] (hs43.rm L1_45) [] rfl rfl (WG.oK rfl (WL.st tbk hs43 0 rfl rfl (fun _ hs48 => WL.nil ⟨(hs48.d1.rm L1_45), WH.rn [14, 15] (hs48.d1.rm L1_45) [] rfl rfl (WH.o1 16 rfl (WL.st tbk hs48 0 rfl rfl (fun _ hs49 => ?_)))⟩)))⟩
  refine WL.nil ⟨(hs49.d1.rm L1_45), WH.dn (ibN (retK0 rfl ?_))⟩
  obtain ⟨L50, L51, L52, L53, hs58, ho54, ho55, ho56, ho57⟩ := ownScrR.op hs49 ho40
  have hs59 := (hs58.fb b_s)
  obtain ⟨L61, hs60, ho62⟩ := ownScrR.fl hs59 ho54 ho46 ho56 ho57
  have hs63 := (hs60.fb b_s)
  refine ownScrR.retp4 rfl ((hs63.fr L61).fb b_s) ho62 ?_
  · unfold modeD; rw [if_neg e7, if_neg e25, if_pos a1]; show _ = ({ saveD s.dat with Alt := gridNew s.W s.H, OnAlt := true } : ScrD); rw [← hrW, ← hrH, ← hd47, ← hd41]; rfl
 have a1 : ¬ ((n = 1049 ∧ on = true) ∧ s.dat.OnAlt = false) := by show ¬ ((n = 1049 ∧ on = true) ∧ s.OnAlt = false); rintro ⟨⟨h1, h2⟩, h3⟩; have h9 := h35; simp [h1, h2, h3] at h9
 refine WC.sr (WL.r 3 hs1 [] rfl (WL.pA tbk 2 Acts.nil hs1 [] rfl rfl rfl rfl (fun g_ => trivial) (WL.r 1 hs1 [] rfl (WL.pA tbk 4 Acts.nil hs1 [0] rfl rfl rfl rfl (fun g_ => ⟨rfl, trivial⟩) (WL.r 1 hs1 [] rfl (WL.nil (WC.cq rfl (fun h64 qh64 => ?_) (fun h64 qh64 => ?_))))))))
 ·have a2 : (n = 1049 ∧ on = false) ∧ s.dat.OnAlt = true := by show (n = 1049 ∧ on = false) ∧ s.OnAlt = true; have h9 := h64; simp at h9; first | exact h9 | exact ⟨⟨h9.1.1, h9.1.2⟩, h9.2⟩ | exact ⟨⟨h9.1, h9.2.1⟩, h9.2.2⟩
  refine WC.sr (WL.r 3 hs1 [] rfl (WL.st tbk hs1 0 rfl rfl (fun _ hs65 => WL.nil (WC.region (WL.r 1 hs65 [] rfl ?_)))))
  obtain ⟨L66, L67, L68, L69, hs74, ho70, ho71, ho72, ho73⟩ := ownScrR.op hs65 o_s
  have hs75 := (hs74.fb b_s)
  obtain ⟨L77, hs76, ho78⟩ := ownScrR.fl hs75 ho70 ho71 ho72 ho73
  have hs79 := (hs76.fb b_s)
  have hF80 := ((hs79.fr L77).fb b_s)
  refine WL.cl Tryz.call81 rfl (k139_ _ _ _ _ _ ⟨s.W, s.H, ⟨s.Main.W, s.Main.H, SlD.of ho70⟩, ⟨s.Alt.W, s.Alt.H, SlD.of ho71⟩, false, s.X, s.Y, s.Wrap, ⟨s.A.Fg, s.A.Bg, s.A.Bold, s.A.Under, s.A.Turn⟩, s.Top, s.Bot, s.NoWrap, s.Hide, s.SaveX, s.SaveY, ⟨s.SaveA.Fg, s.SaveA.Bg, s.SaveA.Bold, s.SaveA.Under, s.SaveA.Turn⟩, SlD.of ho72, s.Limit, SlD.ofN ho73⟩ _ _ (St.headP hF80) (by exact ho78) (St.ownP hF80) (St.nodupP hF80) ?_) ?_
  · first | assumption | rfl | omega
  rintro _ whs81 ⟨r82, L83, rfl, hs81, ho84, hd85⟩
  replace hs81 := St.lendP hF80 hs81
  refine ⟨_, rfl, WL.nil (ibN (retK0 rfl (⟨r82, _, rfl, St.keepP (L1 := L83) ((hs81.fr L83).fb b_s), ho84, ?_⟩)))⟩
  · unfold modeD; rw [if_neg e7, if_neg e25, if_neg a1, if_pos a2]; exact hd85
 have a2 : ¬ ((n = 1049 ∧ on = false) ∧ s.dat.OnAlt = true) := by show ¬ ((n = 1049 ∧ on = false) ∧ s.OnAlt = true); rintro ⟨⟨h1, h2⟩, h3⟩; have h9 := h64; simp [h1, h2, h3] at h9
 refine WC.skip (ibN (retK0 rfl (⟨s, _, rfl, St.keepP (L1 := L_s) ((hs1.fr L_s).fb b_s), o_s, ?_⟩)))
 · unfold modeD; rw [if_neg e7, if_neg e25, if_neg a1, if_neg a2]
theorem k145_ (u_0 u_1 u_2 u_3 : Value) (b_s : Nat) (s : ScrR) (L_s : Hp) (a : Int) (b : Int) (w : World) (hb_s : w.heap[b_s]? = some (Obj.cells (List.toArray (u_0 :: u_1 :: u_2 :: u_3 :: (cScr s))) 36 (0, 0))) (o_s : ownScrR s L_s) (h_s : Hh w L_s) (hd_ : (b_s :: L_s.map (·.1)).Nodup) (hab : 0 ≤ a ∧ b ≤ s.Main.Cells.xs.length ∧ b ≤ 1048576 ∧ -1048576 ≤ b ∧ a ≤ 1048576) (hsmB : smScr 549755813888 s.dat) (hx : s.OnAlt = false) :
    Calls Tryz.prog 122 #[.pointer (some ⟨b_s, 4, none⟩), i64 a, i64 b] w fun e w' => ∃ r L1, e = .returned (.tuple #[]) ∧ St w (b_s :: L_s.map (·.1)) ([(b_s, Obj.cells (List.toArray (u_0 :: u_1 :: u_2 :: u_3 :: (cScr r))) 36 (0, 0))] ++ L1) w' ∧ ownScrR r L1 ∧ r.dat = clearD s.dat a b := by
 refine enter 23 Tryz.func122 rfl Tryz.ntmps122 rfl rfl ?_
 have hs1 := St.takeP w b_s _ L_s hb_s h_s hd_
 refine WC.sr (WL.r 1 hs1 [] rfl ?_)
 have hF2 := ((hs1.fr L_s).fb b_s)
 refine WL.cl Tryz.call74 rfl (k129_ _ _ _ _ _ s _ _ (St.headP hF2) o_s (St.ownP hF2) (St.nodupP hF2) ?_) ?_
 · first | assumption | rfl | omega
 rintro _ whs3 ⟨r4, L5, rfl, hs3, ho6, hd7⟩
 replace hs3 := St.lendP hF2 hs3
 refine ⟨_, rfl, ?_⟩
 have hrl : r4.Main.Cells.xs.length = s.Main.Cells.xs.length := congrArg (fun d : ScrD => d.Main.Cells.length) hd7
 have hln := ownScrR.len ‹ownScrR r4 _›
 refine WL.r 4 hs3 [0] rfl (WL.nil (WC.r1 hs3 [] rfl (WC.block ?_)))
 obtain ⟨L8, L9, L10, L11, hs16, ho12, ho13, ho14, ho15⟩ := ownScrR.op hs3 ho6
 have hs17 := (hs16.fb b_s)
 refine WC.lO [2, 6] rfl (hs17.fr L8) (fun k_ f L_ => ∃ (i : Nat) (zs : List CellD), k_ = (b - a).toNat - i ∧ (i ≤ (b - a).toNat) ∧ (zs.length = r4.Main.Cells.xs.length) ∧ (∀ k, k < r4.Main.Cells.xs.length → cat zs k = partF r4.Main.dat (clearF r4.Main.dat a b) a.toNat i k) ∧ OwnF encCell 108 (.slice r4.Main.Cells.A (r4.Main.Cells.n) r4.Main.Cells.c) (zs) L_ ∧ Sub [(7, .int .i64 (a + i))] f) (((fun (i : Nat) (zs : List CellD) => (b - a).toNat - i) (0) (r4.Main.Cells.xs))) ?_ ?_
 ·refine ⟨0, r4.Main.Cells.xs, rfl, ?_, ?_, ?_, ho12, ⟨?_, trivial⟩⟩
  · omega
  · rfl
  · intro k hk; rw [partF_zero]; rfl
  · (refine congrArg some (congrArg (Value.int _) ?_); omega)
 clear hs17
 rintro _ f w L20 ⟨i, zs, rfl, p0, p1, p2, ho21, hG⟩ hF hs22
 refine WC.sub _ (hG.app hF) ?_
 clear hG hF
 replace hs22 := St.back [_] hs22
 refine WC.seq (fun K23 hK23 => WC.r1 hs22 [] rfl ?_)
 refine WC.cD rfl (fun qh24 => ?_) (fun qh24 => ?_)
 ·refine WC.skip (hK23 _ _ (WC.seq (fun K25 hK25 => WC.block (WC.region (WL.r 2 hs22 [] rfl (WL.cl Tryz.call150 rfl (k21_ _) ?_))))))
  rintro _ whs26 ⟨rfl, hs26⟩
  replace hs26 := hs22.call0 hs26
  refine ⟨_, rfl, WL.val rfl rfl rfl (Run.idx Tryz.runUnderlying29 Tryz.sizeOf108 rfl rfl rfl ?_ ?_ ?_) ?_⟩
  · exact SlF.some_ (SlF.ofOwn ho21 (hs26.ow L20))
  · first | omega | (obtain ⟨h1, h2, _, _⟩ := hln; omega)
  · first | omega | (obtain ⟨h1, h2, _, _⟩ := hln; omega)
  refine WL.storeF1 (x' := blankC) (hs26.fr L20) ho21 Tryz.sizeOf108 rfl rfl rfl rfl rfl rfl rfl rfl rfl ?_ rfl (fun L27 whs28 hs28 ho29 _ => ?_)
  · first | omega | (obtain ⟨h1, h2, _, _⟩ := hln; omega)
  replace hs28 := St.back [_] hs28
  refine WL.nil (hK25 _ _ (WC.region (WL.r 3 hs28 [] rfl (WL.nil (tkN ?_)))))
  refine ⟨sbF rfl, _, (hs28.fr L27), _, ?_, i + 1, _, rfl, ?_, ?_, ?_, ho29, ⟨?_, trivial⟩⟩
  · omega
  · omega
  · rw [List.length_set]; exact p1
  · intro k hk; exact part_next (g := r4.Main.dat) (by omega) (by rw [p1]; omega) (clearF_in ⟨by omega, by omega⟩).symm (p2 k hk)
  · (refine congrArg some (congrArg (Value.int _) ?_); omega)
 refine WC.exit (tkE (tkE (ibE (retK0 rfl ?_))))
 obtain ⟨L31, hs30, ho32⟩ := ownScrR.fl hs22 ho21 ho13 ho14 ho15
 have hs33 := (hs30.fb b_s)
 refine ownScrR.retp4 rfl ((hs33.fr L31).fb b_s) ho32 ?_
 · rw [← hd7]; show _ = clearD r4.dat a b; rw [show clearD r4.dat a b = { r4.dat with Main := gmap r4.Main.dat (clearF r4.Main.dat a b) } from by unfold clearD putD shownD; rw [if_neg (show ¬ r4.dat.OnAlt = true from by have h8 : r4.OnAlt = s.OnAlt := congrArg ScrD.OnAlt hd7; show ¬ r4.OnAlt = true; rw [h8, hx]; decide), if_neg (show ¬ r4.dat.OnAlt = true from by have h8 : r4.OnAlt = s.OnAlt := congrArg ScrD.OnAlt hd7; show ¬ r4.OnAlt = true; rw [h8, hx]; decide)]; rfl]; exact ScrD.ext' rfl rfl (part_done (g := r4.Main.dat) (lo := a.toNat) (a := i) rfl rfl p1 (fun k hk h9 => clearF_out (by omega)) p2) rfl rfl rfl rfl rfl rfl rfl rfl rfl rfl rfl rfl rfl rfl rfl rfl
theorem k146_ (u_0 u_1 u_2 u_3 : Value) (b_s : Nat) (s : ScrR) (L_s : Hp) (a : Int) (b : Int) (w : World) (hb_s : w.heap[b_s]? = some (Obj.cells (List.toArray (u_0 :: u_1 :: u_2 :: u_3 :: (cScr s))) 36 (0, 0))) (o_s : ownScrR s L_s) (h_s : Hh w L_s) (hd_ : (b_s :: L_s.map (·.1)).Nodup) (hab : 0 ≤ a ∧ b ≤ s.Alt.Cells.xs.length ∧ b ≤ 1048576 ∧ -1048576 ≤ b ∧ a ≤ 1048576) (hsmB : smScr 549755813888 s.dat) (hx : s.OnAlt = true) :
    Calls Tryz.prog 122 #[.pointer (some ⟨b_s, 4, none⟩), i64 a, i64 b] w fun e w' => ∃ r L1, e = .returned (.tuple #[]) ∧ St w (b_s :: L_s.map (·.1)) ([(b_s, Obj.cells (List.toArray (u_0 :: u_1 :: u_2 :: u_3 :: (cScr r))) 36 (0, 0))] ++ L1) w' ∧ ownScrR r L1 ∧ r.dat = clearD s.dat a b := by
 refine enter 23 Tryz.func122 rfl Tryz.ntmps122 rfl rfl ?_
 have hs1 := St.takeP w b_s _ L_s hb_s h_s hd_
 refine WC.sr (WL.r 1 hs1 [] rfl ?_)
 have hF2 := ((hs1.fr L_s).fb b_s)
 refine WL.cl Tryz.call74 rfl (k130_ _ _ _ _ _ s _ _ (St.headP hF2) o_s (St.ownP hF2) (St.nodupP hF2) ?_) ?_
 · first | assumption | rfl | omega
 rintro _ whs3 ⟨r4, L5, rfl, hs3, ho6, hd7⟩
 replace hs3 := St.lendP hF2 hs3
 refine ⟨_, rfl, ?_⟩
 have hrl : r4.Alt.Cells.xs.length = s.Alt.Cells.xs.length := congrArg (fun d : ScrD => d.Alt.Cells.length) hd7
 have hln := ownScrR.len ‹ownScrR r4 _›
 refine WL.r 4 hs3 [0] rfl (WL.nil (WC.r1 hs3 [] rfl (WC.block ?_)))
 obtain ⟨L8, L9, L10, L11, hs16, ho12, ho13, ho14, ho15⟩ := ownScrR.op hs3 ho6
 have hs17 := (hs16.fb b_s)
 refine WC.lO [2, 6] rfl (hs17.fr L9) (fun k_ f L_ => ∃ (i : Nat) (zs : List CellD), k_ = (b - a).toNat - i ∧ (i ≤ (b - a).toNat) ∧ (zs.length = r4.Alt.Cells.xs.length) ∧ (∀ k, k < r4.Alt.Cells.xs.length → cat zs k = partF r4.Alt.dat (clearF r4.Alt.dat a b) a.toNat i k) ∧ OwnF encCell 108 (.slice r4.Alt.Cells.A (r4.Alt.Cells.n) r4.Alt.Cells.c) (zs) L_ ∧ Sub [(7, .int .i64 (a + i))] f) (((fun (i : Nat) (zs : List CellD) => (b - a).toNat - i) (0) (r4.Alt.Cells.xs))) ?_ ?_
 ·refine ⟨0, r4.Alt.Cells.xs, rfl, ?_, ?_, ?_, ho13, ⟨?_, trivial⟩⟩
  · omega
  · rfl
  · intro k hk; rw [partF_zero]; rfl
  · (refine congrArg some (congrArg (Value.int _) ?_); omega)
 clear hs17
 rintro _ f w L20 ⟨i, zs, rfl, p0, p1, p2, ho21, hG⟩ hF hs22
 refine WC.sub _ (hG.app hF) ?_
 clear hG hF
 replace hs22 := St.back [_] hs22
 refine WC.seq (fun K23 hK23 => WC.r1 hs22 [] rfl ?_)
 refine WC.cD rfl (fun qh24 => ?_) (fun qh24 => ?_)
 ·refine WC.skip (hK23 _ _ (WC.seq (fun K25 hK25 => WC.block (WC.region (WL.r 2 hs22 [] rfl (WL.cl Tryz.call150 rfl (k21_ _) ?_))))))
  rintro _ whs26 ⟨rfl, hs26⟩
  replace hs26 := hs22.call0 hs26
  refine ⟨_, rfl, WL.val rfl rfl rfl (Run.idx Tryz.runUnderlying29 Tryz.sizeOf108 rfl rfl rfl ?_ ?_ ?_) ?_⟩
  · exact SlF.some_ (SlF.ofOwn ho21 (hs26.ow L20))
  · first | omega | (obtain ⟨h1, h2, _, _⟩ := hln; omega)
  · first | omega | (obtain ⟨h1, h2, _, _⟩ := hln; omega)
  refine WL.storeF1 (x' := blankC) (hs26.fr L20) ho21 Tryz.sizeOf108 rfl rfl rfl rfl rfl rfl rfl rfl rfl ?_ rfl (fun L27 whs28 hs28 ho29 _ => ?_)
  · first | omega | (obtain ⟨h1, h2, _, _⟩ := hln; omega)
  replace hs28 := St.back [_] hs28
  refine WL.nil (hK25 _ _ (WC.region (WL.r 3 hs28 [] rfl (WL.nil (tkN ?_)))))
  refine ⟨sbF rfl, _, (hs28.fr L27), _, ?_, i + 1, _, rfl, ?_, ?_, ?_, ho29, ⟨?_, trivial⟩⟩
  · omega
  · omega
  · rw [List.length_set]; exact p1
  · intro k hk; exact part_next (g := r4.Alt.dat) (by omega) (by rw [p1]; omega) (clearF_in ⟨by omega, by omega⟩).symm (p2 k hk)
  · (refine congrArg some (congrArg (Value.int _) ?_); omega)
 refine WC.exit (tkE (tkE (ibE (retK0 rfl ?_))))
 obtain ⟨L31, hs30, ho32⟩ := ownScrR.fl hs22 ho12 ho21 ho14 ho15
 have hs33 := (hs30.fb b_s)
 refine ownScrR.retp4 rfl ((hs33.fr L31).fb b_s) ho32 ?_
 · rw [← hd7]; show _ = clearD r4.dat a b; rw [show clearD r4.dat a b = { r4.dat with Alt := gmap r4.Alt.dat (clearF r4.Alt.dat a b) } from by unfold clearD putD shownD; rw [if_pos (show  r4.dat.OnAlt = true from by have h8 : r4.OnAlt = s.OnAlt := congrArg ScrD.OnAlt hd7; show  r4.OnAlt = true; rw [h8, hx]), if_pos (show  r4.dat.OnAlt = true from by have h8 : r4.OnAlt = s.OnAlt := congrArg ScrD.OnAlt hd7; show  r4.OnAlt = true; rw [h8, hx])]; rfl]; exact ScrD.ext' rfl rfl rfl (part_done (g := r4.Alt.dat) (lo := a.toNat) (a := i) rfl rfl p1 (fun k hk h9 => clearF_out (by omega)) p2) rfl rfl rfl rfl rfl rfl rfl rfl rfl rfl rfl rfl rfl rfl rfl
theorem k147_ (u_0 u_1 u_2 u_3 : Value) (b_s : Nat) (s : ScrR) (L_s : Hp) (a : Int) (b : Int) (w : World) (hb_s : w.heap[b_s]? = some (Obj.cells (List.toArray (u_0 :: u_1 :: u_2 :: u_3 :: (cScr s))) 36 (0, 0))) (o_s : ownScrR s L_s) (h_s : Hh w L_s) (hd_ : (b_s :: L_s.map (·.1)).Nodup) (hab : 0 ≤ a ∧ a ≤ 1048576 ∧ b ≤ s.W * s.H ∧ -1048576 ≤ b) (hf : ScrFine s.dat) (hsmB : smScr 549755813888 s.dat) :
    Calls Tryz.prog 122 #[.pointer (some ⟨b_s, 4, none⟩), i64 a, i64 b] w fun e w' => ∃ r L1, e = .returned (.tuple #[]) ∧ St w (b_s :: L_s.map (·.1)) ([(b_s, Obj.cells (List.toArray (u_0 :: u_1 :: u_2 :: u_3 :: (cScr r))) 36 (0, 0))] ++ L1) w' ∧ ownScrR r L1 ∧ r.dat = clearD s.dat a b := by
 have hz := isSize_bnd hf.size
 simp only [ScrR.dat] at hz
 have hgm := grid_len hf.gM
 have hga := grid_len hf.gA
 obtain ⟨d1, d2, d3, d4⟩ := hf.dim
 simp only [ScrR.dat, GridR.dat] at hgm hga d1 d2 d3 d4
 rw [d1, d2] at hgm
 rw [d3, d4] at hga
 rcases Bool.eq_false_or_eq_true s.OnAlt with hx_ | hx_
 · exact k146_ u_0 u_1 u_2 u_3 b_s s L_s a b w hb_s o_s h_s hd_ ⟨hab.1, by omega, by omega, by omega, by omega⟩ hsmB hx_
 · exact k145_ u_0 u_1 u_2 u_3 b_s s L_s a b w hb_s o_s h_s hd_ ⟨hab.1, by omega, by omega, by omega, by omega⟩ hsmB hx_
theorem k148_ (u_0 u_1 u_2 u_3 : Value) (b_s : Nat) (s : ScrR) (L_s : Hp) (k : Int) (row : Bool) (w : World) (hb_s : w.heap[b_s]? = some (Obj.cells (List.toArray (u_0 :: u_1 :: u_2 :: u_3 :: (cScr s))) 36 (0, 0))) (o_s : ownScrR s L_s) (h_s : Hh w L_s) (hd_ : (b_s :: L_s.map (·.1)).Nodup) (hf : ScrFine s.dat) (hsmB : smScr 549755813888 s.dat) :
    Calls Tryz.prog 121 #[.pointer (some ⟨b_s, 4, none⟩), i64 k, .bool row] w fun e w' => ∃ r L1, e = .returned (.tuple #[]) ∧ St w (b_s :: L_s.map (·.1)) ([(b_s, Obj.cells (List.toArray (u_0 :: u_1 :: u_2 :: u_3 :: (cScr r))) 36 (0, 0))] ++ L1) w' ∧ ownScrR r L1 ∧ r.dat = eraseD s.dat (if row = true then s.Y * s.W else 0) (if row = true then (s.Y + 1) * s.W else s.W * s.H) k := by
 have hwh : (1 ≤ s.W ∧ s.W ≤ 120) ∧ 1 ≤ s.H ∧ s.H ≤ 120 := ⟨(isSize_bnd hf.size).1, (isSize_bnd hf.size).2.1⟩
 have hxy := hf.pos
 simp only [ScrR.dat, GridR.dat] at hxy
 have hz := isSize_bnd hf.size
 simp only [ScrR.dat] at hz
 have hv0 : 0 ≤ s.Y * s.W := Int.mul_nonneg (by omega) (by omega)
 have hv1 : (s.Y + 1) * s.W = s.Y * s.W + s.W := by rw [Int.add_mul, Int.one_mul]
 have hv2 : (s.Y + 1) * s.W ≤ s.H * s.W := Int.mul_le_mul_of_nonneg_right (by omega) (by omega)
 rw [Int.mul_comm s.H s.W] at hv2
 refine enter 72 Tryz.func121 rfl Tryz.ntmps121 rfl rfl ?_
 have hs1 := St.takeP w b_s _ L_s hb_s h_s hd_
 refine WC.q1 hs1 [0, 0, 0, 0, 0] rfl (fun _ hs2 => WC.seq (fun K3 hK3 => WC.r1 hs2 [] rfl ?_))
 refine WC.cq rfl (fun h4 qh4 => ?_) (fun h4 qh4 => ?_)
 ·have hrow : row = true := by have h9 := h4; simpa using h9
  refine WC.regionQ (fun w' => St _ _ _ w') mixed (by kernel_rfl) hs2.drew (WQ.r 21 [0, 0, 0, 0] rfl (WQ.nil (fun _ (hs5 : St _ _ _ _) => hK3 _ _ (WC.r1 hs5 [] rfl (WC.block (WC.r1 hs5 [] rfl ?_))))))
  refine WC.cq rfl (fun h6 qh6 => ?_) (fun h6 qh6 => ?_)
  ·have e0 : k = 0 := by have h9 := h6; simpa using h9
   refine WC.region (WL.r 3 hs5 [] rfl ?_)
   have hF7 := ((hs5.fr L_s).fb b_s)
   refine WL.cl Tryz.call122 rfl (k147_ _ _ _ _ _ s _ _ _ _ (St.headP hF7) o_s (St.ownP hF7) (St.nodupP hF7) ?_ ?_ ?_) ?_
   iterate 3 first | assumption | rfl | omega | (refine ⟨?_, ?_, ?_, ?_⟩ <;> omega)
   rintro _ whs8 ⟨r9, L10, rfl, hs8, ho11, hd12⟩
   replace hs8 := St.lendP hF7 hs8
   refine ⟨_, rfl, WL.nil (ibN (retK0 rfl (⟨r9, _, rfl, St.keepP (L1 := L10) ((hs8.fr L10).fb b_s), ho11, ?_⟩)))⟩
   · first | rw [if_pos hrow, if_pos hrow] | rw [if_neg hrow, if_neg hrow]
     unfold eraseD; rw [if_pos e0]; exact hd12
  have e0 : ¬ k = 0 := by have h9 := h6; simpa using h9
  refine WC.r1 hs5 [] rfl (WC.cq rfl (fun h13 qh13 => ?_) (fun h13 qh13 => ?_))
  ·have e1 : k = 1 := by have h9 := h13; simpa using h9
   refine WC.region (WL.r 4 hs5 [] rfl ?_)
   have hF14 := ((hs5.fr L_s).fb b_s)
   refine WL.cl Tryz.call122 rfl (k147_ _ _ _ _ _ s _ _ _ _ (St.headP hF14) o_s (St.ownP hF14) (St.nodupP hF14) ?_ ?_ ?_) ?_
   iterate 3 first | assumption | rfl | omega | (refine ⟨?_, ?_, ?_, ?_⟩ <;> omega)
   rintro _ whs15 ⟨r16, L17, rfl, hs15, ho18, hd19⟩
   replace hs15 := St.lendP hF14 hs15
   refine ⟨_, rfl, WL.nil (ibN (retK0 rfl (⟨r16, _, rfl, St.keepP (L1 := L17) ((hs15.fr L17).fb b_s), ho18, ?_⟩)))⟩
   · first | rw [if_pos hrow, if_pos hrow] | rw [if_neg hrow, if_neg hrow]
     unfold eraseD; rw [if_neg e0, if_pos e1]; exact hd19
  have e1 : ¬ k = 1 := by have h9 := h13; simpa using h9
  refine WC.r1 hs5 [] rfl (WC.cq rfl (fun h20 qh20 => ?_) (fun h20 qh20 => ?_))
  ·have e2 : k = 2 := by have h9 := h20; simpa using h9
   refine WC.region (WL.r 3 hs5 [] rfl ?_)
   have hF21 := ((hs5.fr L_s).fb b_s)
   refine WL.cl Tryz.call122 rfl (k147_ _ _ _ _ _ s _ _ _ _ (St.headP hF21) o_s (St.ownP hF21) (St.nodupP hF21) ?_ ?_ ?_) ?_
   iterate 3 first | assumption | rfl | omega | (refine ⟨?_, ?_, ?_, ?_⟩ <;> omega)
   rintro _ whs22 ⟨r23, L24, rfl, hs22, ho25, hd26⟩
   replace hs22 := St.lendP hF21 hs22
   refine ⟨_, rfl, WL.nil (ibN (retK0 rfl (⟨r23, _, rfl, St.keepP (L1 := L24) ((hs22.fr L24).fb b_s), ho25, ?_⟩)))⟩
   · first | rw [if_pos hrow, if_pos hrow] | rw [if_neg hrow, if_neg hrow]
     unfold eraseD; rw [if_neg e0, if_neg e1, if_pos e2]; exact hd26
  have e2 : ¬ k = 2 := by have h9 := h20; simpa using h9
  refine WC.skip (ibN (retK0 rfl (⟨s, _, rfl, St.keepP (L1 := L_s) ((hs5.fr L_s).fb b_s), o_s, ?_⟩)))
  · first | rw [if_pos hrow, if_pos hrow] | rw [if_neg hrow, if_neg hrow]
    unfold eraseD; rw [if_neg e0, if_neg e1, if_neg e2]
 have hrow : ¬ row = true := by have h9 := h4; simpa using h9
 refine WC.skip (hK3 _ _ (WC.r1 hs2 [] rfl (WC.block (WC.r1 hs2 [] rfl ?_))))
 refine WC.cq rfl (fun h27 qh27 => ?_) (fun h27 qh27 => ?_)
 ·have e0 : k = 0 := by have h9 := h27; simpa using h9
  refine WC.region (WL.r 3 hs2 [] rfl ?_)
  have hF28 := ((hs2.fr L_s).fb b_s)
  refine WL.cl Tryz.call122 rfl (k147_ _ _ _ _ _ s _ _ _ _ (St.headP hF28) o_s (St.ownP hF28) (St.nodupP hF28) ?_ ?_ ?_) ?_
  iterate 3 first | assumption | rfl | omega | (refine ⟨?_, ?_, ?_, ?_⟩ <;> omega)
  rintro _ whs29 ⟨r30, L31, rfl, hs29, ho32, hd33⟩
  replace hs29 := St.lendP hF28 hs29
  refine ⟨_, rfl, WL.nil (ibN (retK0 rfl (⟨r30, _, rfl, St.keepP (L1 := L31) ((hs29.fr L31).fb b_s), ho32, ?_⟩)))⟩
  · first | rw [if_pos hrow, if_pos hrow] | rw [if_neg hrow, if_neg hrow]
    unfold eraseD; rw [if_pos e0]; exact hd33
 have e0 : ¬ k = 0 := by have h9 := h27; simpa using h9
 refine WC.r1 hs2 [] rfl (WC.cq rfl (fun h34 qh34 => ?_) (fun h34 qh34 => ?_))
 ·have e1 : k = 1 := by have h9 := h34; simpa using h9
  refine WC.region (WL.r 4 hs2 [] rfl ?_)
  have hF35 := ((hs2.fr L_s).fb b_s)
  refine WL.cl Tryz.call122 rfl (k147_ _ _ _ _ _ s _ _ _ _ (St.headP hF35) o_s (St.ownP hF35) (St.nodupP hF35) ?_ ?_ ?_) ?_
  iterate 3 first | assumption | rfl | omega | (refine ⟨?_, ?_, ?_, ?_⟩ <;> omega)
  rintro _ whs36 ⟨r37, L38, rfl, hs36, ho39, hd40⟩
  replace hs36 := St.lendP hF35 hs36
  refine ⟨_, rfl, WL.nil (ibN (retK0 rfl (⟨r37, _, rfl, St.keepP (L1 := L38) ((hs36.fr L38).fb b_s), ho39, ?_⟩)))⟩
  · first | rw [if_pos hrow, if_pos hrow] | rw [if_neg hrow, if_neg hrow]
    unfold eraseD; rw [if_neg e0, if_pos e1]; exact hd40
 have e1 : ¬ k = 1 := by have h9 := h34; simpa using h9
 refine WC.r1 hs2 [] rfl (WC.cq rfl (fun h41 qh41 => ?_) (fun h41 qh41 => ?_))
 ·have e2 : k = 2 := by have h9 := h41; simpa using h9
  refine WC.region (WL.r 3 hs2 [] rfl ?_)
  have hF42 := ((hs2.fr L_s).fb b_s)
  refine WL.cl Tryz.call122 rfl (k147_ _ _ _ _ _ s _ _ _ _ (St.headP hF42) o_s (St.ownP hF42) (St.nodupP hF42) ?_ ?_ ?_) ?_
  iterate 3 first | assumption | rfl | omega | (refine ⟨?_, ?_, ?_, ?_⟩ <;> omega)
  rintro _ whs43 ⟨r44, L45, rfl, hs43, ho46, hd47⟩
  replace hs43 := St.lendP hF42 hs43
  refine ⟨_, rfl, WL.nil (ibN (retK0 rfl (⟨r44, _, rfl, St.keepP (L1 := L45) ((hs43.fr L45).fb b_s), ho46, ?_⟩)))⟩
  · first | rw [if_pos hrow, if_pos hrow] | rw [if_neg hrow, if_neg hrow]
    unfold eraseD; rw [if_neg e0, if_neg e1, if_pos e2]; exact hd47
 have e2 : ¬ k = 2 := by have h9 := h41; simpa using h9
 refine WC.skip (ibN (retK0 rfl (⟨s, _, rfl, St.keepP (L1 := L_s) ((hs2.fr L_s).fb b_s), o_s, ?_⟩)))
 · first | rw [if_pos hrow, if_pos hrow] | rw [if_neg hrow, if_neg hrow]
   unfold eraseD; rw [if_neg e0, if_neg e1, if_neg e2]
theorem k149_ (u_0 u_1 u_2 u_3 : Value) (b_p b_s : Nat) (s : ScrR) (m : Int) (w : World) (hp : w.heap[b_p]? = some (Obj.cells (List.toArray [.pointer (some ⟨b_s, 4, none⟩)]) 79 (0, 0))) (hq : w.heap[b_s]? = some (Obj.cells (List.toArray (u_0 :: u_1 :: u_2 :: u_3 :: (cScr s))) 36 (0, 0))) (hne : b_p ≠ b_s) :
    Calls Tryz.prog 126 #[i64 m, .pointer (some ⟨b_p, 0, none⟩)] w fun e w' => e = .returned (.bool (decide (m = s.X))) ∧ St w [] [] w' := by
 refine enter 10 Tryz.func126 rfl Tryz.ntmps126 rfl rfl ?_
 have hs1 := St.take w [(b_p, Obj.cells (List.toArray [.pointer (some ⟨b_s, 4, none⟩)]) 79 (0, 0)), (b_s, Obj.cells (List.toArray (u_0 :: u_1 :: u_2 :: u_3 :: (cScr s))) 36 (0, 0))] (fun p hp_ => by rcases List.mem_cons.1 hp_ with rfl | hp_; exact hp; obtain rfl := List.mem_singleton.1 hp_; exact hq) (by simp [hne])
 refine WC.r1 hs1 [] rfl (WC.r1 hs1 [0, 1] rfl (WC.ret (retV1 rfl (resV.tmp rfl) (⟨rfl, St.untouch hs1 (fun k hk => ?_) (fun p hp_ => ?_)⟩))))
 · rcases List.mem_cons.1 hk with rfl | hk
   · exact ⟨_, List.mem_cons_self⟩
   · obtain rfl := List.mem_singleton.1 hk
     exact ⟨_, List.mem_cons_of_mem _ List.mem_cons_self⟩
 · rcases List.mem_cons.1 hp_ with rfl | hp_
   · exact hp
   · obtain rfl := List.mem_singleton.1 hp_
     exact hq
theorem k150_ (u_0 u_1 u_2 u_3 : Value) (b_s : Nat) (s : ScrR) (L_s : Hp) (w : World) (hb_s : w.heap[b_s]? = some (Obj.cells (List.toArray (u_0 :: u_1 :: u_2 :: u_3 :: (cScr s))) 36 (0, 0))) (o_s : ownScrR s L_s) (h_s : Hh w L_s) (hd_ : (b_s :: L_s.map (·.1)).Nodup) :
    Calls Tryz.prog 74 #[.pointer (some ⟨b_s, 4, none⟩)] w fun e w' => ∃ q r L1, e = .returned (.pointer (some ⟨b_s, q, none⟩)) ∧ St w (b_s :: L_s.map (·.1)) ([(b_s, Obj.cells (List.toArray (u_0 :: u_1 :: u_2 :: u_3 :: (cScr r))) 36 (0, 0))] ++ L1) w' ∧ ownScrR r L1 ∧ r.dat = s.dat ∧ (q = 6 ∧ s.OnAlt = false ∨ q = 9 ∧ s.OnAlt = true) := by
 rcases Bool.eq_false_or_eq_true s.OnAlt with hx | hx
 · exact (k130_ u_0 u_1 u_2 u_3 b_s s L_s w hb_s o_s h_s hd_ hx).mono fun e w' ⟨r, L1, h1, h2, h3, h4⟩ => ⟨9, r, L1, h1, h2, h3, h4, .inr ⟨rfl, hx⟩⟩
 · exact (k129_ u_0 u_1 u_2 u_3 b_s s L_s w hb_s o_s h_s hd_ hx).mono fun e w' ⟨r, L1, h1, h2, h3, h4⟩ => ⟨6, r, L1, h1, h2, h3, h4, .inl ⟨rfl, hx⟩⟩
theorem k151_ (u_0 u_1 u_2 u_3 : Value) (b_s : Nat) (s : ScrR) (L_s : Hp) (A_l : Option Addr) (n_l c_l : Nat) (l : List Int) (b : Int) (w : World) (hb_s : w.heap[b_s]? = some (Obj.cells (List.toArray (u_0 :: u_1 :: u_2 :: u_3 :: (cScr s))) 36 (0, 0))) (o_s : ownScrR s L_s) (h_s : Hh w L_s) (f_l : SlF encI w A_l n_l l) (hd_ : (b_s :: L_s.map (·.1)).Nodup) (s_l : 0 < n_l → (adr A_l).block ∉ (b_s :: L_s.map (·.1))) (hf : ScrFine s.dat) (hsm : smScr 1048576 s.dat) (hl : areArgs l = true) (hll : n_l ≤ 549755813888) :
    Calls Tryz.prog 85 #[.pointer (some ⟨b_s, 4, none⟩), .slice A_l n_l c_l, i64 b] w fun e w' => ∃ r L1, e = .returned (.tuple #[]) ∧ St w (b_s :: L_s.map (·.1)) ([(b_s, Obj.cells (List.toArray (u_0 :: u_1 :: u_2 :: u_3 :: (cScr r))) 36 (0, 0))] ++ L1) w' ∧ ownScrR r L1 ∧ r.dat = csiD s.dat l b := by
 have hsmB : smScr 549755813888 s.dat := smScr_mono hsm (by decide)
 have ha0 := argI_pos (k := 0) (d := 1) hl (by omega)
 have ha1 := argI_bnd (k := 1) (d := 1) hl (by omega)
 have hk0 := argI_bnd (k := 0) (d := 0) hl (by omega)
 refine enter 196 Tryz.func85 rfl Tryz.ntmps85 rfl rfl ?_
 have hs1 := St.takeP w b_s _ L_s hb_s h_s hd_
 refine WC.sr (WL.bx hs1 rfl (fun b2 _ hs3 => WL.nil (WC.sr (WL.r 1 hs3 [] rfl ?_))))
 refine WL.cl Tryz.call119 rfl (k96_ _ _ _ _ _ _ (SlF.st f_l hs3 s_l) ?_) ?_
 · first | assumption | rfl | omega | (refine ⟨?_, ?_, ?_, ?_⟩ <;> omega) | (constructor <;> omega)
 rintro _ whs4 ⟨rfl, hs4⟩
 replace hs4 := hs3.call0 hs4
 refine ⟨_, rfl, WL.r 1 hs4 [] rfl (WL.cl Tryz.call119 rfl (k97_ _ _ _ _ _ _ (SlF.st f_l hs4 s_l) ?_) ?_)⟩
 · first | assumption | rfl | omega | (refine ⟨?_, ?_, ?_, ?_⟩ <;> omega) | (constructor <;> omega)
 rintro _ whs5 ⟨rfl, hs5⟩
 replace hs5 := hs4.call0 hs5
 refine ⟨_, rfl, WL.r 1 hs5 [] rfl (WL.cl Tryz.call119 rfl (k96_ _ _ _ _ _ _ (SlF.st f_l hs5 s_l) ?_) ?_)⟩
 · first | assumption | rfl | omega | (refine ⟨?_, ?_, ?_, ?_⟩ <;> omega) | (constructor <;> omega)
 rintro _ whs6 ⟨rfl, hs6⟩
 replace hs6 := hs5.call0 hs6
 refine ⟨_, rfl, WL.r 3 hs6 [] rfl (WL.nil (WC.seq (fun K7 hK7 => WC.sr (WL.r 4 hs6 [0] rfl ?_))))⟩
 have hF8 := ((hs6.fr L_s).fb b_s)
 refine WL.cl Tryz.call120 rfl (k142_ _ _ _ _ _ s _ _ _ _ _ (St.headP hF8) o_s (St.ownP hF8) (St.nodupP hF8) ?_ ?_ ?_) ?_
 iterate 3 first | assumption | rfl | omega | (refine ⟨?_, ?_, ?_, ?_⟩ <;> omega) | (constructor <;> omega)
 rintro _ whs9 ⟨r10, L11, rfl, hs9, ho12, hd13⟩
 replace hs9 := St.lendP hF8 hs9
 refine ⟨_, rfl, ?_⟩
 have hs14 := ((hs9.fb b2).fb b_s)
 refine WL.nil (WC.cq rfl (fun h15 qh15 => ?_) (fun h15 qh15 => ?_))
 ·have hmv : isMove b = true := by have h9 := h15; simpa using h9
  refine WC.ret (tkR ?_)
  clear hK7
  refine retK0' rfl (⟨r10, _, rfl, St.keepP (L1 := L11) ((hs14.fr L11).fb b_s), ho12, ?_⟩)
  · exact hd13.trans (csiD_move hmv).symm
 have hmv : isMove b = false := by have h9 := h15; simpa using h9
 obtain ⟨e65, e66, e67, e68, e71, e100, e7⟩ := isMove_no hmv
 have hr1 : r10.dat = s.dat := hd13.trans (moveByD_no hmv)
 have hs1 : smScr 549755813888 r10.dat := hr1.symm ▸ hsmB
 refine WC.skip (hK7 _ _ (WC.sr (WL.r 1 hs14 [1] rfl ?_)))
 have hF16 := ((hs14.fr L11).fb b_s)
 refine WL.cl Tryz.call74 rfl (k150_ _ _ _ _ _ r10 _ _ (St.headP hF16) ho12 (St.ownP hF16) (St.nodupP hF16)) ?_
 rintro _ whs17 ⟨q22, r18, L19, rfl, hs17, ho20, hd21, hO23⟩
 replace hs17 := St.lendP hF16 hs17
 refine ⟨_, rfl, ?_⟩
 have hs24 := ((hs17.fb b2).fb b_s)
 have hr2 : r18.dat = s.dat := hd21.trans hr1
 have hf2 : ScrFine r18.dat := hr2.symm ▸ hf
 have hsm2 : smScr 1048576 r18.dat := hr2.symm ▸ hsm
 have hsB2 : smScr 549755813888 r18.dat := hr2.symm ▸ hsmB
 skip
 have hwh2 : (1 ≤ r18.W ∧ r18.W ≤ 120) ∧ (1 ≤ r18.H ∧ r18.H ≤ 120) ∧ 1 ≤ r18.W * r18.H ∧ r18.W * r18.H ≤ 4000 := isSize_bnd hf2.size
 have hxy2 : (0 ≤ r18.X ∧ r18.X < r18.W) ∧ 0 ≤ r18.Y ∧ r18.Y < r18.H := hf2.pos
 have hrg2 : (0 ≤ r18.Top ∧ r18.Top ≤ r18.Bot) ∧ r18.Bot < r18.H := ⟨hf2.reg.1, hf2.reg.2.1⟩
 have hv0 : 0 ≤ r18.Y * r18.W := Int.mul_nonneg (by omega) (by omega)
 have hv1 : (r18.Y + 1) * r18.W = r18.Y * r18.W + r18.W := by rw [Int.add_mul, Int.one_mul]
 have hv2 : (r18.Y + 1) * r18.W ≤ r18.H * r18.W := Int.mul_le_mul_of_nonneg_right (by omega) (by omega)
 rw [Int.mul_comm r18.H r18.W] at hv2
 have hgs2 : gridOk (shownD r18.dat) = true := hf2.shown.1
 have hsh2 : (shownD r18.dat).W = r18.W ∧ (shownD r18.dat).H = r18.H := hf2.shown.2
 have hts2 : 0 ≤ r18.Top ∧ r18.Top ≤ r18.Bot ∧ r18.Bot < (shownD r18.dat).H := by rw [hsh2.2]; omega
 have hTs2 : r18.Tabs.xs.length ≤ 1048576 := hsm2.2.2.1
 refine WL.r 1 hs24 [] rfl (WL.nil (WC.r1 hs24 [] rfl (WC.block (WC.seq (fun K25 hK25 => WC.r1 hs24 [] rfl ?_)))))
 refine WC.cq rfl (fun h26 qh26 => ?_) (fun h26 qh26 => ?_)
 ·have e74 : b = 74 := by have h9 := h26; simpa using h9
  refine WC.skip (hK25 _ _ (WC.condT rfl h26 (WC.region (WL.r 4 hs24 [1] rfl ?_))))
  have hF28 := ((hs24.fr L19).fb b_s)
  refine WL.cl Tryz.call121 rfl (k148_ _ _ _ _ _ r18 _ _ _ _ (St.headP hF28) ho20 (St.ownP hF28) (St.nodupP hF28) ?_ ?_) ?_
  iterate 2 first | assumption | rfl | omega | (refine ⟨?_, ?_, ?_, ?_⟩ <;> omega) | (constructor <;> omega)
  rintro _ whs29 ⟨r30, L31, rfl, hs29, ho32, hd33⟩
  replace hs29 := St.lendP hF28 hs29
  refine ⟨_, rfl, ?_⟩
  have hs34 := ((hs29.fb b2).fb b_s)
  refine WL.nil (ibN (retK0 rfl (⟨r30, _, rfl, St.keepP (L1 := L31) ((hs34.fr L31).fb b_s), ho32, ?_⟩)))
  · rw [← hr2]; unfold csiD; rw [if_neg e65, if_neg e66, if_neg e67, if_neg e68, if_neg e71, if_neg e100, if_neg e7, if_pos e74]; exact hd33.trans (by rw [if_neg (by simp; omega), if_neg (by simp; omega)]; rfl)
 have e74 : ¬ b = 74 := by have h9 := h26; simpa using h9
 refine WC.region (WL.r 2 hs24 [] rfl (WL.nil (hK25 _ _ ?_)))
 refine WC.cq rfl (fun h35 qh35 => ?_) (fun h35 qh35 => ?_)
 ·have e75 : b = 75 := by have h9 := h35; simpa using h9
  refine WC.region (WL.r 4 hs24 [1] rfl ?_)
  have hF36 := ((hs24.fr L19).fb b_s)
  refine WL.cl Tryz.call121 rfl (k148_ _ _ _ _ _ r18 _ _ _ _ (St.headP hF36) ho20 (St.ownP hF36) (St.nodupP hF36) ?_ ?_) ?_
  iterate 2 first | assumption | rfl | omega | (refine ⟨?_, ?_, ?_, ?_⟩ <;> omega) | (constructor <;> omega)
  rintro _ whs37 ⟨r38, L39, rfl, hs37, ho40, hd41⟩
  replace hs37 := St.lendP hF36 hs37
  refine ⟨_, rfl, ?_⟩
  have hs42 := ((hs37.fb b2).fb b_s)
  refine WL.nil (ibN (retK0 rfl (⟨r38, _, rfl, St.keepP (L1 := L39) ((hs42.fr L39).fb b_s), ho40, ?_⟩)))
  · rw [← hr2]; unfold csiD; rw [if_neg e65, if_neg e66, if_neg e67, if_neg e68, if_neg e71, if_neg e100, if_neg e7, if_neg e74, if_pos e75]; exact hd41.trans (by rw [if_pos (by simp; omega), if_pos (by simp; omega)]; rfl)
 have e75 : ¬ b = 75 := by have h9 := h35; simpa using h9
 refine WC.r1 hs24 [] rfl (WC.cq rfl (fun h43 qh43 => ?_) (fun h43 qh43 => ?_))
 ·have e88 : b = 88 := by have h9 := h43; simpa using h9
  refine WC.q1 hs24 [1, 0, 1, 0, 1, 0] rfl (fun _ hs44 => WC.rG 16 (hs44.d1.rm L19) hs44 hs44 (fun _ hs45 => ?_))
  refine WG.rn [0, 1, 2, 3, 4, 5, 6, 7, 8, 9, 10, 11, 12, 13, 14, 15] hs45 [1, 1, 0, 1, 0] rfl rfl (WG.oK rfl ?_)
  have hF46 := ((hs45.fr L19).fb b_s)
  refine WL.cl Tryz.call122 rfl (k147_ _ _ _ _ _ r18 _ _ _ _ (St.headP hF46) ho20 (St.ownP hF46) (St.nodupP hF46) ?_ ?_ ?_) ?_
  iterate 3 first | assumption | rfl | omega | (refine ⟨?_, ?_, ?_, ?_⟩ <;> omega) | (constructor <;> omega)
  rintro _ whs47 ⟨r48, L49, rfl, hs47, ho50, hd51⟩
  replace hs47 := St.lendP hF46 hs47
  refine ⟨_, rfl, ?_⟩
  have hs52 := ((hs47.fb b2).fb b_s)
  refine WL.nil ⟨(hs52.d1.rm L49), WH.dn (ibN (retK0 rfl (⟨r48, _, rfl, St.keepP (L1 := L49) ((hs52.fr L49).fb b_s), ho50, ?_⟩)))⟩
  · rw [← hr2]; unfold csiD; rw [if_neg e65, if_neg e66, if_neg e67, if_neg e68, if_neg e71, if_neg e100, if_neg e7, if_neg e74, if_neg e75, if_pos e88]; exact hd51
 have e88 : ¬ b = 88 := by have h9 := h43; simpa using h9
 refine WC.r1 hs24 [] rfl (WC.cq rfl (fun h53 qh53 => ?_) (fun h53 qh53 => ?_))
 ·have e64 : b = 64 := by have h9 := h53; simpa using h9
  rcases hO23 with ⟨rfl, hx1⟩ | ⟨rfl, hx1⟩
  ·have hx2 : r18.OnAlt = false := (congrArg ScrD.OnAlt hd21).trans hx1
   have hfd : shownD r18.dat = r18.Main.dat := by unfold shownD; rw [if_neg (show ¬ r18.dat.OnAlt = true from by show ¬ r18.OnAlt = true; rw [hx2]; decide)]; rfl
   have hgd2 : gridOk r18.Main.dat = true := hfd ▸ hgs2
   have hgw2 : r18.Main.W = r18.W ∧ r18.Main.H = r18.H := ⟨(congrArg GridD.W hfd).symm.trans hsh2.1, (congrArg GridD.H hfd).symm.trans hsh2.2⟩
   refine WC.rG 15 hs24.d1 hs24 hs24 (fun _ hs54 => ?_)
   refine WG.rn [0, 1, 2, 3, 4, 5, 6, 7, 8, 9, 10, 11, 12] hs54 [0, 1, 0, 1, 0] rfl rfl (WG.o1 13 rfl rfl ?_)
   refine WL.cl Tryz.call123 rfl (k98_ r18.Main _ _ _ _ (ownScrR.ok (B := 549755813888) ho20 (hs54.ow L19) (by rw [hd21]; assumption)).Main ?_ ?_ ?_ ?_) ?_
   iterate 4 first | assumption | rfl | omega | (refine ⟨?_, ?_, ?_, ?_⟩ <;> omega) | (constructor <;> omega)
   rintro _ whs55 ⟨r56, L1_57, rfl, hs55, ho58, hd59⟩
   replace hs55 := hs54.callF hs55
   refine ⟨_, rfl, ?_⟩
   replace hs55 := St.back [_, _] hs55
   have hsf := hd59
   refine WL.nil ⟨(hs55.rm L1_57), WG.rn [14] (hs55.rm L1_57) [] rfl rfl (WG.oK rfl (WL.st tbk hs55 0 rfl rfl (fun _ hs60 => WL.nil ⟨(hs60.d1.rm L1_57), WH.dn (ibN (retK0 rfl ?_))⟩)))⟩
   obtain ⟨L61, L62, L63, L64, hs69, ho65, ho66, ho67, ho68⟩ := ownScrR.op hs60 ho20
   have hs70 := ((hs69.fb b2).fb b_s)
   obtain ⟨L72, hs71, ho73⟩ := ownScrR.fl hs70 ho58 ho66 ho67 ho68
   have hs74 := ((hs71.fb b2).fb b_s)
   refine ownScrR.retp4 rfl ((hs74.fr L72).fb b_s) ho73 ?_
   · rw [← hr2]; unfold csiD; rw [if_neg e65, if_neg e66, if_neg e67, if_neg e68, if_neg e71, if_neg e100, if_neg e7, if_neg e74, if_neg e75, if_neg e88, if_pos e64]; show _ = putD r18.dat (gShift (shownD r18.dat) r18.X r18.Y (argI l 0 1)); rw [show putD r18.dat (gShift (shownD r18.dat) r18.X r18.Y (argI l 0 1)) = { r18.dat with Main := gShift r18.Main.dat r18.X r18.Y (argI l 0 1) } from by rw [hfd]; unfold putD; rw [if_neg (show ¬ r18.dat.OnAlt = true from by show ¬ r18.OnAlt = true; rw [hx2]; decide)]]; exact ScrD.ext' rfl rfl (hsf) rfl rfl rfl rfl rfl rfl rfl rfl rfl rfl rfl rfl rfl rfl rfl rfl
  have hx2 : r18.OnAlt = true := (congrArg ScrD.OnAlt hd21).trans hx1
  have hfd : shownD r18.dat = r18.Alt.dat := by unfold shownD; rw [if_pos (show  r18.dat.OnAlt = true from by show  r18.OnAlt = true; rw [hx2])]; rfl
  have hgd2 : gridOk r18.Alt.dat = true := hfd ▸ hgs2
  have hgw2 : r18.Alt.W = r18.W ∧ r18.Alt.H = r18.H := ⟨(congrArg GridD.W hfd).symm.trans hsh2.1, (congrArg GridD.H hfd).symm.trans hsh2.2⟩
  refine WC.rG 15 hs24.d1 hs24 hs24 (fun _ hs75 => ?_)
  refine WG.rn [0, 1, 2, 3, 4, 5, 6, 7, 8, 9, 10, 11, 12] hs75 [0, 1, 0, 1, 0] rfl rfl (WG.o1 13 rfl rfl ?_)
  refine WL.cl Tryz.call123 rfl (k98_ r18.Alt _ _ _ _ (ownScrR.ok (B := 549755813888) ho20 (hs75.ow L19) (by rw [hd21]; assumption)).Alt ?_ ?_ ?_ ?_) ?_
  iterate 4 first | assumption | rfl | omega | (refine ⟨?_, ?_, ?_, ?_⟩ <;> omega) | (constructor <;> omega)
  rintro _ whs76 ⟨r77, L1_78, rfl, hs76, ho79, hd80⟩
  replace hs76 := hs75.callF hs76
  refine ⟨_, rfl, ?_⟩
  replace hs76 := St.back [_, _] hs76
  have hsf := hd80
  refine WL.nil ⟨(hs76.rm L1_78), WG.rn [14] (hs76.rm L1_78) [] rfl rfl (WG.oK rfl (WL.st tbk hs76 0 rfl rfl (fun _ hs81 => WL.nil ⟨(hs81.d1.rm L1_78), WH.dn (ibN (retK0 rfl ?_))⟩)))⟩
  obtain ⟨L82, L83, L84, L85, hs90, ho86, ho87, ho88, ho89⟩ := ownScrR.op hs81 ho20
  have hs91 := ((hs90.fb b2).fb b_s)
  obtain ⟨L93, hs92, ho94⟩ := ownScrR.fl hs91 ho86 ho79 ho88 ho89
  have hs95 := ((hs92.fb b2).fb b_s)
  refine ownScrR.retp4 rfl ((hs95.fr L93).fb b_s) ho94 ?_
  · rw [← hr2]; unfold csiD; rw [if_neg e65, if_neg e66, if_neg e67, if_neg e68, if_neg e71, if_neg e100, if_neg e7, if_neg e74, if_neg e75, if_neg e88, if_pos e64]; show _ = putD r18.dat (gShift (shownD r18.dat) r18.X r18.Y (argI l 0 1)); rw [show putD r18.dat (gShift (shownD r18.dat) r18.X r18.Y (argI l 0 1)) = { r18.dat with Alt := gShift r18.Alt.dat r18.X r18.Y (argI l 0 1) } from by rw [hfd]; unfold putD; rw [if_pos (show  r18.dat.OnAlt = true from by show  r18.OnAlt = true; rw [hx2])]]; exact ScrD.ext' rfl rfl rfl (hsf) rfl rfl rfl rfl rfl rfl rfl rfl rfl rfl rfl rfl rfl rfl rfl
 have e64 : ¬ b = 64 := by have h9 := h53; simpa using h9
 refine WC.r1 hs24 [] rfl (WC.cq rfl (fun h96 qh96 => ?_) (fun h96 qh96 => ?_))
 ·have e80 : b = 80 := by have h9 := h96; simpa using h9
  rcases hO23 with ⟨rfl, hx1⟩ | ⟨rfl, hx1⟩
  ·have hx2 : r18.OnAlt = false := (congrArg ScrD.OnAlt hd21).trans hx1
   have hfd : shownD r18.dat = r18.Main.dat := by unfold shownD; rw [if_neg (show ¬ r18.dat.OnAlt = true from by show ¬ r18.OnAlt = true; rw [hx2]; decide)]; rfl
   have hgd2 : gridOk r18.Main.dat = true := hfd ▸ hgs2
   have hgw2 : r18.Main.W = r18.W ∧ r18.Main.H = r18.H := ⟨(congrArg GridD.W hfd).symm.trans hsh2.1, (congrArg GridD.H hfd).symm.trans hsh2.2⟩
   refine WC.rG 16 hs24.d1 hs24 hs24 (fun _ hs97 => ?_)
   refine WG.rn [0, 1, 2, 3, 4, 5, 6, 7, 8, 9, 10, 11, 12, 13] hs97 [0, 1, 0, 1, 0] rfl rfl (WG.o1 14 rfl rfl ?_)
   refine WL.cl Tryz.call123 rfl (k98_ r18.Main _ _ _ _ (ownScrR.ok (B := 549755813888) ho20 (hs97.ow L19) (by rw [hd21]; assumption)).Main ?_ ?_ ?_ ?_) ?_
   iterate 4 first | assumption | rfl | omega | (refine ⟨?_, ?_, ?_, ?_⟩ <;> omega) | (constructor <;> omega)
   rintro _ whs98 ⟨r99, L1_100, rfl, hs98, ho101, hd102⟩
   replace hs98 := hs97.callF hs98
   refine ⟨_, rfl, ?_⟩
   replace hs98 := St.back [_, _] hs98
   have hsf := hd102
   refine WL.nil ⟨(hs98.rm L1_100), WG.rn [15] (hs98.rm L1_100) [] rfl rfl (WG.oK rfl (WL.st tbk hs98 0 rfl rfl (fun _ hs103 => WL.nil ⟨(hs103.d1.rm L1_100), WH.dn (ibN (retK0 rfl ?_))⟩)))⟩
   obtain ⟨L104, L105, L106, L107, hs112, ho108, ho109, ho110, ho111⟩ := ownScrR.op hs103 ho20
   have hs113 := ((hs112.fb b2).fb b_s)
   obtain ⟨L115, hs114, ho116⟩ := ownScrR.fl hs113 ho101 ho109 ho110 ho111
   have hs117 := ((hs114.fb b2).fb b_s)
   refine ownScrR.retp4 rfl ((hs117.fr L115).fb b_s) ho116 ?_
   · rw [← hr2]; unfold csiD; rw [if_neg e65, if_neg e66, if_neg e67, if_neg e68, if_neg e71, if_neg e100, if_neg e7, if_neg e74, if_neg e75, if_neg e88, if_neg e64, if_pos e80]; show _ = putD r18.dat (gShift (shownD r18.dat) r18.X r18.Y (-argI l 0 1)); rw [show putD r18.dat (gShift (shownD r18.dat) r18.X r18.Y (-argI l 0 1)) = { r18.dat with Main := gShift r18.Main.dat r18.X r18.Y (-argI l 0 1) } from by rw [hfd]; unfold putD; rw [if_neg (show ¬ r18.dat.OnAlt = true from by show ¬ r18.OnAlt = true; rw [hx2]; decide)]]; exact ScrD.ext' rfl rfl (hsf) rfl rfl rfl rfl rfl rfl rfl rfl rfl rfl rfl rfl rfl rfl rfl rfl
  have hx2 : r18.OnAlt = true := (congrArg ScrD.OnAlt hd21).trans hx1
  have hfd : shownD r18.dat = r18.Alt.dat := by unfold shownD; rw [if_pos (show  r18.dat.OnAlt = true from by show  r18.OnAlt = true; rw [hx2])]; rfl
  have hgd2 : gridOk r18.Alt.dat = true := hfd ▸ hgs2
  have hgw2 : r18.Alt.W = r18.W ∧ r18.Alt.H = r18.H := ⟨(congrArg GridD.W hfd).symm.trans hsh2.1, (congrArg GridD.H hfd).symm.trans hsh2.2⟩
  refine WC.rG 16 hs24.d1 hs24 hs24 (fun _ hs118 => ?_)
  refine WG.rn [0, 1, 2, 3, 4, 5, 6, 7, 8, 9, 10, 11, 12, 13] hs118 [0, 1, 0, 1, 0] rfl rfl (WG.o1 14 rfl rfl ?_)
  refine WL.cl Tryz.call123 rfl (k98_ r18.Alt _ _ _ _ (ownScrR.ok (B := 549755813888) ho20 (hs118.ow L19) (by rw [hd21]; assumption)).Alt ?_ ?_ ?_ ?_) ?_
  iterate 4 first | assumption | rfl | omega | (refine ⟨?_, ?_, ?_, ?_⟩ <;> omega) | (constructor <;> omega)
  rintro _ whs119 ⟨r120, L1_121, rfl, hs119, ho122, hd123⟩
  replace hs119 := hs118.callF hs119
  refine ⟨_, rfl, ?_⟩
  replace hs119 := St.back [_, _] hs119
  have hsf := hd123
  refine WL.nil ⟨(hs119.rm L1_121), WG.rn [15] (hs119.rm L1_121) [] rfl rfl (WG.oK rfl (WL.st tbk hs119 0 rfl rfl (fun _ hs124 => WL.nil ⟨(hs124.d1.rm L1_121), WH.dn (ibN (retK0 rfl ?_))⟩)))⟩
  obtain ⟨L125, L126, L127, L128, hs133, ho129, ho130, ho131, ho132⟩ := ownScrR.op hs124 ho20
  have hs134 := ((hs133.fb b2).fb b_s)
  obtain ⟨L136, hs135, ho137⟩ := ownScrR.fl hs134 ho129 ho122 ho131 ho132
  have hs138 := ((hs135.fb b2).fb b_s)
  refine ownScrR.retp4 rfl ((hs138.fr L136).fb b_s) ho137 ?_
  · rw [← hr2]; unfold csiD; rw [if_neg e65, if_neg e66, if_neg e67, if_neg e68, if_neg e71, if_neg e100, if_neg e7, if_neg e74, if_neg e75, if_neg e88, if_neg e64, if_pos e80]; show _ = putD r18.dat (gShift (shownD r18.dat) r18.X r18.Y (-argI l 0 1)); rw [show putD r18.dat (gShift (shownD r18.dat) r18.X r18.Y (-argI l 0 1)) = { r18.dat with Alt := gShift r18.Alt.dat r18.X r18.Y (-argI l 0 1) } from by rw [hfd]; unfold putD; rw [if_pos (show  r18.dat.OnAlt = true from by show  r18.OnAlt = true; rw [hx2])]]; exact ScrD.ext' rfl rfl rfl (hsf) rfl rfl rfl rfl rfl rfl rfl rfl rfl rfl rfl rfl rfl rfl rfl
 have e80 : ¬ b = 80 := by have h9 := h96; simpa using h9
 refine WC.seq (fun K139 hK139 => WC.r1 hs24 [] rfl ?_)
 refine WC.cq rfl (fun h140 qh140 => ?_) (fun h140 qh140 => ?_)
 ·have e76 : b = 76 := by have h9 := h140; simpa using h9
  refine WC.skip (hK139 _ _ (WC.condT rfl h140 (WC.sq1 hs24 (WQ.r 12 [1, 0, 1, 0, 1, 0] rfl ?_))))
  refine WQ.call rfl rfl rfl (fun w_ hs_ => (Run.call Tryz.call23 rfl rfl rfl)) (fun w_ hs_ => (k1_ _ _ _ _).mono fun e_ w_ h_ => ⟨h_.1, (hs_ : St _ _ _ _).call0 h_.2⟩) ?_
  refine WQ.nil (fun _ (hs142 : St _ _ _ _) => ?_)
  refine WC.cq rfl (fun h143 qh143 => ?_) (fun h143 qh143 => ?_)
  ·have hwi : within r18.dat.Y r18.dat.Top r18.dat.Bot = true := h143
   have hwj := within_iff.1 hwi
   have htl : 0 ≤ r18.Y ∧ r18.Y ≤ r18.Bot ∧ r18.Bot < (shownD r18.dat).H := by rw [hsh2.2]; simp only [ScrR.dat] at hwj; omega
   refine WC.seq (fun K144 hK144 => WC.rG 19 (hs142.d1.rm L19) hs142 hs142 (fun _ hs145 => ?_))
   refine WG.rn [0, 1, 2, 3, 4, 5, 6, 7, 8, 10, 11, 13, 16, 17] hs145 [1, 1, 0, 1, 0] rfl rfl (WG.o1 9 rfl rfl (WL.makeMap hs145 rfl rfl rfl rfl (fun b146 whs147 hs147 => WL.nil ⟨hs147.d1, ?_⟩)))
   refine WG.all [12, 14] (by kernel_rfl) rfl (WGs.cons (i := 12) rfl rfl ?_ (WGs.cons (i := 14) rfl rfl ?_ WGs.nil))
   ·refine WL.mapPut hs147 0 rfl Tryz.underlying140 Tryz.underlying4 rfl rfl rfl rfl rfl rfl rfl ?_ ?_ (fun whs148 hs148 => ?_)
    · trivial
    · rfl
    refine WL.nil ⟨hs148.d1, WG.o1 14 rfl rfl (WL.mapPut hs148 0 rfl Tryz.underlying140 Tryz.underlying4 rfl rfl rfl rfl rfl rfl rfl ?_ ?_ (fun whs149 hs149 => ?_))⟩
    · trivial
    · rfl
    refine WL.nil ⟨hs149.d1, WG.rn [15] hs149.d1 [] rfl rfl (WG.o1 18 rfl rfl (WL.val rfl rfl rfl (Run.mapGet (v := i64 (-argI l 0 1)) Tryz.underlying140 Tryz.underlying4 rfl rfl rfl (hs149.own _ (nthL_mem (i := 0) rfl)).1 ?_ ?_) ?_))⟩
    · trivial
    · rw [show decide (b = 76) = true from decide_eq_true e76]; exact ⟨_, rfl⟩
    refine WL.nil ⟨hs149.d1, WG.oK rfl ?_⟩
    have hF150 := ((hs149.fr L19).fb b_s)
    refine WL.cl Tryz.call112 rfl (k134_ _ _ _ _ _ r18 _ _ _ _ _ (St.headP hF150) ho20 (St.ownP hF150) (St.nodupP hF150) ?_ ?_ ?_ ?_) ?_
    iterate 4 first | assumption | rfl | omega | (refine ⟨?_, ?_, ?_, ?_⟩ <;> omega) | (constructor <;> omega)
    rintro _ whs151 ⟨r152, L153, rfl, hs151, ho154, hd155⟩
    replace hs151 := St.lendP hF150 hs151
    refine ⟨_, rfl, ?_⟩
    have hs156 := (((hs151.fb b2).fb b146).fb b_s)
    have hrl := hd155
    refine WL.nil ⟨(hs156.d1.d1.rm L153), WH.dn (hK144 _ _ (WC.rG 4 hs156.d1 hs156 hs156 (fun _ hs157 => ?_)))⟩
    refine WG.rn [0, 2, 3] hs157 [2] rfl rfl (WG.all [1, 4] (by kernel_rfl) rfl (WGs.cons (i := 1) rfl rfl ?_ (WGs.consK rfl ?_ WGs.nil)))
    ·refine WL.r 1 hs157 [2] rfl (WL.nil ⟨hs157, WG.oK rfl (WL.st tbk hs157 0 rfl rfl (fun _ hs158 => WL.nil ⟨hs158.d1, WH.rn [5, 6] hs158.d1 [] rfl rfl (WH.o1 7 rfl (WL.st tbk hs158 0 rfl rfl (fun _ hs159 => ?_)))⟩))⟩)
     refine WL.nil ⟨hs159.d1, WH.dn (ibN (retK0 rfl ?_))⟩
     obtain ⟨L160, L161, L162, L163, hs168, ho164, ho165, ho166, ho167⟩ := ownScrR.op hs159 ho154
     have hs169 := (((hs168.fb b2).fb b146).fb b_s)
     obtain ⟨L171, hs170, ho172⟩ := ownScrR.fl hs169 ho164 ho165 ho166 ho167
     have hs173 := (((hs170.fb b2).fb b146).fb b_s)
     refine ownScrR.retp4 rfl ((hs173.fr L171).fb b_s) ho172 ?_
     · rw [← hr2]; unfold csiD; rw [if_neg e65, if_neg e66, if_neg e67, if_neg e68, if_neg e71, if_neg e100, if_neg e7, if_neg e74, if_neg e75, if_neg e88, if_neg e64, if_neg e80, if_pos e76]; unfold linesD; rw [if_pos hwi]; show _ = ({ rollD r18.dat r18.Y r18.Bot (-argI l 0 1) with X := 0, Wrap := false } : ScrD); rw [← hrl]; rfl
    refine WL.st tbk hs157 0 rfl rfl (fun _ hs174 => WL.nil ⟨hs174.d1, WH.rn [1, 5, 6] hs174.d1 [1] rfl rfl (WH.o1 7 rfl (WL.st tbk hs174 0 rfl rfl (fun _ hs175 => WL.nil ⟨hs175.d1, WH.dn (ibN ?_)⟩)))⟩)
    refine retK0 rfl ?_
    obtain ⟨L176, L177, L178, L179, hs184, ho180, ho181, ho182, ho183⟩ := ownScrR.op hs175 ho154
    have hs185 := (((hs184.fb b2).fb b146).fb b_s)
    obtain ⟨L187, hs186, ho188⟩ := ownScrR.fl hs185 ho180 ho181 ho182 ho183
    have hs189 := (((hs186.fb b2).fb b146).fb b_s)
    refine ownScrR.retp4 rfl ((hs189.fr L187).fb b_s) ho188 ?_
    · rw [← hr2]; unfold csiD; rw [if_neg e65, if_neg e66, if_neg e67, if_neg e68, if_neg e71, if_neg e100, if_neg e7, if_neg e74, if_neg e75, if_neg e88, if_neg e64, if_neg e80, if_pos e76]; unfold linesD; rw [if_pos hwi]; show _ = ({ rollD r18.dat r18.Y r18.Bot (-argI l 0 1) with X := 0, Wrap := false } : ScrD); rw [← hrl]; rfl
   refine WL.mapPut hs147 0 rfl Tryz.underlying140 Tryz.underlying4 rfl rfl rfl rfl rfl rfl rfl ?_ ?_ (fun whs190 hs190 => ?_)
   · trivial
   · rfl
   refine WL.nil ⟨hs190.d1, WG.o1 12 rfl rfl (WL.mapPut hs190 0 rfl Tryz.underlying140 Tryz.underlying4 rfl rfl rfl rfl rfl rfl rfl ?_ ?_ (fun whs191 hs191 => ?_))⟩
   · trivial
   · rfl
   refine WL.nil ⟨hs191.d1, WG.rn [15] hs191.d1 [] rfl rfl (WG.o1 18 rfl rfl (WL.val rfl rfl rfl (Run.mapGet (v := i64 (-argI l 0 1)) Tryz.underlying140 Tryz.underlying4 rfl rfl rfl (hs191.own _ (nthL_mem (i := 0) rfl)).1 ?_ ?_) ?_))⟩
   · trivial
   · rw [show decide (b = 76) = true from decide_eq_true e76]; exact ⟨_, rfl⟩
   refine WL.nil ⟨hs191.d1, WG.oK rfl ?_⟩
   have hF192 := ((hs191.fr L19).fb b_s)
   refine WL.cl Tryz.call112 rfl (k134_ _ _ _ _ _ r18 _ _ _ _ _ (St.headP hF192) ho20 (St.ownP hF192) (St.nodupP hF192) ?_ ?_ ?_ ?_) ?_
   iterate 4 first | assumption | rfl | omega | (refine ⟨?_, ?_, ?_, ?_⟩ <;> omega) | (constructor <;> omega)
   rintro _ whs193 ⟨r194, L195, rfl, hs193, ho196, hd197⟩
   replace hs193 := St.lendP hF192 hs193
   refine ⟨_, rfl, ?_⟩
   have hs198 := (((hs193.fb b2).fb b146).fb b_s)
   have hrl := hd197
   refine WL.nil ⟨(hs198.d1.d1.rm L195), WH.dn (hK144 _ _ (WC.rG 4 hs198.d1 hs198 hs198 (fun _ hs199 => ?_)))⟩
   refine WG.rn [0, 2, 3] hs199 [2] rfl rfl (WG.all [1, 4] (by kernel_rfl) rfl (WGs.cons (i := 1) rfl rfl ?_ (WGs.consK rfl ?_ WGs.nil)))
   ·refine WL.r 1 hs199 [2] rfl (WL.nil ⟨hs199, WG.oK rfl (WL.st tbk hs199 0 rfl rfl (fun _ hs200 => WL.nil ⟨hs200.d1, WH.rn [5, 6] hs200.d1 [] rfl rfl (WH.o1 7 rfl (WL.st tbk hs200 0 rfl rfl (fun _ hs201 => ?_)))⟩))⟩)
    refine WL.nil ⟨hs201.d1, WH.dn (ibN (retK0 rfl ?_))⟩
    obtain ⟨L202, L203, L204, L205, hs210, ho206, ho207, ho208, ho209⟩ := ownScrR.op hs201 ho196
    have hs211 := (((hs210.fb b2).fb b146).fb b_s)
    obtain ⟨L213, hs212, ho214⟩ := ownScrR.fl hs211 ho206 ho207 ho208 ho209
    have hs215 := (((hs212.fb b2).fb b146).fb b_s)
    refine ownScrR.retp4 rfl ((hs215.fr L213).fb b_s) ho214 ?_
    · rw [← hr2]; unfold csiD; rw [if_neg e65, if_neg e66, if_neg e67, if_neg e68, if_neg e71, if_neg e100, if_neg e7, if_neg e74, if_neg e75, if_neg e88, if_neg e64, if_neg e80, if_pos e76]; unfold linesD; rw [if_pos hwi]; show _ = ({ rollD r18.dat r18.Y r18.Bot (-argI l 0 1) with X := 0, Wrap := false } : ScrD); rw [← hrl]; rfl
   refine WL.st tbk hs199 0 rfl rfl (fun _ hs216 => WL.nil ⟨hs216.d1, WH.rn [1, 5, 6] hs216.d1 [1] rfl rfl (WH.o1 7 rfl (WL.st tbk hs216 0 rfl rfl (fun _ hs217 => WL.nil ⟨hs217.d1, WH.dn (ibN ?_)⟩)))⟩)
   refine retK0 rfl ?_
   obtain ⟨L218, L219, L220, L221, hs226, ho222, ho223, ho224, ho225⟩ := ownScrR.op hs217 ho196
   have hs227 := (((hs226.fb b2).fb b146).fb b_s)
   obtain ⟨L229, hs228, ho230⟩ := ownScrR.fl hs227 ho222 ho223 ho224 ho225
   have hs231 := (((hs228.fb b2).fb b146).fb b_s)
   refine ownScrR.retp4 rfl ((hs231.fr L229).fb b_s) ho230 ?_
   · rw [← hr2]; unfold csiD; rw [if_neg e65, if_neg e66, if_neg e67, if_neg e68, if_neg e71, if_neg e100, if_neg e7, if_neg e74, if_neg e75, if_neg e88, if_neg e64, if_neg e80, if_pos e76]; unfold linesD; rw [if_pos hwi]; show _ = ({ rollD r18.dat r18.Y r18.Bot (-argI l 0 1) with X := 0, Wrap := false } : ScrD); rw [← hrl]; rfl
  have hwi : ¬ within r18.dat.Y r18.dat.Top r18.dat.Bot = true := by have h9 := h143; show ¬ within r18.Y r18.Top r18.Bot = true; rw [h9]; decide
  refine WC.skip (ibN (retK0 rfl (⟨r18, _, rfl, St.keepP (L1 := L19) ((hs142.fr L19).fb b_s), ho20, ?_⟩)))
  · rw [← hr2]; unfold csiD; rw [if_neg e65, if_neg e66, if_neg e67, if_neg e68, if_neg e71, if_neg e100, if_neg e7, if_neg e74, if_neg e75, if_neg e88, if_neg e64, if_neg e80, if_pos e76]; unfold linesD; rw [if_neg hwi]
 have e76 : ¬ b = 76 := by have h9 := h140; simpa using h9
 refine WC.region (WL.r 2 hs24 [] rfl (WL.nil (hK139 _ _ ?_)))
 refine WC.cq rfl (fun h232 qh232 => ?_) (fun h232 qh232 => ?_)
 ·have e77 : b = 77 := by have h9 := h232; simpa using h9
  refine WC.sq1 hs24 (WQ.r 12 [1, 0, 1, 0, 1, 0] rfl ?_)
  refine WQ.call rfl rfl rfl (fun w_ hs_ => (Run.call Tryz.call23 rfl rfl rfl)) (fun w_ hs_ => (k1_ _ _ _ _).mono fun e_ w_ h_ => ⟨h_.1, (hs_ : St _ _ _ _).call0 h_.2⟩) ?_
  refine WQ.nil (fun _ (hs233 : St _ _ _ _) => ?_)
  refine WC.cq rfl (fun h234 qh234 => ?_) (fun h234 qh234 => ?_)
  ·have hwi : within r18.dat.Y r18.dat.Top r18.dat.Bot = true := h234
   have hwj := within_iff.1 hwi
   have htl : 0 ≤ r18.Y ∧ r18.Y ≤ r18.Bot ∧ r18.Bot < (shownD r18.dat).H := by rw [hsh2.2]; simp only [ScrR.dat] at hwj; omega
   refine WC.seq (fun K235 hK235 => WC.rG 19 (hs233.d1.rm L19) hs233 hs233 (fun _ hs236 => ?_))
   refine WG.rn [0, 1, 2, 3, 4, 5, 6, 7, 8, 10, 11, 13, 16, 17] hs236 [1, 1, 0, 1, 0] rfl rfl (WG.o1 9 rfl rfl (WL.makeMap hs236 rfl rfl rfl rfl (fun b237 whs238 hs238 => WL.nil ⟨hs238.d1, ?_⟩)))
   refine WG.all [12, 14] (by kernel_rfl) rfl (WGs.cons (i := 12) rfl rfl ?_ (WGs.cons (i := 14) rfl rfl ?_ WGs.nil))
   ·refine WL.mapPut hs238 0 rfl Tryz.underlying140 Tryz.underlying4 rfl rfl rfl rfl rfl rfl rfl ?_ ?_ (fun whs239 hs239 => ?_)
    · trivial
    · rfl
    refine WL.nil ⟨hs239.d1, WG.o1 14 rfl rfl (WL.mapPut hs239 0 rfl Tryz.underlying140 Tryz.underlying4 rfl rfl rfl rfl rfl rfl rfl ?_ ?_ (fun whs240 hs240 => ?_))⟩
    · trivial
    · rfl
    refine WL.nil ⟨hs240.d1, WG.rn [15] hs240.d1 [] rfl rfl (WG.o1 18 rfl rfl (WL.val rfl rfl rfl (Run.mapGet (v := i64 (argI l 0 1)) Tryz.underlying140 Tryz.underlying4 rfl rfl rfl (hs240.own _ (nthL_mem (i := 0) rfl)).1 ?_ ?_) ?_))⟩
    · trivial
    · rw [show decide (b = 76) = false from decide_eq_false e76]; exact ⟨_, rfl⟩
    refine WL.nil ⟨hs240.d1, WG.oK rfl ?_⟩
    have hF241 := ((hs240.fr L19).fb b_s)
    refine WL.cl Tryz.call112 rfl (k134_ _ _ _ _ _ r18 _ _ _ _ _ (St.headP hF241) ho20 (St.ownP hF241) (St.nodupP hF241) ?_ ?_ ?_ ?_) ?_
    iterate 4 first | assumption | rfl | omega | (refine ⟨?_, ?_, ?_, ?_⟩ <;> omega) | (constructor <;> omega)
    rintro _ whs242 ⟨r243, L244, rfl, hs242, ho245, hd246⟩
    replace hs242 := St.lendP hF241 hs242
    refine ⟨_, rfl, ?_⟩
    have hs247 := (((hs242.fb b2).fb b237).fb b_s)
    have hrl := hd246
    refine WL.nil ⟨(hs247.d1.d1.rm L244), WH.dn (hK235 _ _ (WC.rG 4 hs247.d1 hs247 hs247 (fun _ hs248 => ?_)))⟩
    refine WG.rn [0, 2, 3] hs248 [2] rfl rfl (WG.all [1, 4] (by kernel_rfl) rfl (WGs.cons (i := 1) rfl rfl ?_ (WGs.consK rfl ?_ WGs.nil)))
    ·refine WL.r 1 hs248 [2] rfl (WL.nil ⟨hs248, WG.oK rfl (WL.st tbk hs248 0 rfl rfl (fun _ hs249 => WL.nil ⟨hs249.d1, WH.rn [5, 6] hs249.d1 [] rfl rfl (WH.o1 7 rfl (WL.st tbk hs249 0 rfl rfl (fun _ hs250 => ?_)))⟩))⟩)
     refine WL.nil ⟨hs250.d1, WH.dn (ibN (retK0 rfl ?_))⟩
     obtain ⟨L251, L252, L253, L254, hs259, ho255, ho256, ho257, ho258⟩ := ownScrR.op hs250 ho245
     have hs260 := (((hs259.fb b2).fb b237).fb b_s)
     obtain ⟨L262, hs261, ho263⟩ := ownScrR.fl hs260 ho255 ho256 ho257 ho258
     have hs264 := (((hs261.fb b2).fb b237).fb b_s)
     refine ownScrR.retp4 rfl ((hs264.fr L262).fb b_s) ho263 ?_
     · rw [← hr2]; unfold csiD; rw [if_neg e65, if_neg e66, if_neg e67, if_neg e68, if_neg e71, if_neg e100, if_neg e7, if_neg e74, if_neg e75, if_neg e88, if_neg e64, if_neg e80, if_neg e76, if_pos e77]; unfold linesD; rw [if_pos hwi]; show _ = ({ rollD r18.dat r18.Y r18.Bot (argI l 0 1) with X := 0, Wrap := false } : ScrD); rw [← hrl]; rfl
    refine WL.st tbk hs248 0 rfl rfl (fun _ hs265 => WL.nil ⟨hs265.d1, WH.rn [1, 5, 6] hs265.d1 [1] rfl rfl (WH.o1 7 rfl (WL.st tbk hs265 0 rfl rfl (fun _ hs266 => WL.nil ⟨hs266.d1, WH.dn (ibN ?_)⟩)))⟩)
    refine retK0 rfl ?_
    obtain ⟨L267, L268, L269, L270, hs275, ho271, ho272, ho273, ho274⟩ := ownScrR.op hs266 ho245
    have hs276 := (((hs275.fb b2).fb b237).fb b_s)
    obtain ⟨L278, hs277, ho279⟩ := ownScrR.fl hs276 ho271 ho272 ho273 ho274
    have hs280 := (((hs277.fb b2).fb b237).fb b_s)
    refine ownScrR.retp4 rfl ((hs280.fr L278).fb b_s) ho279 ?_
    · rw [← hr2]; unfold csiD; rw [if_neg e65, if_neg e66, if_neg e67, if_neg e68, if_neg e71, if_neg e100, if_neg e7, if_neg e74, if_neg e75, if_neg e88, if_neg e64, if_neg e80, if_neg e76, if_pos e77]; unfold linesD; rw [if_pos hwi]; show _ = ({ rollD r18.dat r18.Y r18.Bot (argI l 0 1) with X := 0, Wrap := false } : ScrD); rw [← hrl]; rfl
   refine WL.mapPut hs238 0 rfl Tryz.underlying140 Tryz.underlying4 rfl rfl rfl rfl rfl rfl rfl ?_ ?_ (fun whs281 hs281 => ?_)
   · trivial
   · rfl
   refine WL.nil ⟨hs281.d1, WG.o1 12 rfl rfl (WL.mapPut hs281 0 rfl Tryz.underlying140 Tryz.underlying4 rfl rfl rfl rfl rfl rfl rfl ?_ ?_ (fun whs282 hs282 => ?_))⟩
   · trivial
   · rfl
   refine WL.nil ⟨hs282.d1, WG.rn [15] hs282.d1 [] rfl rfl (WG.o1 18 rfl rfl (WL.val rfl rfl rfl (Run.mapGet (v := i64 (argI l 0 1)) Tryz.underlying140 Tryz.underlying4 rfl rfl rfl (hs282.own _ (nthL_mem (i := 0) rfl)).1 ?_ ?_) ?_))⟩
   · trivial
   · rw [show decide (b = 76) = false from decide_eq_false e76]; exact ⟨_, rfl⟩
   refine WL.nil ⟨hs282.d1, WG.oK rfl ?_⟩
   have hF283 := ((hs282.fr L19).fb b_s)
   refine WL.cl Tryz.call112 rfl (k134_ _ _ _ _ _ r18 _ _ _ _ _ (St.headP hF283) ho20 (St.ownP hF283) (St.nodupP hF283) ?_ ?_ ?_ ?_) ?_
   iterate 4 first | assumption | rfl | omega | (refine ⟨?_, ?_, ?_, ?_⟩ <;> omega) | (constructor <;> omega)
   rintro _ whs284 ⟨r285, L286, rfl, hs284, ho287, hd288⟩
   replace hs284 := St.lendP hF283 hs284
   refine ⟨_, rfl, ?_⟩
   have hs289 := (((hs284.fb b2).fb b237).fb b_s)
   have hrl := hd288
   refine WL.nil ⟨(hs289.d1.d1.rm L286), WH.dn (hK235 _ _ (WC.rG 4 hs289.d1 hs289 hs289 (fun _ hs290 => ?_)))⟩
   refine WG.rn [0, 2, 3] hs290 [2] rfl rfl (WG.all [1, 4] (by kernel_rfl) rfl (WGs.cons (i := 1) rfl rfl ?_ (WGs.consK rfl ?_ WGs.nil)))
   ·refine WL.r 1 hs290 [2] rfl (WL.nil ⟨hs290, WG.oK rfl (WL.st tbk hs290 0 rfl rfl (fun _ hs291 => WL.nil ⟨hs291.d1, WH.rn [5, 6] hs291.d1 [] rfl rfl (WH.o1 7 rfl (WL.st tbk hs291 0 rfl rfl (fun _ hs292 => ?_)))⟩))⟩)
    refine WL.nil ⟨hs292.d1, WH.dn (ibN (retK0 rfl ?_))⟩
    obtain ⟨L293, L294, L295, L296, hs301, ho297, ho298, ho299, ho300⟩ := ownScrR.op hs292 ho287
    have hs302 := (((hs301.fb b2).fb b237).fb b_s)
    obtain ⟨L304, hs303, ho305⟩ := ownScrR.fl hs302 ho297 ho298 ho299 ho300
    have hs306 := (((hs303.fb b2).fb b237).fb b_s)
    refine ownScrR.retp4 rfl ((hs306.fr L304).fb b_s) ho305 ?_
    · rw [← hr2]; unfold csiD; rw [if_neg e65, if_neg e66, if_neg e67, if_neg e68, if_neg e71, if_neg e100, if_neg e7, if_neg e74, if_neg e75, if_neg e88, if_neg e64, if_neg e80, if_neg e76, if_pos e77]; unfold linesD; rw [if_pos hwi]; show _ = ({ rollD r18.dat r18.Y r18.Bot (argI l 0 1) with X := 0, Wrap := false } : ScrD); rw [← hrl]; rfl
   refine WL.st tbk hs290 0 rfl rfl (fun _ hs307 => WL.nil ⟨hs307.d1, WH.rn [1, 5, 6] hs307.d1 [1] rfl rfl (WH.o1 7 rfl (WL.st tbk hs307 0 rfl rfl (fun _ hs308 => WL.nil ⟨hs308.d1, WH.dn (ibN ?_)⟩)))⟩)
   refine retK0 rfl ?_
   obtain ⟨L309, L310, L311, L312, hs317, ho313, ho314, ho315, ho316⟩ := ownScrR.op hs308 ho287
   have hs318 := (((hs317.fb b2).fb b237).fb b_s)
   obtain ⟨L320, hs319, ho321⟩ := ownScrR.fl hs318 ho313 ho314 ho315 ho316
   have hs322 := (((hs319.fb b2).fb b237).fb b_s)
   refine ownScrR.retp4 rfl ((hs322.fr L320).fb b_s) ho321 ?_
   · rw [← hr2]; unfold csiD; rw [if_neg e65, if_neg e66, if_neg e67, if_neg e68, if_neg e71, if_neg e100, if_neg e7, if_neg e74, if_neg e75, if_neg e88, if_neg e64, if_neg e80, if_neg e76, if_pos e77]; unfold linesD; rw [if_pos hwi]; show _ = ({ rollD r18.dat r18.Y r18.Bot (argI l 0 1) with X := 0, Wrap := false } : ScrD); rw [← hrl]; rfl
  have hwi : ¬ within r18.dat.Y r18.dat.Top r18.dat.Bot = true := by have h9 := h234; show ¬ within r18.Y r18.Top r18.Bot = true; rw [h9]; decide
  refine WC.skip (ibN (retK0 rfl (⟨r18, _, rfl, St.keepP (L1 := L19) ((hs233.fr L19).fb b_s), ho20, ?_⟩)))
  · rw [← hr2]; unfold csiD; rw [if_neg e65, if_neg e66, if_neg e67, if_neg e68, if_neg e71, if_neg e100, if_neg e7, if_neg e74, if_neg e75, if_neg e88, if_neg e64, if_neg e80, if_neg e76, if_pos e77]; unfold linesD; rw [if_neg hwi]
 have e77 : ¬ b = 77 := by have h9 := h232; simpa using h9
 refine WC.r1 hs24 [] rfl (WC.cq rfl (fun h323 qh323 => ?_) (fun h323 qh323 => ?_))
 ·have e83 : b = 83 := by have h9 := h323; simpa using h9
  refine WC.region (WL.r 2 hs24 [1] rfl ?_)
  have hF324 := ((hs24.fr L19).fb b_s)
  refine WL.cl Tryz.call111 rfl (k135_ _ _ _ _ _ r18 _ _ _ (St.headP hF324) ho20 (St.ownP hF324) (St.nodupP hF324) ?_ ?_ ?_) ?_
  iterate 3 first | assumption | rfl | omega | (refine ⟨?_, ?_, ?_, ?_⟩ <;> omega) | (constructor <;> omega)
  rintro _ whs325 ⟨r326, L327, rfl, hs325, ho328, hd329⟩
  replace hs325 := St.lendP hF324 hs325
  refine ⟨_, rfl, ?_⟩
  have hs330 := ((hs325.fb b2).fb b_s)
  refine WL.nil (ibN (retK0 rfl (⟨r326, _, rfl, St.keepP (L1 := L327) ((hs330.fr L327).fb b_s), ho328, ?_⟩)))
  · rw [← hr2]; unfold csiD; rw [if_neg e65, if_neg e66, if_neg e67, if_neg e68, if_neg e71, if_neg e100, if_neg e7, if_neg e74, if_neg e75, if_neg e88, if_neg e64, if_neg e80, if_neg e76, if_neg e77, if_pos e83]; exact hd329
 have e83 : ¬ b = 83 := by have h9 := h323; simpa using h9
 refine WC.r1 hs24 [] rfl (WC.cq rfl (fun h331 qh331 => ?_) (fun h331 qh331 => ?_))
 ·have e84 : b = 84 := by have h9 := h331; simpa using h9
  refine WC.rG 11 (hs24.d1.rm L19) hs24 hs24 (fun _ hs332 => ?_)
  refine WG.rn [0, 1, 2, 3, 4, 5, 6, 7, 8, 9, 10] hs332 [1, 1, 0, 1, 0] rfl rfl (WG.oK rfl ?_)
  have hF333 := ((hs332.fr L19).fb b_s)
  refine WL.cl Tryz.call112 rfl (k134_ _ _ _ _ _ r18 _ _ _ _ _ (St.headP hF333) ho20 (St.ownP hF333) (St.nodupP hF333) ?_ ?_ ?_ ?_) ?_
  iterate 4 first | assumption | rfl | omega | (refine ⟨?_, ?_, ?_, ?_⟩ <;> omega) | (constructor <;> omega)
  rintro _ whs334 ⟨r335, L336, rfl, hs334, ho337, hd338⟩
  replace hs334 := St.lendP hF333 hs334
  refine ⟨_, rfl, ?_⟩
  have hs339 := ((hs334.fb b2).fb b_s)
  refine WL.nil ⟨(hs339.d1.rm L336), WH.dn (ibN (retK0 rfl (⟨r335, _, rfl, St.keepP (L1 := L336) ((hs339.fr L336).fb b_s), ho337, ?_⟩)))⟩
  · rw [← hr2]; unfold csiD; rw [if_neg e65, if_neg e66, if_neg e67, if_neg e68, if_neg e71, if_neg e100, if_neg e7, if_neg e74, if_neg e75, if_neg e88, if_neg e64, if_neg e80, if_neg e76, if_neg e77, if_neg e83, if_pos e84]; exact hd338
 have e84 : ¬ b = 84 := by have h9 := h331; simpa using h9
 refine WC.r1 hs24 [] rfl (WC.cq rfl (fun h340 qh340 => ?_) (fun h340 qh340 => ?_))
 ·have e109 : b = 109 := by have h9 := h340; simpa using h9
  refine WC.rG 9 hs24.d1 hs24 hs24 (fun _ hs341 => ?_)
  refine WG.rn [0, 1, 2, 3, 4, 5] hs341 [1, 1, 0] rfl rfl (WG.o1 6 rfl rfl (WL.cl Tryz.call11 rfl (k76_ _ _ _ _ _ _ _ _ _ _ (SlF.st f_l hs341 s_l) ?_ ?_) ?_))
  iterate 2 first | assumption | rfl | omega | (refine ⟨?_, ?_, ?_, ?_⟩ <;> omega) | (constructor <;> omega)
  rintro _ whs342 ⟨r343, rfl, hs342, hr344⟩
  replace hs342 := hs341.callF hs342
  refine ⟨_, rfl, ?_⟩
  rw [List.nil_append] at hs342
  replace hs342 := St.perm hs342 (L' := [_, _] ++ _) pR
  have hsg : r343 = sgrRes r18.A l := hr344
  refine WL.nil ⟨hs342, WG.rn [7, 8] hs342 [] rfl rfl (WG.oK rfl (WL.st tbk hs342 0 rfl rfl (fun _ hs345 => WL.nil ⟨hs345.d1, WH.dn (ibN (retK0 rfl ?_))⟩)))⟩
  obtain ⟨L346, L347, L348, L349, hs354, ho350, ho351, ho352, ho353⟩ := ownScrR.op hs345 ho20
  have hs355 := ((hs354.fb b2).fb b_s)
  obtain ⟨L357, hs356, ho358⟩ := ownScrR.fl hs355 ho350 ho351 ho352 ho353
  have hs359 := ((hs356.fb b2).fb b_s)
  refine ownScrR.retp4 rfl ((hs359.fr L357).fb b_s) ho358 ?_
  · rw [← hr2]; unfold csiD; rw [if_neg e65, if_neg e66, if_neg e67, if_neg e68, if_neg e71, if_neg e100, if_neg e7, if_neg e74, if_neg e75, if_neg e88, if_neg e64, if_neg e80, if_neg e76, if_neg e77, if_neg e83, if_neg e84, if_pos e109]; show _ = ({ r18.dat with A := sgrRes r18.A l } : ScrD); rw [← hsg]; rfl
 have e109 : ¬ b = 109 := by have h9 := h340; simpa using h9
 refine WC.r1 hs24 [] rfl (WC.cq rfl (fun h360 qh360 => ?_) (fun h360 qh360 => ?_))
 ·have e114 : b = 114 := by have h9 := h360; simpa using h9
  refine WC.region (WL.r 3 hs24 [1] rfl ?_)
  have hF361 := ((hs24.fr L19).fb b_s)
  refine WL.cl Tryz.call124 rfl (k143_ _ _ _ _ _ r18 _ _ _ _ _ _ _ (St.headP hF361) ho20 (St.ownP hF361) (SlF.st f_l hs24 s_l) (St.nodupP hF361) (St.sepTP hF361 f_l s_l) ?_ ?_ ?_ ?_) ?_
  iterate 4 first | assumption | rfl | omega | (refine ⟨?_, ?_, ?_, ?_⟩ <;> omega) | (constructor <;> omega)
  rintro _ whs362 ⟨r363, L364, rfl, hs362, ho365, hd366⟩
  replace hs362 := St.lendP hF361 hs362
  refine ⟨_, rfl, ?_⟩
  have hs367 := ((hs362.fb b2).fb b_s)
  refine WL.nil (ibN (retK0 rfl (⟨r363, _, rfl, St.keepP (L1 := L364) ((hs367.fr L364).fb b_s), ho365, ?_⟩)))
  · rw [← hr2]; unfold csiD; rw [if_neg e65, if_neg e66, if_neg e67, if_neg e68, if_neg e71, if_neg e100, if_neg e7, if_neg e74, if_neg e75, if_neg e88, if_neg e64, if_neg e80, if_neg e76, if_neg e77, if_neg e83, if_neg e84, if_neg e109, if_pos e114]; exact hd366
 have e114 : ¬ b = 114 := by have h9 := h360; simpa using h9
 refine WC.r1 hs24 [] rfl (WC.cq rfl (fun h368 qh368 => ?_) (fun h368 qh368 => ?_))
 ·have e103 : b = 103 := by have h9 := h368; simpa using h9
  refine WC.r1 hs24 [] rfl (WC.block (WC.r1 hs24 [] rfl (WC.cq rfl (fun h369 qh369 => ?_) (fun h369 qh369 => ?_))))
  ·have ek0 : argI l 0 0 = 0 := by have h9 := h369; simpa using h9
   refine WC.rG 9 (hs24.d1.rm L19) (hs24.rm L19) hs24 (fun _ hs370 => ?_)
   refine WG.rn [0, 1, 2, 3, 4] (hs370.rm L19) [1, 1, 0] rfl rfl ?_
   refine WG.tk 5 rfl (by kernel_rfl) rfl rfl rfl (hs370.rm L19) (fun w_ hs_ => (Run.makeFunc rfl rfl)) ?_
   refine WG.o1 6 rfl rfl ?_
   obtain ⟨L372, L373, L374, L375, hs380, ho376, ho377, ho378, ho379⟩ := ownScrR.op hs370 ho20
   have hs381 := ((hs380.fb b2).fb b_s)
   refine WL.cl Tryz.call125 rfl (k85_ _ _ _ _ _ _ ho378 (hs381.ow L374) (fun w_ Lx_ hx_ m_ => k149_ _ _ _ _ b2 b_s r18 m_ w_ ((hx_.keep _ (lt_of_heap (hs381.own _ (nthL_mem (i := 1) rfl)).1) (St.sepOwn (hs381.fr L374) (nthL_mem (i := 1) rfl))).trans (hs381.own _ (nthL_mem (i := 1) rfl)).1) ((hx_.keep _ (lt_of_heap (hs381.own _ (nthL_mem (i := 0) rfl)).1) (St.sepOwn (hs381.fr L374) (nthL_mem (i := 0) rfl))).trans (hs381.own _ (nthL_mem (i := 0) rfl)).1) (St.neq hs381 (i := 1) (j := 0) rfl rfl (by decide))) ?_) ?_
   · first | assumption | rfl | omega | (refine ⟨?_, ?_, ?_, ?_⟩ <;> omega) | (constructor <;> omega)
   rintro _ whs371 ⟨A382, c383, n384, xs385, L1_386, rfl, hs371, ho387, hd388⟩
   replace hs371 := St.lend (hs381.fr L374) hs371
   refine ⟨_, rfl, ?_⟩
   replace hs371 := St.back [_, _] hs371
   have hdl := hd388
   refine WL.nil ⟨((((hs371.rm L1_386).rm L372).rm L373).rm L375), WG.rn [7, 8] ((((hs371.rm L1_386).rm L372).rm L373).rm L375) [] rfl rfl (WG.oK rfl (WL.st tbk hs371 0 rfl rfl (fun _ hs389 => WL.nil ⟨((((hs389.d1.rm L1_386).rm L372).rm L373).rm L375), WH.dn (ibN (ibN ?_))⟩)))⟩
   refine retK0 rfl ?_
   obtain ⟨L391, hs390, ho392⟩ := ownScrR.fl hs389 ho376 ho377 ho387 ho379
   have hs393 := ((hs390.fb b2).fb b_s)
   refine ownScrR.retp4 rfl ((hs393.fr L391).fb b_s) ho392 ?_
   · rw [← hr2]; unfold csiD; rw [if_neg e65, if_neg e66, if_neg e67, if_neg e68, if_neg e71, if_neg e100, if_neg e7, if_neg e74, if_neg e75, if_neg e88, if_neg e64, if_neg e80, if_neg e76, if_neg e77, if_neg e83, if_neg e84, if_neg e109, if_neg e114, if_pos e103]; rw [ek0, tabsD_0]; show _ = ({ r18.dat with Tabs := r18.Tabs.xs.filter fun x => !decide (x = r18.X) } : ScrD); rw [← hdl]; rfl
  have ek0 : ¬ argI l 0 0 = 0 := by have h9 := h369; simpa using h9
  refine WC.r1 hs24 [] rfl (WC.cq rfl (fun h394 qh394 => ?_) (fun h394 qh394 => ?_))
  ·have ek3 : argI l 0 0 = 3 := by have h9 := h394; simpa using h9
   refine WC.region (WL.r 3 hs24 [1] rfl (WL.st tbk hs24 0 rfl rfl (fun _ hs395 => WL.nil (ibN (ibN (retK0 rfl ?_))))))
   obtain ⟨L396, L397, L398, L399, hs404, ho400, ho401, ho402, ho403⟩ := ownScrR.op hs395 ho20
   have hs405 := ((hs404.fb b2).fb b_s)
   obtain ⟨L408, hs407, ho409⟩ := ownScrR.fl hs405 ho400 ho401 (OwnF.nil _ _) ho403
   have hs410 := ((hs407.fb b2).fb b_s)
   refine ownScrR.retp4 rfl ((hs410.fr L408).fb b_s) ho409 ?_
   · rw [← hr2]; unfold csiD; rw [if_neg e65, if_neg e66, if_neg e67, if_neg e68, if_neg e71, if_neg e100, if_neg e7, if_neg e74, if_neg e75, if_neg e88, if_neg e64, if_neg e80, if_neg e76, if_neg e77, if_neg e83, if_neg e84, if_neg e109, if_neg e114, if_pos e103]; rw [ek3, tabsD_3]; rfl
  have ek3 : ¬ argI l 0 0 = 3 := by have h9 := h394; simpa using h9
  refine WC.skip (ibN (ibN (retK0 rfl (⟨r18, _, rfl, St.keepP (L1 := L19) ((hs24.fr L19).fb b_s), ho20, ?_⟩))))
  · rw [← hr2]; unfold csiD; rw [if_neg e65, if_neg e66, if_neg e67, if_neg e68, if_neg e71, if_neg e100, if_neg e7, if_neg e74, if_neg e75, if_neg e88, if_neg e64, if_neg e80, if_neg e76, if_neg e77, if_neg e83, if_neg e84, if_neg e109, if_neg e114, if_pos e103]; rw [tabsD_o ek0 ek3]
 have e103 : ¬ b = 103 := by have h9 := h368; simpa using h9
 refine WC.skip (ibN (retK0 rfl (⟨r18, _, rfl, St.keepP (L1 := L19) ((hs24.fr L19).fb b_s), ho20, ?_⟩)))
 · rw [← hr2]; unfold csiD; rw [if_neg e65, if_neg e66, if_neg e67, if_neg e68, if_neg e71, if_neg e100, if_neg e7, if_neg e74, if_neg e75, if_neg e88, if_neg e64, if_neg e80, if_neg e76, if_neg e77, if_neg e83, if_neg e84, if_neg e109, if_neg e114, if_neg e103]
theorem k152_ (u_0 u_1 u_2 u_3 : Value) (b_s : Nat) (s : ScrR) (L_s : Hp) (mark : Bool) (A_l : Option Addr) (n_l c_l : Nat) (l : List Int) (b : Int) (w : World) (hb_s : w.heap[b_s]? = some (Obj.cells (List.toArray (u_0 :: u_1 :: u_2 :: u_3 :: (cScr s))) 36 (0, 0))) (o_s : ownScrR s L_s) (h_s : Hh w L_s) (f_l : SlF encI w A_l n_l l) (hd_ : (b_s :: L_s.map (·.1)).Nodup) (s_l : 0 < n_l → (adr A_l).block ∉ (b_s :: L_s.map (·.1))) (hf : ScrFine s.dat) (hsm : smScr 1048576 s.dat) (hl : areArgs l = true) (hll : n_l ≤ 549755813888) :
    Calls Tryz.prog 41 #[.pointer (some ⟨b_s, 4, none⟩), .bool mark, .slice A_l n_l c_l, i64 b] w fun e w' => ∃ r L1, e = .returned (.tuple #[]) ∧ St w (b_s :: L_s.map (·.1)) ([(b_s, Obj.cells (List.toArray (u_0 :: u_1 :: u_2 :: u_3 :: (cScr r))) 36 (0, 0))] ++ L1) w' ∧ ownScrR r L1 ∧ r.dat = seqD s.dat mark l b := by
 have hsmB : smScr 549755813888 s.dat := smScr_mono hsm (by decide)
 have hln := f_l.len
 refine enter 36 Tryz.func41 rfl Tryz.ntmps41 rfl rfl ?_
 have hs1 := St.takeP w b_s _ L_s hb_s h_s hd_
 refine WC.block (WC.r1 hs1 [] rfl (WC.cq rfl (fun h2 qh2 => ?_) (fun h2 qh2 => ?_)))
 ·have hmk : mark = false := by have h9 := h2; simpa using h9
  refine WC.region (WL.r 3 hs1 [] rfl ?_)
  have hF3 := ((hs1.fr L_s).fb b_s)
  refine WL.cl Tryz.call85 rfl (k151_ _ _ _ _ _ s _ _ _ _ _ _ _ (St.headP hF3) o_s (St.ownP hF3) (SlF.st f_l hs1 s_l) (St.nodupP hF3) (St.sepTP hF3 f_l s_l) ?_ ?_ ?_ ?_) ?_
  iterate 4 first | assumption | omega
  rintro _ whs4 ⟨r5, L6, rfl, hs4, ho7, hd8⟩
  replace hs4 := St.lendP hF3 hs4
  refine ⟨_, rfl, WL.nil (ibN (retK0 rfl (⟨r5, _, rfl, St.keepP (L1 := L6) ((hs4.fr L6).fb b_s), ho7, ?_⟩)))⟩
  · unfold seqD; rw [if_pos hmk]; exact hd8
 have hmk : ¬ mark = false := by have h9 := h2; simpa using h9
 refine WC.sr (WL.r 3 hs1 [] rfl (WL.pO tbk 2 Acts.nil hs1 [] rfl rfl rfl rfl (fun g_ => trivial) (WL.r 1 hs1 [] rfl (WL.nil (WC.cq rfl (fun h9 qh9 => ?_) (fun h9 qh9 => ?_))))))
 ·have hbb : b = 104 ∨ b = 108 := by have h9 := h9; simp at h9; exact h9
  refine WC.r1 hs1 [] rfl (WC.block ?_)
  have hM14 := (St.grp1 (L1 := L_s) [_] ((hs1.fr L_s).fb b_s))
  refine WC.lV [0, 3, 10, 17, 24, 25] rfl hM14 (fun k_ (a_ : Hp) f => ∃ (i : Nat) (r : ScrR) (L12 : Hp), k_ = n_l - i ∧ a_ = [(b_s, .cells (List.toArray (u_0 :: u_1 :: u_2 :: u_3 :: (cScr r))) 36 (0, 0))] ++ L12 ∧ (i ≤ n_l) ∧ (r.dat = modesD s.dat (l.take i) (decide (b = 104))) ∧ ownScrR r L12 ∧ Sub [(26, .int .i64 i)] f) (((fun (i : Nat) => n_l - i) (0))) ?_ ?_
  ·refine ⟨0, s, L_s, rfl, rfl, ?_, ?_, o_s, ⟨rfl, trivial⟩⟩
   · exact Nat.zero_le _
   · rfl
  rintro _ _ f w ⟨i, r, L12, rfl, rfl, p0, p1, ho13, hG⟩ hF hs15
  refine WC.sub _ (hG.app hF) ?_
  clear hG hF
  replace hs15 := St.ungrp1 [_] hs15
  have hfr : ScrFine r.dat := by rw [p1]; exact hf.modes
  have hsmr : smScr 549755813888 r.dat := fine_smB hfr (by decide)
  refine WC.r1 hs15 [] rfl (WC.seq (fun K16 hK16 => ?_))
  refine WC.cq rfl (fun h17 qh17 => ?_) (fun h17 qh17 => ?_)
  ·refine WC.skip (hK16 _ _ (WC.seq (fun K18 hK18 => WC.block (WC.sr ?_))))
   refine WL.val rfl rfl rfl (Run.idxN Tryz.runUnderlying26 Tryz.sizeOf3 rfl rfl rfl ?_ ?_ ?_) ?_
   · exact SlF.some_ (SlF.st f_l hs15 s_l)
   · omega
   · omega
   refine WL.val rfl rfl rfl (Run.load Tryz.isAgg3 rfl rfl (SlF.one1 (SlF.st f_l hs15 s_l) ?_ rfl)) ?_
   · omega
   refine WL.r 1 hs15 [] rfl (WL.nil (WC.region (WL.r 4 hs15 [] rfl ?_)))
   have hF19 := ((hs15.fr L12).fb b_s)
   refine WL.cl Tryz.call86 rfl (k144_ _ _ _ _ _ r _ _ _ _ (St.headP hF19) ho13 (St.ownP hF19) (St.nodupP hF19) ?_ ?_) ?_
   iterate 2 first | assumption | rfl | omega
   rintro _ whs20 ⟨r21, L22, rfl, hs20, ho23, hd24⟩
   replace hs20 := St.lendP hF19 hs20
   refine ⟨_, rfl, WL.nil (hK18 _ _ (WC.region (WL.r 2 hs20 [] rfl (WL.nil (tkN ?_)))))⟩
   have hF25 := (St.grp1 (L1 := L22) [_] ((hs20.fr L22).fb b_s))
   refine ⟨sbF rfl, _, hF25, _, ?_, i + 1, r21, L22, rfl, rfl, ?_, ?_, ho23, ⟨rfl, trivial⟩⟩
   · omega
   · omega
   · rw [hd24, p1]; exact (modesD_take (by omega)).symm
  refine WC.exit (tkE (tkE (ibE (ibN (retK0 rfl (⟨r, _, rfl, St.keepP (L1 := L12) ((hs15.fr L12).fb b_s), ho13, ?_⟩))))))
  · unfold seqD; rw [if_neg hmk, if_pos hbb]; rw [p1, List.take_of_length_le (by omega)]; rfl
 have hbb : ¬ (b = 104 ∨ b = 108) := by have h9 := h9; simp at h9; omega
 refine WC.skip (ibN (retK0 rfl (⟨s, _, rfl, St.keepP (L1 := L_s) ((hs1.fr L_s).fb b_s), o_s, ?_⟩)))
 · unfold seqD; rw [if_neg hmk, if_neg hbb]
theorem k153_ (b_s : Nat) (u_0 u_1 u_2 u_3 u_4 u_5 u_6 u_7 u_8 u_9 u_10 u_11 u_13 u_14 u_15 u_16 u_17 u_18 u_19 u_20 u_21 u_22 u_23 u_24 u_25 u_26 u_27 u_28 u_29 u_30 u_31 u_32 u_33 u_34 : Value) (x : Bool) (w : World) (hb : w.heap[b_s]? = some (Obj.cells (List.toArray (u_0 :: u_1 :: u_2 :: u_3 :: [u_4, u_5, u_6, u_7, u_8, u_9, u_10, u_11, .bool x, u_13, u_14, u_15, u_16, u_17, u_18, u_19, u_20, u_21, u_22, u_23, u_24, u_25, u_26, u_27, u_28, u_29, u_30, u_31, u_32, u_33, u_34])) 36 (0, 0))) (hx : x = false) :
    Calls Tryz.prog 74 #[.pointer (some ⟨b_s, 4, none⟩)] w fun e w' => e = .returned (.pointer (some ⟨b_s, 6, none⟩)) ∧ St w [] [] w' := by
 refine enter 13 Tryz.func74 rfl Tryz.ntmps74 rfl rfl ?_
 have hs1 := St.take1 w b_s _ hb
 refine WC.r1 hs1 [] rfl ?_
 refine WC.seq (fun K2 hK2 => ?_)
 refine WC.r1 hs1 [0] rfl ?_
 refine WC.cq rfl (fun h3 qh3 => ?_) (fun h3 qh3 => ?_)
 ·exfalso; have h9 := h3; rw [hx] at h9; revert h9; decide
 refine WC.skip ?_
 refine hK2 _ _ ?_
 refine WC.r1 hs1 [] rfl ?_
 refine WC.ret ?_
 refine retV1 rfl (resV.tmp rfl) ?_
 refine ⟨rfl, St.untouch hs1 (fun k hk => ?_) (fun p hp_ => ?_)⟩
 · obtain rfl := List.mem_singleton.1 hk; exact ⟨_, List.mem_cons_self⟩
 · obtain rfl := List.mem_singleton.1 hp_; exact hb
theorem k154_ (b_s : Nat) (u_0 u_1 u_2 u_3 u_4 u_5 u_6 u_7 u_8 u_9 u_10 u_11 u_13 u_14 u_15 u_16 u_17 u_18 u_19 u_20 u_21 u_22 u_23 u_24 u_25 u_26 u_27 u_28 u_29 u_30 u_31 u_32 u_33 u_34 : Value) (x : Bool) (w : World) (hb : w.heap[b_s]? = some (Obj.cells (List.toArray (u_0 :: u_1 :: u_2 :: u_3 :: [u_4, u_5, u_6, u_7, u_8, u_9, u_10, u_11, .bool x, u_13, u_14, u_15, u_16, u_17, u_18, u_19, u_20, u_21, u_22, u_23, u_24, u_25, u_26, u_27, u_28, u_29, u_30, u_31, u_32, u_33, u_34])) 36 (0, 0))) (hx : x = true) :
    Calls Tryz.prog 74 #[.pointer (some ⟨b_s, 4, none⟩)] w fun e w' => e = .returned (.pointer (some ⟨b_s, 9, none⟩)) ∧ St w [] [] w' := by
 refine enter 13 Tryz.func74 rfl Tryz.ntmps74 rfl rfl ?_
 have hs1 := St.take1 w b_s _ hb
 refine WC.r1 hs1 [] rfl ?_
 refine WC.seq (fun K2 hK2 => ?_)
 refine WC.r1 hs1 [0] rfl ?_
 refine WC.cq rfl (fun h3 qh3 => ?_) (fun h3 qh3 => ?_)
 ·refine WC.r1 hs1 [] rfl ?_
  refine WC.ret ?_
  refine tkR ?_
  clear hK2
  refine retV1 rfl (resV.tmp rfl) ?_
  refine ⟨rfl, St.untouch hs1 (fun k hk => ?_) (fun p hp_ => ?_)⟩
  · obtain rfl := List.mem_singleton.1 hk; exact ⟨_, List.mem_cons_self⟩
  · obtain rfl := List.mem_singleton.1 hp_; exact hb
 exfalso; have h9 := h3; rw [hx] at h9; revert h9; decide
set_option maxHeartbeats 1000000 in
set_option maxRecDepth 2000 in
theorem k155_ (u_0 u_1 u_2 u_3 : Value) (b_s : Nat) (s : ScrR) (L_s : Hp) (q : Int) (w : World) (hb_s : w.heap[b_s]? = some (Obj.cells (List.toArray (u_0 :: u_1 :: u_2 :: u_3 :: (cScr s))) 36 (0, 0))) (o_s : ownScrR s L_s) (h_s : Hh w L_s) (hd_ : (b_s :: L_s.map (·.1)).Nodup) (hf : ScrFine s.dat) (hsm : smScr 1048576 s.dat) :
    Calls Tryz.prog 38 #[.pointer (some ⟨b_s, 4, none⟩), i64 q] w fun e w' => ∃ r L1, e = .returned (.tuple #[]) ∧ St w (b_s :: L_s.map (·.1)) ([(b_s, Obj.cells (List.toArray (u_0 :: u_1 :: u_2 :: u_3 :: (cScr r))) 36 (0, 0))] ++ L1) w' ∧ ownScrR r L1 ∧ r.dat = runeD s.dat q := by
 have hsmB : smScr 549755813888 s.dat := by first | assumption | exact smScr_mono hsm (by decide)
 refine enter 58 Tryz.func38 rfl Tryz.ntmps38 rfl rfl ?_
 have hs1 := St.takeP w b_s _ L_s hb_s h_s hd_
 refine WC.seq (fun K2 hK2 => WC.r1 hs1 [0] rfl ?_)
 refine WC.jPK [0, 1, 4, 5, 6, 7] rfl ((hs1.fr L_s).fb b_s) (fun o_ L_ => ∃ r : ScrR, o_ = Obj.cells (List.toArray (u_0 :: u_1 :: u_2 :: u_3 :: (cScr r))) 36 (0, 0) ∧ ownScrR r L_ ∧ r.dat = (if s.Wrap = true then { downD s.dat with X := 0 } else s.dat)) ?_ ?_
 ·refine WC.cq rfl (fun h3 qh3 => ?_) (fun h3 qh3 => ?_)
  ·have hwr : s.Wrap = true := h3
   refine WC.sr (WL.r 1 hs1 [] rfl ?_)
   have hF4 := ((hs1.fr L_s).fb b_s)
   refine WL.cl Tryz.call73 rfl (k136_ _ _ _ _ _ s _ _ (St.headP hF4) o_s (St.ownP hF4) (St.nodupP hF4) ?_ ?_) ?_
   iterate 2 first | assumption | rfl | omega
   rintro _ whs5 ⟨r6, L7, rfl, hs5, ho8, hd9⟩
   replace hs5 := St.lendP hF4 hs5
   refine ⟨_, rfl, WL.nil (WC.region (WL.r 3 hs5 [] rfl (WL.st tbk hs5 0 rfl rfl (fun _ hs10 => WL.nil ?_))))⟩
   obtain ⟨L11, L12, L13, L14, hs19, ho15, ho16, ho17, ho18⟩ := ownScrR.op hs10 ho8
   have hs20 := (hs19.fb b_s)
   obtain ⟨L22, hs21, ho23⟩ := ownScrR.fl hs20 ho15 ho16 ho17 ho18
   have hs24 := (hs21.fb b_s)
   refine tkN ⟨_, _, ((hs24.fr L22).fb b_s), ⟨⟨r6.W, r6.H, ⟨r6.Main.W, r6.Main.H, SlD.of ho15⟩, ⟨r6.Alt.W, r6.Alt.H, SlD.of ho16⟩, r6.OnAlt, (0), r6.Y, r6.Wrap, ⟨r6.A.Fg, r6.A.Bg, r6.A.Bold, r6.A.Under, r6.A.Turn⟩, r6.Top, r6.Bot, r6.NoWrap, r6.Hide, r6.SaveX, r6.SaveY, ⟨r6.SaveA.Fg, r6.SaveA.Bg, r6.SaveA.Bold, r6.SaveA.Under, r6.SaveA.Turn⟩, SlD.of ho17, r6.Limit, SlD.ofN ho18⟩, rfl, (by exact ho23), ?_⟩, sbF rfl⟩
   · rw [if_pos hwr]; show _ = ({ downD s.dat with X := 0 } : ScrD); rw [← hd9]; rfl
  have hwr : ¬ s.Wrap = true := by have h9 := h3; rw [h9]; decide
  refine WC.skip (tkN ⟨_, _, ((hs1.fr L_s).fb b_s), ⟨s, rfl, o_s, ?_⟩, sbF rfl⟩)
  · rw [if_neg hwr]
 rintro _ L25 _ ⟨r26, rfl, ho27, hd28⟩ hs29 f_ hf_
 refine hK2 _ _ (WC.sub _ hf_ ?_)
 clear hf_
 have hfr : ScrFine r26.dat := by rw [hd28]; split; exact hf.down.x0 rfl; exact hf
 have hsmr : smScr 549755813888 r26.dat := fine_smB hfr (by decide)
 have hwh2 : (1 ≤ r26.W ∧ r26.W ≤ 120) ∧ (1 ≤ r26.H ∧ r26.H ≤ 120) ∧ 1 ≤ r26.W * r26.H ∧ r26.W * r26.H ≤ 4000 := isSize_bnd hfr.size
 have hxy2 : (0 ≤ r26.X ∧ r26.X < r26.W) ∧ 0 ≤ r26.Y ∧ r26.Y < r26.H := hfr.pos
 have hgs2 : gridOk (shownD r26.dat) = true := hfr.shown.1
 have hsh2 : (shownD r26.dat).W = r26.W ∧ (shownD r26.dat).H = r26.H := hfr.shown.2
 have hgl2 := grid_len hgs2
 have hvm : 0 ≤ r26.Y * r26.W := Int.mul_nonneg (by omega) (by omega)
 have hvn : (r26.Y + 1) * r26.W = r26.Y * r26.W + r26.W := by rw [Int.add_mul, Int.one_mul]
 have hvo : (r26.Y + 1) * r26.W ≤ r26.H * r26.W := Int.mul_le_mul_of_nonneg_right (by omega) (by omega)
 rw [Int.mul_comm r26.H r26.W] at hvo
 rcases Bool.eq_false_or_eq_true r26.OnAlt with hx | hx
 ·have hfd : shownD r26.dat = r26.Alt.dat := by unfold shownD; rw [if_pos (show r26.dat.OnAlt = true from by show r26.OnAlt = true; rw [hx])]; rfl
  have hpt : ∀ g9, putD r26.dat g9 = { r26.dat with Alt := g9 } := fun g9 => by unfold putD; rw [if_pos (show r26.dat.OnAlt = true from by show r26.OnAlt = true; rw [hx])]
  have hgw2 : r26.Alt.W = r26.W ∧ r26.Alt.H = r26.H := ⟨(congrArg GridD.W hfd).symm.trans hsh2.1, (congrArg GridD.H hfd).symm.trans hsh2.2⟩
  have hgl3 : (r26.Alt.Cells.xs.length : Int) = r26.W * r26.H := by have h9 := hgl2; rw [hsh2.1, hsh2.2, hfd] at h9; exact h9
  have hnl3 := ownScrR.len ‹ownScrR r26 _›
  have hcp3 := (ownScrR.ok (B := 549755813888) ho27 (hs29.ow L25) hsmr).Alt.Cells_c
  have e0m : r26.Y * r26.Alt.W = r26.Y * r26.W := by rw [hgw2.1]
  have e1m : (r26.Y + 1) * r26.Alt.W = (r26.Y + 1) * r26.W := by rw [hgw2.1]
  refine WC.seq (fun K30 hK30 => WC.rG 20 (hs29.rm L25) hs29 hs29 (fun _ hs31 => ?_))
  refine WG.rn [0, 4, 5, 6, 7, 9, 10, 11, 12, 13, 14, 15, 16, 17] hs31 [0, 0, 0] rfl rfl ?_
  refine WG.tk 18 rfl (by kernel_rfl) rfl rfl rfl hs31 (fun w_ hs_ => (Run.build rfl rfl rfl rfl (built_108_0_1 _ _ _ _ _ _))) ?_
  refine WG.o1 1 rfl rfl ?_
  refine WL.cl Tryz.call74 rfl (k154_ _ _ _ _ _ _ _ _ _ _ _ _ _ _ _ _ _ _ _ _ _ _ _ _ _ _ _ _ _ _ _ _ _ _ _ _ _ (hs31.own _ (nthL_mem (i := 0) rfl)).1 ?_) ?_
  · first | assumption | rfl | omega
  rintro _ whs32 ⟨rfl, hs32⟩
  replace hs32 := hs31.call0 hs32
  refine ⟨_, rfl, WL.nil ⟨hs32, WG.rn [2, 3] hs32 [0] rfl rfl (WG.o1 8 rfl rfl (WL.cl Tryz.call75 rfl (k48_ r26.Alt _ _ (ownScrR.ok (B := 549755813888) ho27 (hs32.ow L25) hsmr).Alt ?_ ?_ ?_ ?_) ?_))⟩⟩
  iterate 4 first | assumption | rfl | omega
  rintro _ whs33 ⟨rfl, hs33⟩
  replace hs33 := hs32.call0 hs33
  refine ⟨_, rfl, WL.nil ⟨hs33, ?_⟩⟩
  refine WG.tk 19 rfl (by kernel_rfl) rfl rfl rfl hs33 (fun w_ hs_ => (Run.idxK (r26.X.toNat) Tryz.runUnderlying29 Tryz.sizeOf108 rfl rfl rfl ?_ ?_ ?_)) ?_
  · exact SlF.some_ (SlF.cutC (lo := (r26.Y * r26.Alt.W).toNat) (hi := ((r26.Y + 1) * r26.Alt.W).toNat) (ownScrR.ok (B := 549755813888) ho27 ((hs_ : St _ _ _ _).ow L25) hsmr).Alt.Cells (by refine ⟨?_, ?_, ?_⟩ <;> (omega)))
  · omega
  · omega
  refine WG.oK rfl ?_
  obtain ⟨L34, L35, L36, L37, hs42, ho38, ho39, ho40, ho41⟩ := ownScrR.op hs33 ho27
  have hs43 := (hs42.fb b_s)
  refine WL.storeC (x' := (⟨q, ⟨r26.A.Fg, r26.A.Bg, r26.A.Bold, r26.A.Under, r26.A.Turn⟩⟩ : CellD)) (lo := (r26.Y * r26.Alt.W).toNat) (hs43.fr L35) ho39 Tryz.sizeOf108 rfl rfl rfl rfl rfl rfl rfl rfl rfl ?_ rfl (fun L44 whs45 hs45 ho46 _ => ?_)
  · omega
  replace hs45 := St.back [_] hs45
  refine WL.nil ⟨((((hs45.rm L44).rm L34).rm L36).rm L37), WH.dn (hK30 _ _ (WC.q1 hs45 [0, 0] rfl (fun _ hs47 => ?_)))⟩
  refine WC.cq rfl (fun h48 qh48 => ?_) (fun h48 qh48 => ?_)
  ·have hlt : r26.dat.X ≠ r26.dat.W - 1 := by show r26.X ≠ r26.W - 1; have h9 := h48; simp at h9; omega
   refine WC.region (WL.r 7 hs47 [0] rfl (WL.st tbk hs47 0 rfl rfl (fun _ hs49 => WL.nil (retK0 rfl ?_))))
   obtain ⟨L51, hs50, ho52⟩ := ownScrR.fl hs49 ho38 ho46 ho40 ho41
   have hs53 := (hs50.fb b_s)
   refine ownScrR.retp4 rfl ((hs53.fr L51).fb b_s) ho52 ?_
   · first | (rw [runeD_lt hd28 hlt, hpt, hfd]; exact ScrD.ext' rfl rfl rfl (fill_one (g := r26.Alt.dat) rfl rfl (by show 0 ≤ r26.X ∧ r26.X < r26.Alt.W; omega) (by show 0 ≤ r26.Y; omega) rfl (by show (r26.Y * r26.Alt.W).toNat + r26.X.toNat < r26.Alt.Cells.xs.length; omega)) rfl rfl rfl rfl rfl rfl rfl rfl rfl rfl rfl rfl rfl rfl rfl) | (rw [runeD_eq hd28 hlt, hpt, hfd]; exact ScrD.ext' rfl rfl rfl (fill_one (g := r26.Alt.dat) rfl rfl (by show 0 ≤ r26.X ∧ r26.X < r26.Alt.W; omega) (by show 0 ≤ r26.Y; omega) rfl (by show (r26.Y * r26.Alt.W).toNat + r26.X.toNat < r26.Alt.Cells.xs.length; omega)) rfl rfl rfl rfl rfl rfl rfl rfl rfl rfl rfl rfl rfl rfl rfl)
  have hlt : r26.dat.X = r26.dat.W - 1 := by show r26.X = r26.W - 1; have h9 := h48; simp at h9; omega
  refine WC.region (WL.r 8 hs47 [0] rfl (WL.st tbk hs47 0 rfl rfl (fun _ hs54 => WL.nil (retK0 rfl ?_))))
  obtain ⟨L56, hs55, ho57⟩ := ownScrR.fl hs54 ho38 ho46 ho40 ho41
  have hs58 := (hs55.fb b_s)
  refine ownScrR.retp4 rfl ((hs58.fr L56).fb b_s) ho57 ?_
  · first | (rw [runeD_lt hd28 hlt, hpt, hfd]; exact ScrD.ext' rfl rfl rfl (fill_one (g := r26.Alt.dat) rfl rfl (by show 0 ≤ r26.X ∧ r26.X < r26.Alt.W; omega) (by show 0 ≤ r26.Y; omega) rfl (by show (r26.Y * r26.Alt.W).toNat + r26.X.toNat < r26.Alt.Cells.xs.length; omega)) rfl rfl rfl rfl rfl rfl rfl rfl rfl rfl rfl rfl rfl rfl rfl) | (rw [runeD_eq hd28 hlt, hpt, hfd]; exact ScrD.ext' rfl rfl rfl (fill_one (g := r26.Alt.dat) rfl rfl (by show 0 ≤ r26.X ∧ r26.X < r26.Alt.W; omega) (by show 0 ≤ r26.Y; omega) rfl (by show (r26.Y * r26.Alt.W).toNat + r26.X.toNat < r26.Alt.Cells.xs.length; omega)) rfl rfl rfl rfl rfl rfl rfl rfl rfl rfl rfl rfl rfl rfl rfl)
 have hfd : shownD r26.dat = r26.Main.dat := by unfold shownD; rw [if_neg (show ¬ r26.dat.OnAlt = true from by show ¬ r26.OnAlt = true; rw [hx]; decide)]; rfl
 have hpt : ∀ g9, putD r26.dat g9 = { r26.dat with Main := g9 } := fun g9 => by unfold putD; rw [if_neg (show ¬ r26.dat.OnAlt = true from by show ¬ r26.OnAlt = true; rw [hx]; decide)]
 have hgw2 : r26.Main.W = r26.W ∧ r26.Main.H = r26.H := ⟨(congrArg GridD.W hfd).symm.trans hsh2.1, (congrArg GridD.H hfd).symm.trans hsh2.2⟩
 have hgl3 : (r26.Main.Cells.xs.length : Int) = r26.W * r26.H := by have h9 := hgl2; rw [hsh2.1, hsh2.2, hfd] at h9; exact h9
 have hnl3 := ownScrR.len ‹ownScrR r26 _›
 have hcp3 := (ownScrR.ok (B := 549755813888) ho27 (hs29.ow L25) hsmr).Main.Cells_c
 have e0m : r26.Y * r26.Main.W = r26.Y * r26.W := by rw [hgw2.1]
 have e1m : (r26.Y + 1) * r26.Main.W = (r26.Y + 1) * r26.W := by rw [hgw2.1]
 refine WC.seq (fun K59 hK59 => WC.rG 20 (hs29.rm L25) hs29 hs29 (fun _ hs60 => ?_))
 refine WG.rn [0, 4, 5, 6, 7, 9, 10, 11, 12, 13, 14, 15, 16, 17] hs60 [0, 0, 0] rfl rfl ?_
 refine WG.tk 18 rfl (by kernel_rfl) rfl rfl rfl hs60 (fun w_ hs_ => (Run.build rfl rfl rfl rfl (built_108_0_1 _ _ _ _ _ _))) ?_
 refine WG.o1 1 rfl rfl ?_
 refine WL.cl Tryz.call74 rfl (k153_ _ _ _ _ _ _ _ _ _ _ _ _ _ _ _ _ _ _ _ _ _ _ _ _ _ _ _ _ _ _ _ _ _ _ _ _ _ (hs60.own _ (nthL_mem (i := 0) rfl)).1 ?_) ?_
 · first | assumption | rfl | omega
 rintro _ whs61 ⟨rfl, hs61⟩
 replace hs61 := hs60.call0 hs61
 refine ⟨_, rfl, WL.nil ⟨hs61, WG.rn [2, 3] hs61 [0] rfl rfl (WG.o1 8 rfl rfl (WL.cl Tryz.call75 rfl (k48_ r26.Main _ _ (ownScrR.ok (B := 549755813888) ho27 (hs61.ow L25) hsmr).Main ?_ ?_ ?_ ?_) ?_))⟩⟩
 iterate 4 first | assumption | rfl | omega
 rintro _ whs62 ⟨rfl, hs62⟩
 replace hs62 := hs61.call0 hs62
 refine ⟨_, rfl, WL.nil ⟨hs62, ?_⟩⟩
 refine WG.tk 19 rfl (by kernel_rfl) rfl rfl rfl hs62 (fun w_ hs_ => (Run.idxK (r26.X.toNat) Tryz.runUnderlying29 Tryz.sizeOf108 rfl rfl rfl ?_ ?_ ?_)) ?_
 · exact SlF.some_ (SlF.cutC (lo := (r26.Y * r26.Main.W).toNat) (hi := ((r26.Y + 1) * r26.Main.W).toNat) (ownScrR.ok (B := 549755813888) ho27 ((hs_ : St _ _ _ _).ow L25) hsmr).Main.Cells (by refine ⟨?_, ?_, ?_⟩ <;> (omega)))
 · omega
 · omega
 refine WG.oK rfl ?_
 obtain ⟨L63, L64, L65, L66, hs71, ho67, ho68, ho69, ho70⟩ := ownScrR.op hs62 ho27
 have hs72 := (hs71.fb b_s)
 refine WL.storeC (x' := (⟨q, ⟨r26.A.Fg, r26.A.Bg, r26.A.Bold, r26.A.Under, r26.A.Turn⟩⟩ : CellD)) (lo := (r26.Y * r26.Main.W).toNat) (hs72.fr L63) ho67 Tryz.sizeOf108 rfl rfl rfl rfl rfl rfl rfl rfl rfl ?_ rfl (fun L73 whs74 hs74 ho75 _ => ?_)
 · omega
 replace hs74 := St.back [_] hs74
 refine WL.nil ⟨((((hs74.rm L73).rm L64).rm L65).rm L66), WH.dn (hK59 _ _ (WC.q1 hs74 [0, 0] rfl (fun _ hs76 => ?_)))⟩
 refine WC.cq rfl (fun h77 qh77 => ?_) (fun h77 qh77 => ?_)
 ·have hlt : r26.dat.X ≠ r26.dat.W - 1 := by show r26.X ≠ r26.W - 1; have h9 := h77; simp at h9; omega
  refine WC.region (WL.r 7 hs76 [0] rfl (WL.st tbk hs76 0 rfl rfl (fun _ hs78 => WL.nil (retK0 rfl ?_))))
  obtain ⟨L80, hs79, ho81⟩ := ownScrR.fl hs78 ho75 ho68 ho69 ho70
  have hs82 := (hs79.fb b_s)
  refine ownScrR.retp4 rfl ((hs82.fr L80).fb b_s) ho81 ?_
  · first | (rw [runeD_lt hd28 hlt, hpt, hfd]; exact ScrD.ext' rfl rfl (fill_one (g := r26.Main.dat) rfl rfl (by show 0 ≤ r26.X ∧ r26.X < r26.Main.W; omega) (by show 0 ≤ r26.Y; omega) rfl (by show (r26.Y * r26.Main.W).toNat + r26.X.toNat < r26.Main.Cells.xs.length; omega)) rfl rfl rfl rfl rfl rfl rfl rfl rfl rfl rfl rfl rfl rfl rfl rfl) | (rw [runeD_eq hd28 hlt, hpt, hfd]; exact ScrD.ext' rfl rfl (fill_one (g := r26.Main.dat) rfl rfl (by show 0 ≤ r26.X ∧ r26.X < r26.Main.W; omega) (by show 0 ≤ r26.Y; omega) rfl (by show (r26.Y * r26.Main.W).toNat + r26.X.toNat < r26.Main.Cells.xs.length; omega)) rfl rfl rfl rfl rfl rfl rfl rfl rfl rfl rfl rfl rfl rfl rfl rfl)
 have hlt : r26.dat.X = r26.dat.W - 1 := by show r26.X = r26.W - 1; have h9 := h77; simp at h9; omega
 refine WC.region (WL.r 8 hs76 [0] rfl (WL.st tbk hs76 0 rfl rfl (fun _ hs83 => WL.nil (retK0 rfl ?_))))
 obtain ⟨L85, hs84, ho86⟩ := ownScrR.fl hs83 ho75 ho68 ho69 ho70
 have hs87 := (hs84.fb b_s)
 refine ownScrR.retp4 rfl ((hs87.fr L85).fb b_s) ho86 ?_
 · first | (rw [runeD_lt hd28 hlt, hpt, hfd]; exact ScrD.ext' rfl rfl (fill_one (g := r26.Main.dat) rfl rfl (by show 0 ≤ r26.X ∧ r26.X < r26.Main.W; omega) (by show 0 ≤ r26.Y; omega) rfl (by show (r26.Y * r26.Main.W).toNat + r26.X.toNat < r26.Main.Cells.xs.length; omega)) rfl rfl rfl rfl rfl rfl rfl rfl rfl rfl rfl rfl rfl rfl rfl rfl) | (rw [runeD_eq hd28 hlt, hpt, hfd]; exact ScrD.ext' rfl rfl (fill_one (g := r26.Main.dat) rfl rfl (by show 0 ≤ r26.X ∧ r26.X < r26.Main.W; omega) (by show 0 ≤ r26.Y; omega) rfl (by show (r26.Y * r26.Main.W).toNat + r26.X.toNat < r26.Main.Cells.xs.length; omega)) rfl rfl rfl rfl rfl rfl rfl rfl rfl rfl rfl rfl rfl rfl rfl rfl)
theorem k156_ (A_s : Option Addr) (n_s c_s : Nat) (s : List Int) (p : Int → Bool) (cv : Value) (w : World) (f_s : SlF encI w A_s n_s s) (hcl : ∀ w1 : World, St w [] [] w1 → ∀ m : Int, Calls Tryz.prog 78 #[i64 m, cv] w1 fun e w2 => e = .returned (.bool (p m)) ∧ St w1 [] [] w2) (hn : n_s ≤ 1048576) :
    Calls Tryz.prog 77 #[.slice A_s n_s c_s, .func (.func 78) #[] #[cv]] w fun e w' => e = .returned (i64 (findI p s)) ∧ St w [] [] w' := by
 refine enter 19 Tryz.func77 rfl Tryz.ntmps77 rfl rfl ?_
 have hs1 := St.init w
 refine WC.r1 hs1 [] rfl (WC.seq (fun K2 hK2 => WC.r1 hs1 [] rfl (WC.block ?_)))
 refine WC.lS [0, 1, 7] rfl hs1 (fun k_ f w' => ∃ (i : Nat), k_ = n_s - i ∧ (i ≤ n_s) ∧ (∀ j, j < i → p (iat s j) = false) ∧ Sub [(8, .int .i64 i)] f) ((fun (i : Nat) => n_s - i) (0)) ?_ ?_
 ·refine ⟨0, rfl, ?_, ?_, ⟨rfl, trivial⟩⟩
  · exact Nat.zero_le _
  · exact fun j hj => absurd hj (by omega)
 clear hs1
 rintro _ f w ⟨i, rfl, p0, p1, hG⟩ hF hs3
 refine WC.sub _ (hG.app hF) ?_
 clear hG hF
 refine WC.r1 hs3 [] rfl (WC.seq (fun K4 hK4 => ?_))
 refine WC.cond rfl (fun h5 => ?_) (fun h5 => ?_)
 ·have qh5 := h5
  try simp only [decide_eq_true_eq, decide_eq_false_iff_not] at qh5
  refine WC.skip (hK4 _ _ (WC.seq (fun K6 hK6 => WC.block (WC.r1 hs3 [] rfl (WC.sr (WL.r 3 hs3 [] rfl ?_))))))
  refine WL.val rfl rfl rfl (Run.idxN Tryz.runUnderlying26 Tryz.sizeOf3 rfl rfl rfl ?_ ?_ ?_) ?_
  · exact SlF.some_ (SlF.st0 f_s hs3)
  · omega
  · omega
  refine WL.val rfl rfl rfl (Run.load Tryz.isAgg3 rfl rfl (SlF.one1 (SlF.st0 f_s hs3) ?_ rfl)) ?_
  · omega
  refine WL.call rfl rfl rfl (Run.callC Tryz.call78 rfl rfl rfl) (hcl _ hs3 _) ?_
  rintro _ whs7 ⟨rfl, hs7⟩
  replace hs7 := hs3.call0 hs7
  refine ⟨_, rfl, WL.nil (WC.cond rfl (fun h8 => ?_) (fun h8 => ?_))⟩
  ·have qh8 := h8
   try simp only [decide_eq_true_eq, decide_eq_false_iff_not] at qh8
   refine WC.r1 hs7 [] rfl (WC.ret (ibR (tkR (tkR (ibR (tkR ?_))))))
   clear hK6 hK2
   refine rtv rfl rfl hs7 ?_
   rw [findI_some (F := encI) (by rw [f_s.len]; omega) p1 h8]
  have qh8 := h8
  try simp only [decide_eq_true_eq, decide_eq_false_iff_not] at qh8
  refine WC.skip (hK6 _ _ (WC.region (WL.r 2 hs7 [] rfl (WL.nil (tkN ?_)))))
  refine ⟨sbF rfl, hs7, _, ?_, i + 1, rfl, ?_, ?_, ⟨rfl, trivial⟩⟩
  · omega
  · omega
  · intro j hj; rcases Nat.lt_or_ge j i with h_ | h_
    · exact p1 j h_
    · obtain rfl : j = i := by omega
      exact h8
 have qh5 := h5
 try simp only [decide_eq_true_eq, decide_eq_false_iff_not] at qh5
 refine WC.exit (hK2 _ _ (WC.r1 hs3 [] rfl (WC.ret (rtv rfl rfl hs3 ?_))))
 rw [findI_none (F := encI) (fun j hj => p1 j (by rw [f_s.len] at hj; omega))]
theorem k157_ (u_0 u_1 u_2 u_3 : Value) (b_p b_s : Nat) (s : ScrR) (m : Int) (w : World) (hp : w.heap[b_p]? = some (Obj.cells (List.toArray [.pointer (some ⟨b_s, 4, none⟩)]) 79 (0, 0))) (hq : w.heap[b_s]? = some (Obj.cells (List.toArray (u_0 :: u_1 :: u_2 :: u_3 :: (cScr s))) 36 (0, 0))) (hne : b_p ≠ b_s) :
    Calls Tryz.prog 78 #[i64 m, .pointer (some ⟨b_p, 0, none⟩)] w fun e w' => e = .returned (.bool (decide (s.X < m))) ∧ St w [] [] w' := by
 refine enter 10 Tryz.func78 rfl Tryz.ntmps78 rfl rfl ?_
 have hs1 := St.take w [(b_p, Obj.cells (List.toArray [.pointer (some ⟨b_s, 4, none⟩)]) 79 (0, 0)), (b_s, Obj.cells (List.toArray (u_0 :: u_1 :: u_2 :: u_3 :: (cScr s))) 36 (0, 0))] (fun p hp_ => by rcases List.mem_cons.1 hp_ with rfl | hp_; exact hp; obtain rfl := List.mem_singleton.1 hp_; exact hq) (by simp [hne])
 refine WC.r1 hs1 [] rfl (WC.r1 hs1 [0, 1] rfl (WC.ret (retV1 rfl (resV.tmp rfl) (⟨rfl, St.untouch hs1 (fun k hk => ?_) (fun p hp_ => ?_)⟩))))
 · rcases List.mem_cons.1 hk with rfl | hk
   · exact ⟨_, List.mem_cons_self⟩
   · obtain rfl := List.mem_singleton.1 hk
     exact ⟨_, List.mem_cons_of_mem _ List.mem_cons_self⟩
 · rcases List.mem_cons.1 hp_ with rfl | hp_
   · exact hp
   · obtain rfl := List.mem_singleton.1 hp_
     exact hq
theorem k158_ (u_0 u_1 u_2 u_3 : Value) (b_s : Nat) (s : ScrR) (L_s : Hp) (b : Int) (w : World) (hb_s : w.heap[b_s]? = some (Obj.cells (List.toArray (u_0 :: u_1 :: u_2 :: u_3 :: (cScr s))) 36 (0, 0))) (o_s : ownScrR s L_s) (h_s : Hh w L_s) (hd_ : (b_s :: L_s.map (·.1)).Nodup) (hf : ScrFine s.dat) (hsm : smScr 1048576 s.dat) :
    Calls Tryz.prog 39 #[.pointer (some ⟨b_s, 4, none⟩), i64 b] w fun e w' => ∃ r L1, e = .returned (.tuple #[]) ∧ St w (b_s :: L_s.map (·.1)) ([(b_s, Obj.cells (List.toArray (u_0 :: u_1 :: u_2 :: u_3 :: (cScr r))) 36 (0, 0))] ++ L1) w' ∧ ownScrR r L1 ∧ r.dat = ctlD s.dat b := by
 have hsmB : smScr 549755813888 s.dat := by first | assumption | exact smScr_mono hsm (by decide)
 have hok9 := hf.ok
 obtain ⟨hb1, hb2, hb3, hb4, hb5, hb6⟩ := scrOk_bnd hok9
 obtain ⟨hm, hma⟩ := scrOk_main hok9
 simp only [ScrR.dat, GridR.dat, List.length_map] at hb1 hb2 hb3 hb4 hb5 hb6
 have hwh : (1 ≤ s.W ∧ s.W ≤ 120) ∧ 1 ≤ s.H ∧ s.H ≤ 120 := ⟨(isSize_bnd hf.size).1, (isSize_bnd hf.size).2.1⟩
 have hxy := hf.pos
 simp only [ScrR.dat, GridR.dat] at hxy
 obtain ⟨_, _, hTl, _⟩ := ownScrR.len o_s
 have hTs : s.Tabs.xs.length ≤ 1048576 := hsm.2.2.1
 refine enter 63 Tryz.func39 rfl Tryz.ntmps39 rfl rfl ?_
 have hs1 := St.takeP w b_s _ L_s hb_s h_s hd_
 refine WC.sr (WL.bx hs1 rfl (fun b2 _ hs3 => WL.nil (WC.r1 hs3 [] rfl (WC.block (WC.r1 hs3 [] rfl ?_)))))
 refine WC.cq rfl (fun h4 qh4 => ?_) (fun h4 qh4 => ?_)
 ·have e8 : b = 8 := by have h9 := h4; simpa using h9
  refine WC.rG 10 ((hs3.fb b_s).d1.rm L_s) hs3 hs3 (fun _ hs5 => ?_)
  refine WG.rn [0, 1, 2, 3, 4, 5, 6, 7, 8, 9] hs5 [0, 0, 1, 0, 1] rfl rfl (WG.oK rfl ?_)
  have hF6 := ((hs5.fr L_s).fb b_s)
  refine WL.cl Tryz.call76 rfl (k141_ _ _ _ _ _ s _ _ _ _ (St.headP hF6) o_s (St.ownP hF6) (St.nodupP hF6) ?_) ?_
  · first | assumption | rfl | omega
  rintro _ whs7 ⟨r8, L9, rfl, hs7, ho10, hd11⟩
  replace hs7 := St.lendP hF6 hs7
  refine ⟨_, rfl, ?_⟩
  have hs12 := ((hs7.fb b2).fb b_s)
  refine WL.nil ⟨(hs12.d1.rm L9), WH.dn (ibN (retK0 rfl (⟨r8, _, rfl, St.keepP (L1 := L9) ((hs12.fr L9).fb b_s), ho10, ?_⟩)))⟩
  · unfold ctlD; rw [if_pos e8]; exact hd11
 have e8 : ¬ b = 8 := by have h9 := h4; simpa using h9
 refine WC.r1 hs3 [] rfl (WC.cq rfl (fun h13 qh13 => ?_) (fun h13 qh13 => ?_))
 ·have e9 : b = 9 := by have h9 := h13; simpa using h9
  refine WC.r1 hs3 [0, 1] rfl (WC.seq (fun K14 hK14 => WC.sr (WL.r 4 hs3 [0, 1] rfl (WL.val rfl rfl rfl (Run.makeFunc rfl rfl) ?_))))
  refine WL.cl Tryz.call77 rfl (k156_ _ _ _ _ _ _ _ (ownScrR.ok (B := 549755813888) o_s (hs3.ow L_s) (by assumption)).Tabs (fun w_ hx_ m_ => k157_ _ _ _ _ b2 b_s s m_ w_ ((hx_.keep _ (lt_of_heap (hs3.own _ (nthL_mem (i := 0) rfl)).1) (by simp)).trans (hs3.own _ (nthL_mem (i := 0) rfl)).1) ((hx_.keep _ (lt_of_heap (hs3.own _ (nthL_mem (i := 1) rfl)).1) (by simp)).trans (hs3.own _ (nthL_mem (i := 1) rfl)).1) (St.neq hs3 (i := 0) (j := 1) rfl rfl (by decide))) ?_) ?_
  · first | assumption | rfl | omega
  rintro _ whs15 ⟨rfl, hs15⟩
  replace hs15 := hs3.call0 hs15
  refine ⟨_, rfl, WL.r 1 hs15 [] rfl (WL.nil (WC.r1 hs15 [] rfl (WC.cq rfl (fun h16 qh16 => ?_) (fun h16 qh16 => ?_))))⟩
  ·have hk0 : 0 ≤ findI (fun n => decide (s.X < n)) s.Tabs.xs := by have h9 := h16; simpa using h9
   have hkn := findI_bnd (p := fun n => decide (s.X < n)) (s := s.Tabs.xs) (by omega)
   have hnt : nextTab s.dat = iat s.Tabs.xs (findI (fun n => decide (s.X < n)) s.Tabs.xs).toNat := by unfold nextTab; exact if_pos hk0
   refine WC.region (WL.r 5 hs15 [0, 1] rfl (WL.val rfl rfl rfl (Run.idxK ((findI (fun n => decide (s.X < n)) s.Tabs.xs).toNat) Tryz.runUnderlying26 Tryz.sizeOf3 rfl rfl rfl ?_ ?_ ?_) ?_))
   · exact SlF.some_ (ownScrR.ok (B := 549755813888) o_s (hs15.ow L_s) (by assumption)).Tabs
   · omega
   · omega
   refine WL.val rfl rfl rfl (Run.load Tryz.isAgg3 rfl rfl (SlF.one1 (ownScrR.ok (B := 549755813888) o_s (hs15.ow L_s) (by assumption)).Tabs ?_ rfl)) ?_
   · omega
   refine WL.r 1 hs15 [] rfl (WL.nil (hK14 _ _ (WC.rG 6 ((hs15.fb b_s).d1.rm L_s) hs15 hs15 (fun _ hs17 => ?_))))
   refine WG.rn [0, 1, 2, 3, 4, 5] hs17 [0, 0, 1] rfl rfl (WG.oK rfl ?_)
   have hF18 := ((hs17.fr L_s).fb b_s)
   refine WL.cl Tryz.call76 rfl (k141_ _ _ _ _ _ s _ _ _ _ (St.headP hF18) o_s (St.ownP hF18) (St.nodupP hF18) ?_) ?_
   · first | assumption | rfl | omega
   rintro _ whs19 ⟨r20, L21, rfl, hs19, ho22, hd23⟩
   replace hs19 := St.lendP hF18 hs19
   refine ⟨_, rfl, ?_⟩
   have hs24 := ((hs19.fb b2).fb b_s)
   refine WL.nil ⟨(hs24.d1.rm L21), WH.dn (ibN (retK0 rfl (⟨r20, _, rfl, St.keepP (L1 := L21) ((hs24.fr L21).fb b_s), ho22, ?_⟩)))⟩
   · unfold ctlD; rw [if_neg e8, if_pos e9]; rw [hnt]; exact hd23
  have hnt : nextTab s.dat = s.W - 1 := by unfold nextTab; exact if_neg (show ¬ 0 ≤ findI (fun n => decide (s.X < n)) s.Tabs.xs by have h9 := h16; simp at h9; omega)
  refine WC.skip (hK14 _ _ (WC.rG 6 ((hs15.fb b_s).d1.rm L_s) hs15 hs15 (fun _ hs25 => ?_)))
  refine WG.rn [0, 1, 2, 3, 4, 5] hs25 [0, 0, 1] rfl rfl (WG.oK rfl ?_)
  have hF26 := ((hs25.fr L_s).fb b_s)
  refine WL.cl Tryz.call76 rfl (k141_ _ _ _ _ _ s _ _ _ _ (St.headP hF26) o_s (St.ownP hF26) (St.nodupP hF26) ?_) ?_
  · first | assumption | rfl | omega
  rintro _ whs27 ⟨r28, L29, rfl, hs27, ho30, hd31⟩
  replace hs27 := St.lendP hF26 hs27
  refine ⟨_, rfl, ?_⟩
  have hs32 := ((hs27.fb b2).fb b_s)
  refine WL.nil ⟨(hs32.d1.rm L29), WH.dn (ibN (retK0 rfl (⟨r28, _, rfl, St.keepP (L1 := L29) ((hs32.fr L29).fb b_s), ho30, ?_⟩)))⟩
  · unfold ctlD; rw [if_neg e8, if_pos e9]; rw [hnt]; exact hd31
 have e9 : ¬ b = 9 := by have h9 := h13; simpa using h9
 refine WC.seq (fun K33 hK33 => WC.r1 hs3 [] rfl ?_)
 refine WC.cq rfl (fun h34 qh34 => ?_) (fun h34 qh34 => ?_)
 ·have e10 : b = 10 := by have h9 := h34; simpa using h9
  refine WC.skip (hK33 _ _ (WC.condT rfl h34 (WC.region (WL.r 1 hs3 [0] rfl ?_))))
  have hF36 := ((hs3.fr L_s).fb b_s)
  refine WL.cl Tryz.call73 rfl (k136_ _ _ _ _ _ s _ _ (St.headP hF36) o_s (St.ownP hF36) (St.nodupP hF36) ?_ ?_) ?_
  iterate 2 first | assumption | rfl | omega
  rintro _ whs37 ⟨r38, L39, rfl, hs37, ho40, hd41⟩
  replace hs37 := St.lendP hF36 hs37
  refine ⟨_, rfl, ?_⟩
  have hs42 := ((hs37.fb b2).fb b_s)
  refine WL.nil (ibN (retK0 rfl (⟨r38, _, rfl, St.keepP (L1 := L39) ((hs42.fr L39).fb b_s), ho40, ?_⟩)))
  · unfold ctlD; rw [if_neg e8, if_neg e9, if_pos (show b = 10 ∨ b = 11 ∨ b = 12 by omega)]; exact hd41
 have e10 : ¬ b = 10 := by have h9 := h34; simpa using h9
 refine WC.r1 hs3 [] rfl (WC.cq rfl (fun h43 qh43 => ?_) (fun h43 qh43 => ?_))
 ·have e11 : b = 11 := by have h9 := h43; simpa using h9
  refine WC.skip (hK33 _ _ (WC.condT rfl h43 (WC.region (WL.r 1 hs3 [0] rfl ?_))))
  have hF45 := ((hs3.fr L_s).fb b_s)
  refine WL.cl Tryz.call73 rfl (k136_ _ _ _ _ _ s _ _ (St.headP hF45) o_s (St.ownP hF45) (St.nodupP hF45) ?_ ?_) ?_
  iterate 2 first | assumption | rfl | omega
  rintro _ whs46 ⟨r47, L48, rfl, hs46, ho49, hd50⟩
  replace hs46 := St.lendP hF45 hs46
  refine ⟨_, rfl, ?_⟩
  have hs51 := ((hs46.fb b2).fb b_s)
  refine WL.nil (ibN (retK0 rfl (⟨r47, _, rfl, St.keepP (L1 := L48) ((hs51.fr L48).fb b_s), ho49, ?_⟩)))
  · unfold ctlD; rw [if_neg e8, if_neg e9, if_pos (show b = 10 ∨ b = 11 ∨ b = 12 by omega)]; exact hd50
 have e11 : ¬ b = 11 := by have h9 := h43; simpa using h9
 refine WC.region (WL.r 2 hs3 [] rfl (WL.nil (hK33 _ _ ?_)))
 refine WC.cq rfl (fun h52 qh52 => ?_) (fun h52 qh52 => ?_)
 ·have e12 : b = 12 := by have h9 := h52; simpa using h9
  refine WC.region (WL.r 1 hs3 [0] rfl ?_)
  have hF53 := ((hs3.fr L_s).fb b_s)
  refine WL.cl Tryz.call73 rfl (k136_ _ _ _ _ _ s _ _ (St.headP hF53) o_s (St.ownP hF53) (St.nodupP hF53) ?_ ?_) ?_
  iterate 2 first | assumption | rfl | omega
  rintro _ whs54 ⟨r55, L56, rfl, hs54, ho57, hd58⟩
  replace hs54 := St.lendP hF53 hs54
  refine ⟨_, rfl, ?_⟩
  have hs59 := ((hs54.fb b2).fb b_s)
  refine WL.nil (ibN (retK0 rfl (⟨r55, _, rfl, St.keepP (L1 := L56) ((hs59.fr L56).fb b_s), ho57, ?_⟩)))
  · unfold ctlD; rw [if_neg e8, if_neg e9, if_pos (show b = 10 ∨ b = 11 ∨ b = 12 by omega)]; exact hd58
 have e12 : ¬ b = 12 := by have h9 := h52; simpa using h9
 refine WC.r1 hs3 [] rfl (WC.cq rfl (fun h60 qh60 => ?_) (fun h60 qh60 => ?_))
 ·have e13 : b = 13 := by have h9 := h60; simpa using h9
  refine WC.rG 5 ((hs3.fb b_s).d1.rm L_s) hs3 hs3 (fun _ hs61 => ?_)
  refine WG.rn [0, 1, 2, 3, 4] hs61 [0, 0, 1] rfl rfl (WG.oK rfl ?_)
  have hF62 := ((hs61.fr L_s).fb b_s)
  refine WL.cl Tryz.call76 rfl (k141_ _ _ _ _ _ s _ _ _ _ (St.headP hF62) o_s (St.ownP hF62) (St.nodupP hF62) ?_) ?_
  · first | assumption | rfl | omega
  rintro _ whs63 ⟨r64, L65, rfl, hs63, ho66, hd67⟩
  replace hs63 := St.lendP hF62 hs63
  refine ⟨_, rfl, ?_⟩
  have hs68 := ((hs63.fb b2).fb b_s)
  refine WL.nil ⟨(hs68.d1.rm L65), WH.dn (ibN (retK0 rfl (⟨r64, _, rfl, St.keepP (L1 := L65) ((hs68.fr L65).fb b_s), ho66, ?_⟩)))⟩
  · unfold ctlD; rw [if_neg e8, if_neg e9, if_neg (show ¬ (b = 10 ∨ b = 11 ∨ b = 12) by omega), if_pos e13]; exact hd67
 have e13 : ¬ b = 13 := by have h9 := h60; simpa using h9
 refine WC.skip (ibN (retK0 rfl (⟨s, _, rfl, St.keepP (L1 := L_s) ((hs3.fr L_s).fb b_s), o_s, ?_⟩)))
 · unfold ctlD; rw [if_neg e8, if_neg e9, if_neg (show ¬ (b = 10 ∨ b = 11 ∨ b = 12) by omega), if_neg e13]
theorem k159_ (u_0 u_1 u_2 u_3 : Value) (b_s : Nat) (s : ScrR) (L_s : Hp) (a : ActR) (w : World) (hb_s : w.heap[b_s]? = some (Obj.cells (List.toArray (u_0 :: u_1 :: u_2 :: u_3 :: (cScr s))) 36 (0, 0))) (o_s : ownScrR s L_s) (h_s : Hh w L_s) (f_a : SlF encI w a.Args.A a.Args.n a.Args.xs) (s_a : 0 < a.Args.n → (adr a.Args.A).block ∉ (b_s :: L_s.map (·.1))) (hd_ : (b_s :: L_s.map (·.1)).Nodup) (hf : ScrFine s.dat) (hsm : smScr 1048576 s.dat) (ha : areArgs a.dat.Args = true) (han : a.Args.n ≤ 549755813888) :
    Calls Tryz.prog 21 #[.pointer (some ⟨b_s, 4, none⟩), .agg #[i64 a.Kind, i64 a.R, .bool a.Mark, .slice a.Args.A a.Args.n a.Args.c]] w fun e w' => ∃ r L1, e = .returned (.tuple #[]) ∧ St w (b_s :: L_s.map (·.1)) ([(b_s, Obj.cells (List.toArray (u_0 :: u_1 :: u_2 :: u_3 :: (cScr r))) 36 (0, 0))] ++ L1) w' ∧ ownScrR r L1 ∧ r.dat = doAct s.dat a.dat := by
 have hsmB : smScr 549755813888 s.dat := by first | assumption | exact smScr_mono hsm (by decide)
 refine enter 37 Tryz.func21 rfl Tryz.ntmps21 rfl rfl ?_
 have hs1 := St.takeP w b_s _ L_s hb_s h_s hd_
 refine WC.sr (WL.bx hs1 rfl (fun b2 _ hs3 => WL.nil (WC.r1 hs3 [0] rfl (WC.block (WC.r1 hs3 [] rfl ?_)))))
 refine WC.cq rfl (fun h4 qh4 => ?_) (fun h4 qh4 => ?_)
 ·have e1 : a.Kind = 1 := by have h9 := h4; simpa using h9
  refine WC.sr (WL.r 2 hs3 [0] rfl (WL.cl Tryz.call37 rfl (k2_ _ _) ?_))
  rintro _ whs5 ⟨rfl, hs5⟩
  replace hs5 := hs3.call0 hs5
  refine ⟨_, rfl, WL.nil (WC.cq rfl (fun h6 qh6 => ?_) (fun h6 qh6 => ?_))⟩
  ·have hsh : shows a.dat.R = true := h6
   refine WC.region (WL.r 3 hs5 [0] rfl ?_)
   have hF7 := ((hs5.fr L_s).fb b_s)
   refine WL.cl Tryz.call38 rfl (k155_ _ _ _ _ _ s _ _ _ (St.headP hF7) o_s (St.ownP hF7) (St.nodupP hF7) ?_ ?_) ?_
   iterate 2 first | assumption | rfl | omega
   rintro _ whs8 ⟨r9, L10, rfl, hs8, ho11, hd12⟩
   replace hs8 := St.lendP hF7 hs8
   refine ⟨_, rfl, ?_⟩
   have hs13 := ((hs8.fb b2).fb b_s)
   refine WL.nil (ibN (retK0 rfl (⟨r9, _, rfl, St.keepP (L1 := L10) ((hs13.fr L10).fb b_s), ho11, ?_⟩)))
   · unfold doAct; rw [if_pos (show a.dat.Kind = 1 from e1), if_pos hsh]; exact hd12
  have hsh : ¬ shows a.dat.R = true := by show ¬ shows a.R = true; have h9 := h6; rw [h9]; decide
  refine WC.skip (ibN (retK0 rfl (⟨s, _, rfl, St.keepP (L1 := L_s) ((hs5.fr L_s).fb b_s), o_s, ?_⟩)))
  · unfold doAct; rw [if_pos (show a.dat.Kind = 1 from e1), if_neg hsh]
 have e1 : ¬ a.Kind = 1 := by have h9 := h4; simpa using h9
 refine WC.r1 hs3 [] rfl (WC.cq rfl (fun h14 qh14 => ?_) (fun h14 qh14 => ?_))
 ·have e2 : a.Kind = 2 := by have h9 := h14; simpa using h9
  refine WC.region (WL.r 3 hs3 [0] rfl ?_)
  have hF15 := ((hs3.fr L_s).fb b_s)
  refine WL.cl Tryz.call39 rfl (k158_ _ _ _ _ _ s _ _ _ (St.headP hF15) o_s (St.ownP hF15) (St.nodupP hF15) ?_ ?_) ?_
  iterate 2 first | assumption | rfl | omega
  rintro _ whs16 ⟨r17, L18, rfl, hs16, ho19, hd20⟩
  replace hs16 := St.lendP hF15 hs16
  refine ⟨_, rfl, ?_⟩
  have hs21 := ((hs16.fb b2).fb b_s)
  refine WL.nil (ibN (retK0 rfl (⟨r17, _, rfl, St.keepP (L1 := L18) ((hs21.fr L18).fb b_s), ho19, ?_⟩)))
  · unfold doAct; rw [if_neg (show ¬ a.dat.Kind = 1 from e1), if_pos (show a.dat.Kind = 2 from e2)]; exact hd20
 have e2 : ¬ a.Kind = 2 := by have h9 := h14; simpa using h9
 refine WC.r1 hs3 [] rfl (WC.cq rfl (fun h22 qh22 => ?_) (fun h22 qh22 => ?_))
 ·have e3 : a.Kind = 3 := by have h9 := h22; simpa using h9
  refine WC.region (WL.r 3 hs3 [0] rfl ?_)
  have hF23 := ((hs3.fr L_s).fb b_s)
  refine WL.cl Tryz.call40 rfl (k140_ _ _ _ _ _ s _ _ _ (St.headP hF23) o_s (St.ownP hF23) (St.nodupP hF23) ?_ ?_) ?_
  iterate 2 first | assumption | rfl | omega
  rintro _ whs24 ⟨r25, L26, rfl, hs24, ho27, hd28⟩
  replace hs24 := St.lendP hF23 hs24
  refine ⟨_, rfl, ?_⟩
  have hs29 := ((hs24.fb b2).fb b_s)
  refine WL.nil (ibN (retK0 rfl (⟨r25, _, rfl, St.keepP (L1 := L26) ((hs29.fr L26).fb b_s), ho27, ?_⟩)))
  · unfold doAct; rw [if_neg (show ¬ a.dat.Kind = 1 from e1), if_neg (show ¬ a.dat.Kind = 2 from e2), if_pos (show a.dat.Kind = 3 from e3)]; exact hd28
 have e3 : ¬ a.Kind = 3 := by have h9 := h22; simpa using h9
 refine WC.r1 hs3 [] rfl (WC.cq rfl (fun h30 qh30 => ?_) (fun h30 qh30 => ?_))
 ·have e4 : a.Kind = 4 := by have h9 := h30; simpa using h9
  refine WC.region (WL.r 7 hs3 [0, 0, 0] rfl ?_)
  have hF31 := ((hs3.fr L_s).fb b_s)
  refine WL.cl Tryz.call41 rfl (k152_ _ _ _ _ _ s _ _ _ _ _ _ _ _ (St.headP hF31) o_s (St.ownP hF31) (SlF.st f_a hs3 s_a) (St.nodupP hF31) (St.sepTP hF31 f_a s_a) ?_ ?_ ?_ ?_) ?_
  iterate 4 first | assumption | omega
  rintro _ whs32 ⟨r33, L34, rfl, hs32, ho35, hd36⟩
  replace hs32 := St.lendP hF31 hs32
  refine ⟨_, rfl, ?_⟩
  have hs37 := ((hs32.fb b2).fb b_s)
  refine WL.nil (ibN (retK0 rfl (⟨r33, _, rfl, St.keepP (L1 := L34) ((hs37.fr L34).fb b_s), ho35, ?_⟩)))
  · unfold doAct; rw [if_neg (show ¬ a.dat.Kind = 1 from e1), if_neg (show ¬ a.dat.Kind = 2 from e2), if_neg (show ¬ a.dat.Kind = 3 from e3), if_pos (show a.dat.Kind = 4 from e4)]; exact hd36
 have e4 : ¬ a.Kind = 4 := by have h9 := h30; simpa using h9
 refine WC.skip (ibN (retK0 rfl (⟨s, _, rfl, St.keepP (L1 := L_s) ((hs3.fr L_s).fb b_s), o_s, ?_⟩)))
 · unfold doAct; rw [if_neg (show ¬ a.dat.Kind = 1 from e1), if_neg (show ¬ a.dat.Kind = 2 from e2), if_neg (show ¬ a.dat.Kind = 3 from e3), if_neg (show ¬ a.dat.Kind = 4 from e4)]
theorem built_36_0_1 (x0 : Value) (x1 : Value) (x2 : Value) (x3 : Value) (x4 : Value) (x5 : Value) (x6 : Value) (x7 : Value) (x8 : Value) (x9 : Value) (x10 : Value) (x11 : Value) (x12 : Value) (x13 : Value) (x14 : Value) (x15 : Value) (x16 : Value) (x17 : Value) (x18 : Value) (x19 : Value) (x20 : Value) (x21 : Value) (x22 : Value) (x23 : Value) (x24 : Value) (x25 : Value) (x26 : Value) (x27 : Value) (x28 : Value) (x29 : Value) (x30 : Value) (x31 : Value) (x32 : Value) (x33 : Value) (x34 : Value) : Tryz.prog.built 36 [(0, .agg [x0, x1, x2, x3].toArray), (1, .agg [x4, x5, x6, x7, x8, x9, x10, x11, x12, x13, x14, x15, x16, x17, x18, x19, x20, x21, x22, x23, x24, x25, x26, x27, x28, x29, x30, x31, x32, x33, x34].toArray)] = some (List.toArray [x0, x1, x2, x3, x4, x5, x6, x7, x8, x9, x10, x11, x12, x13, x14, x15, x16, x17, x18, x19, x20, x21, x22, x23, x24, x25, x26, x27, x28, x29, x30, x31, x32, x33, x34]) := by kernel_rfl
theorem k160_ (t : TermR) (w : World) (f_t : okTermR 549755813888 w t) (hsm : smTerm 1048576 t.dat) :
    Calls Tryz.prog 19 #[.agg #[i64 t.P.State, .bool t.P.Mark, .slice t.P.Args.A t.P.Args.n t.P.Args.c, .slice t.P.Part.A t.P.Part.n t.P.Part.c, i64 t.S.W, i64 t.S.H, i64 t.S.Main.W, i64 t.S.Main.H, .slice t.S.Main.Cells.A t.S.Main.Cells.n t.S.Main.Cells.c, i64 t.S.Alt.W, i64 t.S.Alt.H, .slice t.S.Alt.Cells.A t.S.Alt.Cells.n t.S.Alt.Cells.c, .bool t.S.OnAlt, i64 t.S.X, i64 t.S.Y, .bool t.S.Wrap, i64 t.S.A.Fg, i64 t.S.A.Bg, .bool t.S.A.Bold, .bool t.S.A.Under, .bool t.S.A.Turn, i64 t.S.Top, i64 t.S.Bot, .bool t.S.NoWrap, .bool t.S.Hide, i64 t.S.SaveX, i64 t.S.SaveY, i64 t.S.SaveA.Fg, i64 t.S.SaveA.Bg, .bool t.S.SaveA.Bold, .bool t.S.SaveA.Under, .bool t.S.SaveA.Turn, .slice t.S.Tabs.A t.S.Tabs.n t.S.Tabs.c, i64 t.S.Limit, .slice t.S.Back.A t.S.Back.n t.S.Back.c]] w fun e w' => ∃ r L1, e = .returned (.agg #[i64 r.P.State, .bool r.P.Mark, .slice r.P.Args.A r.P.Args.n r.P.Args.c, .slice r.P.Part.A r.P.Part.n r.P.Part.c, i64 r.S.W, i64 r.S.H, i64 r.S.Main.W, i64 r.S.Main.H, .slice r.S.Main.Cells.A r.S.Main.Cells.n r.S.Main.Cells.c, i64 r.S.Alt.W, i64 r.S.Alt.H, .slice r.S.Alt.Cells.A r.S.Alt.Cells.n r.S.Alt.Cells.c, .bool r.S.OnAlt, i64 r.S.X, i64 r.S.Y, .bool r.S.Wrap, i64 r.S.A.Fg, i64 r.S.A.Bg, .bool r.S.A.Bold, .bool r.S.A.Under, .bool r.S.A.Turn, i64 r.S.Top, i64 r.S.Bot, .bool r.S.NoWrap, .bool r.S.Hide, i64 r.S.SaveX, i64 r.S.SaveY, i64 r.S.SaveA.Fg, i64 r.S.SaveA.Bg, .bool r.S.SaveA.Bold, .bool r.S.SaveA.Under, .bool r.S.SaveA.Turn, .slice r.S.Tabs.A r.S.Tabs.n r.S.Tabs.c, i64 r.S.Limit, .slice r.S.Back.A r.S.Back.n r.S.Back.c]) ∧ St w [] L1 w' ∧ ownTermR r L1 ∧ r.dat = t.dat := by
 have nb_t_P_Args := f_t.P.Args_n
 have nl_t_P_Args := f_t.P.Args.len
 have nb_t_P_Part := f_t.P.Part_n
 have nl_t_P_Part := f_t.P.Part.len
 have nb_t_S_Main_Cells := f_t.S.Main.Cells_n
 have nl_t_S_Main_Cells := f_t.S.Main.Cells.len
 have nb_t_S_Alt_Cells := f_t.S.Alt.Cells_n
 have nl_t_S_Alt_Cells := f_t.S.Alt.Cells.len
 have nb_t_S_Tabs := f_t.S.Tabs_n
 have nl_t_S_Tabs := f_t.S.Tabs.len
 have nb_t_S_Back := f_t.S.Back_n
 have nl_t_S_Back := f_t.S.Back.sl.len
 refine enter 10 Tryz.func19 rfl Tryz.ntmps19 rfl rfl ?_
 have hs1 := St.init w
 refine WC.sr (WL.bx hs1 rfl (fun b2 _ hs3 => WL.al hs3 Tryz.zeroValue36 rfl rfl (fun b4 _ hs5 => WL.nil (WC.seq (fun K6 hK6 => WC.rH hs5.d1 hs5 (fun _ hs7 => ?_))))))
 refine WH.rn [0, 1, 3, 4] hs7.d1 [0, 0] rfl rfl (WH.o1 2 rfl (WL.cl Tryz.call34 rfl (k114_ t.P _ (okVpR.st0 f_t.P hs7) ?_) ?_))
 · first | assumption | rfl | omega | exact hsm.1 | exact hsm.2
 rintro _ whs8 ⟨r9, L1_10, rfl, hs8, ho11, hd12⟩
 replace hs8 := hs7.callF hs8
 refine ⟨_, rfl, ?_⟩
 replace hs8 := St.back [_, _] hs8
 have hvp := hd12
 refine WL.nil ⟨(hs8.d1.rm L1_10), WH.o1 5 rfl (WL.cl Tryz.call35 rfl (k46_ t.S _ (okScrR.st0 f_t.S hs8) ?_) ?_)⟩
 · first | assumption | rfl | omega | exact hsm.1 | exact hsm.2
 rintro _ whs13 ⟨r14, L1_15, rfl, hs13, ho16, hd17⟩
 replace hs13 := hs8.callF hs13
 refine ⟨_, rfl, ?_⟩
 replace hs13 := St.back [_, _] hs13
 have hsp := hd17
 refine WL.nil ⟨((hs13.d1.rm L1_15).rm L1_10), ?_⟩
 refine WH.take 6 rfl (by kernel_rfl) rfl rfl rfl ((hs13.d1.rm L1_15).rm L1_10) (fun w_ hs_ => (Run.build rfl rfl rfl rfl (built_36_0_1 _ _ _ _ _ _ _ _ _ _ _ _ _ _ _ _ _ _ _ _ _ _ _ _ _ _ _ _ _ _ _ _ _ _ _))) ?_
 refine WH.o1 7 rfl (WL.st tbk hs13 0 rfl rfl (fun _ hs18 => WL.nil ⟨((hs18.d1.rm L1_15).rm L1_10), WH.dn (hK6 _ _ (WC.ret (retV1 rfl (resV.cellA tbk hs18 0 rfl rfl rfl rfl) ?_)))⟩))
 obtain ⟨L19, L20, hs23, ho21, ho22⟩ := ownVpR.op hs18 ho11
 have hs24 := ((hs23.fb b2).fb b4)
 obtain ⟨L25, L26, L27, L28, hs33, ho29, ho30, ho31, ho32⟩ := ownScrR.op hs24 ho16
 have hs34 := ((hs33.fb b2).fb b4)
 obtain ⟨L36, hs35, ho37⟩ := ownTermR.fl hs34 ho21 ho22 ho29 ho30 ho31 ho32
 have hs38 := ((hs35.fb b2).fb b4)
 refine ownTermR.ret rfl (St.keep1 (hs38.fr L36)) ho37 ?_
 · exact TermD.ext' hvp hsp
theorem built_36 : Tryz.prog.built 36 [] = some (List.toArray [.int .i64 0, .bool false, .slice none 0 0, .slice none 0 0, .int .i64 0, .int .i64 0, .int .i64 0, .int .i64 0, .slice none 0 0, .int .i64 0, .int .i64 0, .slice none 0 0, .bool false, .int .i64 0, .int .i64 0, .bool false, .int .i64 0, .int .i64 0, .bool false, .bool false, .bool false, .int .i64 0, .int .i64 0, .bool false, .bool false, .int .i64 0, .int .i64 0, .int .i64 0, .int .i64 0, .bool false, .bool false, .bool false, .slice none 0 0, .int .i64 0, .slice none 0 0]) := by kernel_rfl
theorem k161_ (t : TermR) (A_b : Option Addr) (n_b c_b : Nat) (b : List UInt8) (w : World) (f_t : okTermR 549755813888 w t) (f_b : SlF encB w A_b n_b b) (hsm : smTerm 1048576 t.dat) (hn : n_b ≤ 1048576) :
    Calls Tryz.prog 6 #[.agg #[i64 t.P.State, .bool t.P.Mark, .slice t.P.Args.A t.P.Args.n t.P.Args.c, .slice t.P.Part.A t.P.Part.n t.P.Part.c, i64 t.S.W, i64 t.S.H, i64 t.S.Main.W, i64 t.S.Main.H, .slice t.S.Main.Cells.A t.S.Main.Cells.n t.S.Main.Cells.c, i64 t.S.Alt.W, i64 t.S.Alt.H, .slice t.S.Alt.Cells.A t.S.Alt.Cells.n t.S.Alt.Cells.c, .bool t.S.OnAlt, i64 t.S.X, i64 t.S.Y, .bool t.S.Wrap, i64 t.S.A.Fg, i64 t.S.A.Bg, .bool t.S.A.Bold, .bool t.S.A.Under, .bool t.S.A.Turn, i64 t.S.Top, i64 t.S.Bot, .bool t.S.NoWrap, .bool t.S.Hide, i64 t.S.SaveX, i64 t.S.SaveY, i64 t.S.SaveA.Fg, i64 t.S.SaveA.Bg, .bool t.S.SaveA.Bold, .bool t.S.SaveA.Under, .bool t.S.SaveA.Turn, .slice t.S.Tabs.A t.S.Tabs.n t.S.Tabs.c, i64 t.S.Limit, .slice t.S.Back.A t.S.Back.n t.S.Back.c], .slice A_b n_b c_b] w fun e w' => ∃ r L1, e = .returned (.agg #[i64 r.P.State, .bool r.P.Mark, .slice r.P.Args.A r.P.Args.n r.P.Args.c, .slice r.P.Part.A r.P.Part.n r.P.Part.c, i64 r.S.W, i64 r.S.H, i64 r.S.Main.W, i64 r.S.Main.H, .slice r.S.Main.Cells.A r.S.Main.Cells.n r.S.Main.Cells.c, i64 r.S.Alt.W, i64 r.S.Alt.H, .slice r.S.Alt.Cells.A r.S.Alt.Cells.n r.S.Alt.Cells.c, .bool r.S.OnAlt, i64 r.S.X, i64 r.S.Y, .bool r.S.Wrap, i64 r.S.A.Fg, i64 r.S.A.Bg, .bool r.S.A.Bold, .bool r.S.A.Under, .bool r.S.A.Turn, i64 r.S.Top, i64 r.S.Bot, .bool r.S.NoWrap, .bool r.S.Hide, i64 r.S.SaveX, i64 r.S.SaveY, i64 r.S.SaveA.Fg, i64 r.S.SaveA.Bg, .bool r.S.SaveA.Bold, .bool r.S.SaveA.Under, .bool r.S.SaveA.Turn, .slice r.S.Tabs.A r.S.Tabs.n r.S.Tabs.c, i64 r.S.Limit, .slice r.S.Back.A r.S.Back.n r.S.Back.c]) ∧ St w [] L1 w' ∧ ownTermR r L1 ∧ r.dat = termFeedRes t.dat b := by
 have nb_t_P_Args := f_t.P.Args_n
 have nl_t_P_Args := f_t.P.Args.len
 have nb_t_P_Part := f_t.P.Part_n
 have nl_t_P_Part := f_t.P.Part.len
 have nb_t_S_Main_Cells := f_t.S.Main.Cells_n
 have nl_t_S_Main_Cells := f_t.S.Main.Cells.len
 have nb_t_S_Alt_Cells := f_t.S.Alt.Cells_n
 have nl_t_S_Alt_Cells := f_t.S.Alt.Cells.len
 have nb_t_S_Tabs := f_t.S.Tabs_n
 have nl_t_S_Tabs := f_t.S.Tabs.len
 have nb_t_S_Back := f_t.S.Back_n
 have nl_t_S_Back := f_t.S.Back.sl.len
 have hsmB : smTerm 549755813888 t.dat := smTerm_mono hsm (by decide)
 have hbl := f_b.len
 refine enter 35 Tryz.func6 rfl Tryz.ntmps6 rfl rfl ?_
 have hs1 := St.init w
 refine WC.sr (WL.bx hs1 rfl (fun b2 _ hs3 => WL.al hs3 Tryz.zeroValue36 rfl rfl (fun b4 _ hs5 => WL.nil (WC.seq (fun K6 hK6 => WC.sr (WL.r 1 hs5 [1] rfl (WL.cl Tryz.call18 rfl (k127_ t _ (okTermR.st0 f_t hs5)) ?_)))))))
 rintro _ whs7 ⟨rfl, hs7⟩
 replace hs7 := hs5.call0 hs7
 refine ⟨_, rfl, WL.r 1 hs7 [] rfl (WL.nil (WC.cq rfl (fun h8 qh8 => ?_) (fun h8 qh8 => ?_)))⟩
 ·have hok : termOk t.dat = false := by have h9 := h8; simpa using h9
  refine WC.sr ?_
  refine WL.val rfl rfl rfl (Run.build rfl rfl rfl rfl (built_36)) (WL.st tbk hs7 0 rfl rfl (fun _ hs9 => WL.nil (WC.ret (tkR ?_))))
  clear hK6
  refine retV1 rfl (resV.cellA tbk hs9 0 rfl rfl rfl rfl) ?_
  obtain ⟨L17, hs16, ho18⟩ := ownTermR.fl hs9 (OwnF.nil _ _) (OwnF.nil _ _) (OwnF.nil _ _) (OwnF.nil _ _) (OwnF.nil _ _) (OwnN.nil _ _ _)
  have hs19 := ((hs16.fb b2).fb b4)
  refine ownTermR.ret rfl (St.keep1 (hs19.fr L17)) ho18 ?_
  · unfold termFeedRes; rw [hok]; rfl
 have hok : termOk t.dat = true := by have h9 := h8; simpa using h9
 obtain ⟨hv, hs⟩ := termOk_P hok
 have hargs := vpParse_args (l := b) hv
 refine WC.skip (hK6 _ _ (WC.sr (WL.r 1 hs7 [1] rfl ?_)))
 refine WL.cl Tryz.call19 rfl (k160_ t _ (okTermR.st0 f_t hs7) ?_) ?_
 · first | assumption | rfl | omega | exact hsm.1 | exact hsm.2
 rintro _ whs20 ⟨r21, L1_22, rfl, hs20, ho23, hd24⟩
 replace hs20 := hs7.callF hs20
 refine ⟨_, rfl, ?_⟩
 replace hs20 := St.back [_, _] hs20
 have hvc : vpOk r21.P.dat = true := (congrArg vpOk (congrArg TermD.P hd24)).trans hv
 have hsc : smVp 1048576 r21.P.dat := by have h9 : r21.P.dat = t.P.dat := congrArg TermD.P hd24; rw [h9]; exact hsm.1
 refine WL.buildF (F := encActR) hs20 ([]) Tryz.runUnderlying54 Tryz.sizeOf58 Tryz.zeroValue58 rfl rfl rfl rfl rfl rfl rfl rfl rfl rfl rfl rfl (fun A28 c29 L25 whs26 hs26 ho27 => ?_)
 replace hs26 := St.back [_, _] hs26
 obtain ⟨L30, hs31, ho32⟩ := OwnN.fresh (own := ownActR) (hs26.fr L25) ho27 Bag.nil
 have hs33 := ((hs31.fb b2).fb b4)
 refine WL.al hs33 Tryz.zeroValue36 rfl rfl (fun b34 _ hs35 => WL.st tbk hs35 0 rfl rfl (fun _ hs36 => WL.r 1 hs36 [] rfl (WL.nil (WC.sr (WL.r 3 hs36 [0] rfl ?_)))))
 refine WL.cl Tryz.call20 rfl (k124_ r21.P _ _ _ _ _ (ownTermR.ok (B := 549755813888) ho23 (hs36.ow L1_22) (by rw [hd24]; assumption)).P (SlF.st0 f_b hs36) ?_ ?_ ?_) ?_
 iterate 3 first | assumption | rfl | omega | exact hsm.1 | exact hsm.2
 rintro _ whs37 ⟨r0_38, L0_39, A1_40, c1_41, x1_42, L1_43, rfl, hs37, ho44, ho45, hd0_46, hd1_47⟩
 replace hs37 := hs36.callF hs37
 refine ⟨_, rfl, ?_⟩
 replace hs37 := St.assoc hs37
 replace hs37 := St.back2 [_, _, _] hs37
 have hpe : r21.P.dat = t.P.dat := congrArg TermD.P hd24
 have hpp : r0_38.dat = (vpParse t.P.dat b).1 := by rw [← hpe]; exact hd0_46
 have hpx : x1_42.map ActR.dat = (vpParse t.P.dat b).2 := by rw [← hpe]; exact hd1_47
 have s1 : ∀ y, y ∈ x1_42.map ActR.dat → smAct 549755813888 y := by rw [hpx]; exact fun y hy => Nat.le_trans (areArgs_iff.1 (hargs y hy)).1 (by decide)
 have hxl : x1_42.length ≤ 1048576 := by have h9 := congrArg List.length hpx; rw [List.length_map] at h9; have h8 := vpParse_len (v := t.P.dat) (l := b); omega
 refine WL.r 4 hs37 [] rfl (WL.st tbk hs37 0 rfl rfl (fun _ hs48 => WL.r 1 hs48 [] rfl (WL.nil (WC.seq (fun K49 hK49 => WC.r1 hs48 [] rfl (WC.block ?_))))))
 obtain ⟨L50, L51, L52, L53, L54, L55, hs62, ho56, ho57, ho58, ho59, ho60, ho61⟩ := ownTermR.op hs48 ho23
 have hs63 := (((hs62.fb b2).fb b4).fb b34)
 obtain ⟨L65, hs64, ho66⟩ := ownScrR.fl hs63 ho58 ho59 ho60 ho61
 have hs67 := (((hs64.fb b2).fb b4).fb b34)
 have hM72 := (St.grp1 (L1 := L65) [_] (((((((((hs67.fr L30).fr L1_43).fr L0_39).fr L51).fr L50).fb b2).fb b4).fr L65).fb b34))
 refine WC.lV [4, 5, 11, 24, 25] rfl hM72 (fun k_ (a_ : Hp) f => ∃ (i : Nat) (r : ScrR) (L70 : Hp), k_ = x1_42.length - i ∧ a_ = [(b34, .cells (List.toArray (i64 r0_38.State :: .bool r0_38.Mark :: .slice r0_38.Args.A r0_38.Args.n r0_38.Args.c :: .slice r0_38.Part.A r0_38.Part.n r0_38.Part.c :: (cScr r))) 36 (0, 0))] ++ L70 ∧ (i ≤ x1_42.length) ∧ (r.dat = actsD t.S.dat ((x1_42.take i).map ActR.dat)) ∧ ownScrR r L70 ∧ Sub [(26, .int .i64 i)] f) (((fun (i : Nat) => x1_42.length - i) (0))) ?_ ?_
 ·refine ⟨0, ⟨r21.S.W, r21.S.H, ⟨r21.S.Main.W, r21.S.Main.H, SlD.of ho58⟩, ⟨r21.S.Alt.W, r21.S.Alt.H, SlD.of ho59⟩, r21.S.OnAlt, r21.S.X, r21.S.Y, r21.S.Wrap, ⟨r21.S.A.Fg, r21.S.A.Bg, r21.S.A.Bold, r21.S.A.Under, r21.S.A.Turn⟩, r21.S.Top, r21.S.Bot, r21.S.NoWrap, r21.S.Hide, r21.S.SaveX, r21.S.SaveY, ⟨r21.S.SaveA.Fg, r21.S.SaveA.Bg, r21.S.SaveA.Bold, r21.S.SaveA.Under, r21.S.SaveA.Turn⟩, SlD.of ho60, r21.S.Limit, SlD.ofN ho61⟩, L65, rfl, rfl, ?_, ?_, (by exact ho66), ⟨rfl, trivial⟩⟩
  · exact Nat.zero_le _
  · exact congrArg TermD.S hd24
 rintro _ _ f w ⟨i, r, L70, rfl, rfl, p0, p1, ho71, hG⟩ hF hs73
 refine WC.sub _ (hG.app hF) ?_
 clear hG hF
 replace hs73 := St.ungrp1 [_] hs73
 have hs74 := (((hs73.fb b2).fb b4).fb b34)
 have hfr : ScrFine r.dat := by rw [p1]; exact (ScrFine.of hs).acts (acts_take hpx hargs)
 have hsmr : smScr 549755813888 r.dat := fine_smB hfr (by decide)
 have hsm1 : smScr 1048576 r.dat := fine_smB hfr (by decide)
 refine WC.r1 hs74 [] rfl (WC.seq (fun K75 hK75 => ?_))
 refine WC.cq rfl (fun h76 qh76 => ?_) (fun h76 qh76 => ?_)
 ·have hil : i < x1_42.length := by have h9 := h76; simp at h9; omega
  have haa : areArgs (gat encActR x1_42 i).dat.Args = true := acts_gat hpx hargs hil
  have hanA := (SlN.nth (OwnN.ok ho45 (hs74.ow L1_43) (fun y Li hy h3 hl => h3.ok hl (by have h9_ := List.mem_map_of_mem (f := ActR.dat) hy; first | exact s1 _ h9_))) hil).Args_n
  refine WC.skip (hK75 _ _ (WC.seq (fun K77 hK77 => WC.block (WC.sr ?_))))
  refine WL.val rfl rfl rfl (Run.idxN Tryz.runUnderlying54 Tryz.sizeOf58 rfl rfl rfl ?_ ?_ ?_) ?_
  · exact SlF.some_ (OwnN.sl ho45 (hs74.ow L1_43))
  · omega
  · omega
  refine WL.val rfl rfl rfl (Run.loadA Tryz.isAgg58 Tryz.sizeOf58 rfl rfl (SlF.whole (OwnN.sl ho45 (hs74.ow L1_43)) ?_)) ?_
  · omega
  refine WL.al hs74 Tryz.zeroValue58 rfl rfl (fun b78 _ hs79 => WL.st tbk hs79 0 rfl rfl (fun _ hs80 => WL.nil (WC.region (WL.r 2 hs80 [0] rfl ?_))))
  have hF81 := ((hs80.fr L70).fb b34)
  refine WL.cl Tryz.call21 rfl (k159_ _ _ _ _ _ r _ _ _ (St.headP hF81) ho71 (St.ownP hF81) (SlN.nth (OwnN.ok ho45 (hs80.ow L1_43) (fun y Li hy h3 hl => h3.ok hl (by have h9_ := List.mem_map_of_mem (f := ActR.dat) hy; first | exact s1 _ h9_))) (by omega)).Args (OwnN.sep1 (L1 := (_, _) :: _) hF81 (fun p_ hp_ => (List.mem_append_right [_, _, _] (List.mem_append_right _ (List.mem_append_right _ (List.mem_append_right _ (List.mem_append_left _ hp_)))))) ho45 (by omega) (fun _ h_ => h_)) (St.nodupP hF81) ?_ ?_ ?_ ?_) ?_
  iterate 4 first | assumption | rfl | omega | exact hsm.1 | exact hsm.2
  rintro _ whs82 ⟨r83, L84, rfl, hs82, ho85, hd86⟩
  replace hs82 := St.lendP hF81 hs82
  refine ⟨_, rfl, ?_⟩
  have hs87 := ((((hs82.fb b2).fb b4).fb b78).fb b34)
  refine WL.nil (hK77 _ _ (WC.region (WL.r 2 hs87 [] rfl (WL.nil (tkN ?_)))))
  replace hs87 := (hs87.fb b78).d1
  have hF88 := (St.grp1 (L1 := L84) [_] (((((((((hs87.fr L30).fr L1_43).fr L0_39).fr L51).fr L50).fb b2).fb b4).fr L84).fb b34))
  refine ⟨sbF rfl, _, hF88, _, ?_, i + 1, r83, L84, rfl, rfl, ?_, ?_, ho85, ⟨rfl, trivial⟩⟩
  · omega
  · omega
  · rw [actsD_next (by omega), ← p1]; exact hd86
 have hil : i = x1_42.length := by have h9 := h76; simp at h9; omega
 have hfin : r.dat = actsD t.S.dat (vpParse t.P.dat b).2 := by rw [p1, hil, List.take_length, hpx]
 refine WC.exit (hK49 _ _ (WC.sr (WL.r 1 hs74 [0] rfl (WL.st tbk hs74 1 rfl rfl (fun _ hs89 => WL.nil (WC.ret (retV1 rfl (resV.cellA tbk hs89 1 rfl rfl rfl rfl) ?_)))))))
 obtain ⟨L90, L91, hs94, ho92, ho93⟩ := ownVpR.op hs89 ho44
 have hs95 := (((hs94.fb b2).fb b4).fb b34)
 obtain ⟨L96, L97, L98, L99, hs104, ho100, ho101, ho102, ho103⟩ := ownScrR.op hs95 ho71
 have hs105 := (((hs104.fb b2).fb b4).fb b34)
 obtain ⟨L107, hs106, ho108⟩ := ownTermR.fl hs105 ho92 ho93 ho100 ho101 ho102 ho103
 have hs109 := (((hs106.fb b2).fb b4).fb b34)
 refine ownTermR.ret rfl (St.keep1 (hs109.fr L107)) ho108 ?_
 · unfold termFeedRes; rw [if_pos hok]; exact TermD.ext' hpp hfin
theorem k162_ (t : TermR) (A_b : Option Addr) (n_b c_b : Nat) (b : List UInt8) (w : World) (f_t : okTermR 549755813888 w t) (f_b : SlF encB w A_b n_b b) (hsm : smTerm 1048576 t.dat) (hn : n_b ≤ 1048576) :
    Calls Tryz.prog 27 #[.agg #[i64 t.P.State, .bool t.P.Mark, .slice t.P.Args.A t.P.Args.n t.P.Args.c, .slice t.P.Part.A t.P.Part.n t.P.Part.c, i64 t.S.W, i64 t.S.H, i64 t.S.Main.W, i64 t.S.Main.H, .slice t.S.Main.Cells.A t.S.Main.Cells.n t.S.Main.Cells.c, i64 t.S.Alt.W, i64 t.S.Alt.H, .slice t.S.Alt.Cells.A t.S.Alt.Cells.n t.S.Alt.Cells.c, .bool t.S.OnAlt, i64 t.S.X, i64 t.S.Y, .bool t.S.Wrap, i64 t.S.A.Fg, i64 t.S.A.Bg, .bool t.S.A.Bold, .bool t.S.A.Under, .bool t.S.A.Turn, i64 t.S.Top, i64 t.S.Bot, .bool t.S.NoWrap, .bool t.S.Hide, i64 t.S.SaveX, i64 t.S.SaveY, i64 t.S.SaveA.Fg, i64 t.S.SaveA.Bg, .bool t.S.SaveA.Bold, .bool t.S.SaveA.Under, .bool t.S.SaveA.Turn, .slice t.S.Tabs.A t.S.Tabs.n t.S.Tabs.c, i64 t.S.Limit, .slice t.S.Back.A t.S.Back.n t.S.Back.c], .slice A_b n_b c_b] w fun e w' => ∃ r L1, e = .returned (.agg #[i64 r.P.State, .bool r.P.Mark, .slice r.P.Args.A r.P.Args.n r.P.Args.c, .slice r.P.Part.A r.P.Part.n r.P.Part.c, i64 r.S.W, i64 r.S.H, i64 r.S.Main.W, i64 r.S.Main.H, .slice r.S.Main.Cells.A r.S.Main.Cells.n r.S.Main.Cells.c, i64 r.S.Alt.W, i64 r.S.Alt.H, .slice r.S.Alt.Cells.A r.S.Alt.Cells.n r.S.Alt.Cells.c, .bool r.S.OnAlt, i64 r.S.X, i64 r.S.Y, .bool r.S.Wrap, i64 r.S.A.Fg, i64 r.S.A.Bg, .bool r.S.A.Bold, .bool r.S.A.Under, .bool r.S.A.Turn, i64 r.S.Top, i64 r.S.Bot, .bool r.S.NoWrap, .bool r.S.Hide, i64 r.S.SaveX, i64 r.S.SaveY, i64 r.S.SaveA.Fg, i64 r.S.SaveA.Bg, .bool r.S.SaveA.Bold, .bool r.S.SaveA.Under, .bool r.S.SaveA.Turn, .slice r.S.Tabs.A r.S.Tabs.n r.S.Tabs.c, i64 r.S.Limit, .slice r.S.Back.A r.S.Back.n r.S.Back.c]) ∧ St w [] L1 w' ∧ ownTermR r L1 ∧ r.dat = termFeedRes t.dat b := by
 have nb_t_P_Args := f_t.P.Args_n
 have nl_t_P_Args := f_t.P.Args.len
 have nb_t_P_Part := f_t.P.Part_n
 have nl_t_P_Part := f_t.P.Part.len
 have nb_t_S_Main_Cells := f_t.S.Main.Cells_n
 have nl_t_S_Main_Cells := f_t.S.Main.Cells.len
 have nb_t_S_Alt_Cells := f_t.S.Alt.Cells_n
 have nl_t_S_Alt_Cells := f_t.S.Alt.Cells.len
 have nb_t_S_Tabs := f_t.S.Tabs_n
 have nl_t_S_Tabs := f_t.S.Tabs.len
 have nb_t_S_Back := f_t.S.Back_n
 have nl_t_S_Back := f_t.S.Back.sl.len
 have hsmB : smTerm 549755813888 t.dat := smTerm_mono hsm (by decide)
 have hbl := f_b.len
 refine enter 37 Tryz.func27 rfl Tryz.ntmps27 rfl rfl ?_
 have hs1 := St.init w
 refine WC.sr (WL.bx hs1 rfl (fun b2 _ hs3 => WL.al hs3 Tryz.zeroValue36 rfl rfl (fun b4 _ hs5 => WL.nil (WC.seq (fun K6 hK6 => WC.sr (WL.r 1 hs5 [1] rfl (WL.cl Tryz.call16 rfl (k128_ t _ (okTermR.st0 f_t hs5)) ?_)))))))
 rintro _ whs7 ⟨rfl, hs7⟩
 replace hs7 := hs5.call0 hs7
 refine ⟨_, rfl, WL.r 1 hs7 [] rfl (WL.nil (WC.cq rfl (fun h8 qh8 => ?_) (fun h8 qh8 => ?_)))⟩
 ·have hok : termOk t.dat = false := by have h9 := h8; simpa using h9
  refine WC.sr ?_
  refine WL.val rfl rfl rfl (Run.build rfl rfl rfl rfl (built_36)) (WL.st tbk hs7 0 rfl rfl (fun _ hs9 => WL.nil (WC.ret (tkR ?_))))
  clear hK6
  refine retV1 rfl (resV.cellA tbk hs9 0 rfl rfl rfl rfl) ?_
  obtain ⟨L17, hs16, ho18⟩ := ownTermR.fl hs9 (OwnF.nil _ _) (OwnF.nil _ _) (OwnF.nil _ _) (OwnF.nil _ _) (OwnF.nil _ _) (OwnN.nil _ _ _)
  have hs19 := ((hs16.fb b2).fb b4)
  refine ownTermR.ret rfl (St.keep1 (hs19.fr L17)) ho18 ?_
  · unfold termFeedRes; rw [hok]; rfl
 have hok : termOk t.dat = true := by have h9 := h8; simpa using h9
 obtain ⟨hv, hs⟩ := termOk_P hok
 have hargs := vpParse_args (l := b) hv
 refine WC.skip (hK6 _ _ (WC.sr (WL.r 3 hs7 [1] rfl ?_)))
 refine WL.cl Tryz.call49 rfl (k125_ t.P _ _ _ _ _ (okVpR.st0 f_t.P hs7) (SlF.st0 f_b hs7) ?_ ?_) ?_
 iterate 2 first | assumption | rfl | omega | exact hsm.1 | exact hsm.2
 rintro _ whs20 ⟨r0_21, L0_22, A1_23, c1_24, x1_25, L1_26, rfl, hs20, ho27, ho28, hd0_29, hd1_30⟩
 replace hs20 := hs7.callF hs20
 refine ⟨_, rfl, ?_⟩
 replace hs20 := St.assoc hs20
 replace hs20 := St.back2 [_, _] hs20
 have hpe : vpBytes t.P.dat b = vpParse t.P.dat b := by unfold vpBytes; exact if_pos hv
 have hpp : r0_21.dat = (vpParse t.P.dat b).1 := by rw [← hpe]; exact hd0_29
 have hpx : x1_25.map ActR.dat = (vpParse t.P.dat b).2 := by rw [← hpe]; exact hd1_30
 have s1 : ∀ y, y ∈ x1_25.map ActR.dat → smAct 549755813888 y := by rw [hpx]; exact fun y hy => Nat.le_trans (areArgs_iff.1 (hargs y hy)).1 (by decide)
 have hxl : x1_25.length ≤ 1048576 := by have h9 := congrArg List.length hpx; rw [List.length_map] at h9; have h8 := vpParse_len (v := t.P.dat) (l := b); omega
 refine WL.r 3 hs20 [] rfl (WL.al hs20 Tryz.zeroValue28 rfl rfl (fun b31 _ hs32 => WL.st tbk hs32 0 rfl rfl (fun _ hs33 => WL.r 1 hs33 [] rfl (WL.nil (WC.sr (WL.r 2 hs33 [2] rfl ?_))))))
 refine WL.cl Tryz.call50 rfl (k47_ t.S _ (okScrR.st0 f_t.S hs33) ?_) ?_
 · first | assumption | rfl | omega | exact hsm.1 | exact hsm.2
 rintro _ whs34 ⟨r35, L1_36, rfl, hs34, ho37, hd38⟩
 replace hs34 := hs33.callF hs34
 refine ⟨_, rfl, ?_⟩
 replace hs34 := St.back [_, _, _] hs34
 skip
 refine WL.al hs34 Tryz.zeroValue34 rfl rfl (fun b39 _ hs40 => WL.st tbk hs40 0 rfl rfl (fun _ hs41 => WL.nil (WC.seq (fun K42 hK42 => WC.r1 hs41 [] rfl (WC.block ?_)))))
 have hM47 := (St.grp1 (L1 := L1_36) [_] (((((((hs41.fr L1_26).fr L0_22).fb b2).fb b4).fb b31).fr L1_36).fb b39))
 refine WC.lV [4, 5, 7, 12, 24, 25] rfl hM47 (fun k_ (a_ : Hp) f => ∃ (i : Nat) (r : ScrR) (L45 : Hp), k_ = x1_25.length - i ∧ a_ = [(b39, .cells (List.toArray (cScr r)) 34 (0, 0))] ++ L45 ∧ (i ≤ x1_25.length) ∧ (r.dat = actsD t.S.dat ((x1_25.take i).map ActR.dat)) ∧ ownScrR r L45 ∧ Sub [(26, .int .i64 i)] f) (((fun (i : Nat) => x1_25.length - i) (0))) ?_ ?_
 ·refine ⟨0, r35, L1_36, rfl, rfl, ?_, ?_, ho37, ⟨rfl, trivial⟩⟩
  · exact Nat.zero_le _
  · exact hd38
 rintro _ _ f w ⟨i, r, L45, rfl, rfl, p0, p1, ho46, hG⟩ hF hs48
 refine WC.sub _ (hG.app hF) ?_
 clear hG hF
 replace hs48 := St.ungrp1 [_] hs48
 have hs49 := ((((hs48.fb b2).fb b4).fb b31).fb b39)
 have hfr : ScrFine r.dat := by rw [p1]; exact (ScrFine.of hs).acts (acts_take hpx hargs)
 have hsmr : smScr 549755813888 r.dat := fine_smB hfr (by decide)
 have hsm1 : smScr 1048576 r.dat := fine_smB hfr (by decide)
 refine WC.r1 hs49 [] rfl (WC.seq (fun K50 hK50 => ?_))
 refine WC.cq rfl (fun h51 qh51 => ?_) (fun h51 qh51 => ?_)
 ·have hil : i < x1_25.length := by have h9 := h51; simp at h9; omega
  have haa : areArgs (gat encActR x1_25 i).dat.Args = true := acts_gat hpx hargs hil
  have hanA := (SlN.nth (OwnN.ok ho28 (hs49.ow L1_26) (fun y Li hy h3 hl => h3.ok hl (by have h9_ := List.mem_map_of_mem (f := ActR.dat) hy; first | exact s1 _ h9_))) hil).Args_n
  refine WC.skip (hK50 _ _ (WC.seq (fun K52 hK52 => WC.block (WC.sr ?_))))
  refine WL.val rfl rfl rfl (Run.idxN Tryz.runUnderlying54 Tryz.sizeOf58 rfl rfl rfl ?_ ?_ ?_) ?_
  · exact SlF.some_ (OwnN.sl ho28 (hs49.ow L1_26))
  · omega
  · omega
  refine WL.val rfl rfl rfl (Run.loadA Tryz.isAgg58 Tryz.sizeOf58 rfl rfl (SlF.whole (OwnN.sl ho28 (hs49.ow L1_26)) ?_)) ?_
  · omega
  refine WL.al hs49 Tryz.zeroValue58 rfl rfl (fun b53 _ hs54 => WL.st tbk hs54 0 rfl rfl (fun _ hs55 => WL.nil (WC.region (WL.r 2 hs55 [1, 0] rfl ?_))))
  refine WL.cl Tryz.call51 rfl (k101_ r (gat encActR x1_25 i) _ (ownScrR.ok (B := 549755813888) ho46 (hs55.ow L45) hsmr) (SlN.nth (OwnN.ok ho28 (hs55.ow L1_26) (fun y Li hy h3 hl => h3.ok hl (by have h9_ := List.mem_map_of_mem (f := ActR.dat) hy; first | exact s1 _ h9_))) (by omega)) ?_) ?_
  · first | assumption | rfl | omega | exact hsm.1 | exact hsm.2
  rintro _ whs56 ⟨r57, L1_58, rfl, hs56, ho59, hd60⟩
  replace hs56 := hs55.callF hs56
  refine ⟨_, rfl, ?_⟩
  replace hs56 := St.back [_, _, _, _, _] hs56
  refine WL.st tbk hs56 1 rfl rfl (fun _ hs61 => WL.nil (hK52 _ _ (WC.region (WL.r 2 hs61 [] rfl (WL.nil (tkN ?_))))))
  replace hs61 := (hs61.d1.rm L45)
  have hF62 := (St.grp1 (L1 := L1_58) [_] (((((((hs61.fr L1_26).fr L0_22).fb b2).fb b4).fb b31).fr L1_58).fb b39))
  refine ⟨sbF rfl, _, hF62, _, ?_, i + 1, r57, L1_58, rfl, rfl, ?_, ?_, ho59, ⟨rfl, trivial⟩⟩
  · omega
  · omega
  · rw [actsD_next (by omega), ← p1]; exact hd60.trans (act_res hfr haa)
 have hil : i = x1_25.length := by have h9 := h51; simp at h9; omega
 have hfin : r.dat = actsD t.S.dat (vpParse t.P.dat b).2 := by rw [p1, hil, List.take_length, hpx]
 refine WC.exit (hK42 _ _ (WC.sr (WL.r 2 hs49 [1, 0] rfl ?_)))
 refine WL.val rfl rfl rfl (Run.build rfl rfl rfl rfl (built_36_0_1 _ _ _ _ _ _ _ _ _ _ _ _ _ _ _ _ _ _ _ _ _ _ _ _ _ _ _ _ _ _ _ _ _ _ _)) (WL.st tbk hs49 2 rfl rfl (fun _ hs63 => WL.nil (WC.ret (retV1 rfl (resV.cellA tbk hs63 2 rfl rfl rfl rfl) ?_))))
 obtain ⟨L64, L65, hs68, ho66, ho67⟩ := ownVpR.op hs63 ho27
 have hs69 := ((((hs68.fb b2).fb b4).fb b31).fb b39)
 obtain ⟨L70, L71, L72, L73, hs78, ho74, ho75, ho76, ho77⟩ := ownScrR.op hs69 ho46
 have hs79 := ((((hs78.fb b2).fb b4).fb b31).fb b39)
 obtain ⟨L81, hs80, ho82⟩ := ownTermR.fl hs79 ho66 ho67 ho74 ho75 ho76 ho77
 have hs83 := ((((hs80.fb b2).fb b4).fb b31).fb b39)
 refine ownTermR.ret rfl (St.keep1 (hs83.fr L81)) ho82 ?_
 · unfold termFeedRes; rw [if_pos hok]; exact TermD.ext' hpp hfin
theorem built_36_1 (x0 : Value) (x1 : Value) (x2 : Value) (x3 : Value) (x4 : Value) (x5 : Value) (x6 : Value) (x7 : Value) (x8 : Value) (x9 : Value) (x10 : Value) (x11 : Value) (x12 : Value) (x13 : Value) (x14 : Value) (x15 : Value) (x16 : Value) (x17 : Value) (x18 : Value) (x19 : Value) (x20 : Value) (x21 : Value) (x22 : Value) (x23 : Value) (x24 : Value) (x25 : Value) (x26 : Value) (x27 : Value) (x28 : Value) (x29 : Value) (x30 : Value) : Tryz.prog.built 36 [(1, .agg [x0, x1, x2, x3, x4, x5, x6, x7, x8, x9, x10, x11, x12, x13, x14, x15, x16, x17, x18, x19, x20, x21, x22, x23, x24, x25, x26, x27, x28, x29, x30].toArray)] = some (List.toArray [.int .i64 0, .bool false, .slice none 0 0, .slice none 0 0, x0, x1, x2, x3, x4, x5, x6, x7, x8, x9, x10, x11, x12, x13, x14, x15, x16, x17, x18, x19, x20, x21, x22, x23, x24, x25, x26, x27, x28, x29, x30]) := by kernel_rfl
set_option maxHeartbeats 4000000 in
theorem k163_ (b_c : Nat) (A_s : Option Addr) (n_s c_s : Nat) (s : List UInt8) (i h : Int)  (w : World) (hc : w.heap[b_c]? = some (Obj.cells (List.toArray [.slice A_s n_s c_s, i64 (i), i64 (h)]) 67 (0, 0))) (f_s : SlF encB w A_s n_s s) (s_s : 0 < n_s → (adr A_s).block ∉ [b_c]) (hn : n_s ≤ 1099511627776) (hi : 0 ≤ i ∧ i ≤ n_s) :
    Calls Tryz.prog 15 #[.pointer (some ⟨b_c, 0, none⟩)] w fun e w' => ∃ r L1 i' h', e = .returned (.agg #[i64 r.P.State, .bool r.P.Mark, .slice r.P.Args.A r.P.Args.n r.P.Args.c, .slice r.P.Part.A r.P.Part.n r.P.Part.c, i64 r.S.W, i64 r.S.H, i64 r.S.Main.W, i64 r.S.Main.H, .slice r.S.Main.Cells.A r.S.Main.Cells.n r.S.Main.Cells.c, i64 r.S.Alt.W, i64 r.S.Alt.H, .slice r.S.Alt.Cells.A r.S.Alt.Cells.n r.S.Alt.Cells.c, .bool r.S.OnAlt, i64 r.S.X, i64 r.S.Y, .bool r.S.Wrap, i64 r.S.A.Fg, i64 r.S.A.Bg, .bool r.S.A.Bold, .bool r.S.A.Under, .bool r.S.A.Turn, i64 r.S.Top, i64 r.S.Bot, .bool r.S.NoWrap, .bool r.S.Hide, i64 r.S.SaveX, i64 r.S.SaveY, i64 r.S.SaveA.Fg, i64 r.S.SaveA.Bg, .bool r.S.SaveA.Bold, .bool r.S.SaveA.Under, .bool r.S.SaveA.Turn, .slice r.S.Tabs.A r.S.Tabs.n r.S.Tabs.c, i64 r.S.Limit, .slice r.S.Back.A r.S.Back.n r.S.Back.c]) ∧ St w [b_c] ((b_c, Obj.cells (List.toArray [.slice A_s n_s c_s, i64 (i'), i64 (h')]) 67 (0, 0)) :: L1) w' ∧ ownTermR r L1 ∧ SmallT r.dat ∧ (0 ≤ i' ∧ i' ≤ n_s) := by
 have hl := f_s.len
 refine enter 11 Tryz.func15 rfl Tryz.ntmps15 rfl rfl ?_
 have hs1 := St.take1 w b_c _ hc
 refine WC.sr (WL.al hs1 Tryz.zeroValue36 rfl rfl (fun b2 _ hs3 => WL.nil (WC.sr (WL.r 1 hs3 [] rfl ?_))))
 replace hs3 := (hs3.fb b_c)
 have hF4 : St _ _ ([(b_c, _)] ++ _) _ := hs3
 refine WL.call rfl rfl rfl (Run.call Tryz.call26 rfl rfl rfl) (k113_ _ _ _ _ _ _ _ _ (hF4.own _ List.mem_cons_self).1 (SlF.st f_s hs3 s_s) (St.sepT hF4 f_s s_s) ?_ ?_) ?_
 · omega
 · omega
 rintro _ whs12 ⟨r5, L6, i7, h8, rfl, hs12, ho9, hm10, hi11⟩
 replace hs12 : St _ _ ((b_c, _) :: (L6 ++ _)) _ := St.lend hF4 hs12
 refine ⟨_, rfl, ?_⟩
 have hs13 := ((hs12.fb b2).fb b_c)
 have hsmd : smScr 549755813888 r5.dat := fine_smB hm10.fine (by decide)
 have hms := hm10
 have hT0 : SmallT (⟨vp0, r5.dat⟩ : TermD) := ⟨show vpOk vp0 = true by decide, hms⟩
 have hBT0 : smTerm 549755813888 (⟨vp0, r5.dat⟩ : TermD) := hT0.sm (by decide)
 have hMT0 : smTerm 1048576 (⟨vp0, r5.dat⟩ : TermD) := hT0.sm (by decide)
 refine WL.val rfl rfl rfl (Run.build rfl rfl rfl rfl (built_36_1 _ _ _ _ _ _ _ _ _ _ _ _ _ _ _ _ _ _ _ _ _ _ _ _ _ _ _ _ _ _ _)) (WL.al hs13 Tryz.zeroValue36 rfl rfl (fun b14 _ hs15 => WL.st tbk hs15 0 rfl rfl (fun _ hs16 => WL.nil (WC.seq (fun K17 hK17 => WC.rG 4 ((hs16.fb b_c).d1.fb b2).d1 (hs16.fb b_c).d1 hs16 (fun _ hs18 => ?_))))))
 refine WG.rn [0, 1] (hs18.fb b_c).d1 [0] rfl rfl (WG.o1 2 rfl rfl ?_)
 replace hs18 := (hs18.fb b_c)
 have hF19 : St _ _ ([(b_c, _)] ++ _) _ := hs18
 refine WL.call rfl rfl rfl (Run.call Tryz.call28 rfl rfl rfl) (k126_ _ _ _ _ _ _ _ _ _ (hF19.own _ List.mem_cons_self).1 (SlF.st f_s hs18 s_s) (St.sepT hF19 f_s s_s) ?_ ?_ ?_) ?_
 · omega
 · omega
 · omega
 rintro _ whs29 ⟨A20, c21, zs22, L23, i24, h25, rfl, hs29, ho26, hl27, hi28⟩
 replace hs29 : St _ _ ((b_c, _) :: (L23 ++ _)) _ := St.lend hF19 hs29
 refine ⟨_, rfl, ?_⟩
 have hs30 := (((hs29.fb b2).fb b14).fb b_c)
 refine WL.nil ⟨(hs30.d1.rm L23), WG.o1 3 rfl rfl ?_⟩
 have hk32 := (ownScrR.ok (B := 549755813888) ho9 (hs30.ow L6) (by assumption))
 have hk33 := (ownScrR.ok (B := 549755813888) ho9 (hs30.ow L6) (by assumption))
 refine WL.cl Tryz.call27 rfl (k162_ ⟨⟨_, _, ⟨_, _, _, _⟩, ⟨_, _, _, _⟩⟩, ⟨_, _, ⟨_, _, ⟨_, _, _, _⟩⟩, ⟨_, _, ⟨_, _, _, _⟩⟩, _, _, _, _, ⟨_, _, _, _, _⟩, _, _, _, _, _, _, ⟨_, _, _, _, _⟩, ⟨_, _, _, _⟩, _, ⟨_, _, _, _⟩⟩⟩ _ _ _ _ _ ⟨⟨(SlF.nil _ _), (by first | assumption | omega | simp), (by first | assumption | omega | (simp; omega) | simp), (SlF.nil _ _), (by first | assumption | omega | simp), (by first | assumption | omega | (simp; omega) | simp)⟩, ⟨⟨hk32.Main.Cells, hk32.Main.Cells_c, hk32.Main.Cells_n⟩, ⟨hk32.Alt.Cells, hk32.Alt.Cells_c, hk32.Alt.Cells_n⟩, hk32.Tabs, hk32.Tabs_c, hk32.Tabs_n, hk32.Back, hk32.Back_c, hk32.Back_n⟩⟩ (SlF.ofOwn ho26 (hs30.ow L23)) ?_ ?_) ?_
 iterate 2 first | assumption | omega
 rintro _ whs31 ⟨r34, L1_35, rfl, hs31, ho36, hd37⟩
 replace hs31 := hs30.callF hs31
 refine ⟨_, rfl, ?_⟩
 replace hs31 := St.back [_, _, _] hs31
 have hT1 : SmallT r34.dat := by rw [hd37]; exact hT0.feed
 have hBT : smTerm 549755813888 r34.dat := SmallT.sm hT1 (by decide)
 have hMT : smTerm 1048576 r34.dat := SmallT.sm hT1 (by decide)
 have hBTr := hBT
 rw [hd37] at hBTr
 refine WL.nil ⟨((hs31.d1.rm L1_35).rm L23), WG.oK rfl (WL.st tbk hs31 2 rfl rfl (fun _ hs38 => WL.nil ⟨(((hs38.d1.fb b2).d1.rm L1_35).rm L23), WH.dn (hK17 _ _ (WC.ret (retV1 rfl (resV.cellA tbk hs38 2 rfl rfl rfl rfl) ?_)))⟩))⟩
 refine ⟨r34, _, _, _, rfl, St.keepP (L1 := L1_35) ((hs38.fr L1_35).fb b_c), ho36, ?_, by omega⟩
 · exact hT1
theorem k164_ (A_s : Option Addr) (n_s c_s : Nat) (s : List UInt8) (w : World) (f_s : SlF encB w A_s n_s s) (hn : n_s ≤ 1048576) :
    Calls Tryz.prog 5 #[.slice A_s n_s c_s] w fun e w' => ∃ r L1, e = .returned (.agg #[i64 r.P.State, .bool r.P.Mark, .slice r.P.Args.A r.P.Args.n r.P.Args.c, .slice r.P.Part.A r.P.Part.n r.P.Part.c, i64 r.S.W, i64 r.S.H, i64 r.S.Main.W, i64 r.S.Main.H, .slice r.S.Main.Cells.A r.S.Main.Cells.n r.S.Main.Cells.c, i64 r.S.Alt.W, i64 r.S.Alt.H, .slice r.S.Alt.Cells.A r.S.Alt.Cells.n r.S.Alt.Cells.c, .bool r.S.OnAlt, i64 r.S.X, i64 r.S.Y, .bool r.S.Wrap, i64 r.S.A.Fg, i64 r.S.A.Bg, .bool r.S.A.Bold, .bool r.S.A.Under, .bool r.S.A.Turn, i64 r.S.Top, i64 r.S.Bot, .bool r.S.NoWrap, .bool r.S.Hide, i64 r.S.SaveX, i64 r.S.SaveY, i64 r.S.SaveA.Fg, i64 r.S.SaveA.Bg, .bool r.S.SaveA.Bold, .bool r.S.SaveA.Under, .bool r.S.SaveA.Turn, .slice r.S.Tabs.A r.S.Tabs.n r.S.Tabs.c, i64 r.S.Limit, .slice r.S.Back.A r.S.Back.n r.S.Back.c]) ∧ St w [] L1 w' ∧ ownTermR r L1 ∧ SmallT r.dat := by
 refine enter 17 Tryz.func5 rfl Tryz.ntmps5 rfl rfl ?_
 have hs1 := St.init w
 refine WC.sr (WL.al hs1 Tryz.zeroValue36 rfl rfl (fun b2 _ hs3 => WL.nil (WC.sr (WL.r 1 hs3 [] rfl ?_))))
 refine WL.call rfl rfl rfl (Run.call Tryz.call12 rfl rfl rfl) (k102_ _ _ _ _ _ (SlF.st0 f_s hs3) ?_) ?_
 · omega
 rintro _ whs6 ⟨b4, h5, rfl, hs6⟩
 replace hs6 := hs3.callF hs6
 refine ⟨_, rfl, WL.r 1 hs6 [] rfl (WL.nil (WC.sr (WL.r 1 hs6 [] rfl ?_)))⟩
 have hF7 : St _ _ ([(b4, _)] ++ _) _ := hs6
 refine WL.call rfl rfl rfl (Run.call Tryz.call15 rfl rfl rfl) (k163_ _ _ _ _ _ _ _ _ (hF7.own _ List.mem_cons_self).1 (SlF.st0 f_s hs6) (St.sep hF7 f_s) ?_ ?_) ?_
 · omega
 · omega
 rintro _ whs15 ⟨r8, L9, i10, h11, rfl, hs15, ho12, hm13, hi14⟩
 replace hs15 : St _ _ ((b4, _) :: (L9 ++ _)) _ := St.lend hF7 hs15
 refine ⟨_, rfl, ?_⟩
 have hs16 := ((hs15.fb b2).fb b4)
 have hsmd : smTerm 549755813888 r8.dat := SmallT.sm hm13 (by decide)
 have hm0 : SmallT r8.dat := hm13
 have hBT : smTerm 549755813888 r8.dat := SmallT.sm hm0 (by decide)
 have hMT : smTerm 1048576 r8.dat := SmallT.sm hm0 (by decide)
 have hok9 : termOk r8.dat = true := hm0.ok
 refine WL.al hs16 Tryz.zeroValue36 rfl rfl (fun b17 _ hs18 => WL.st tbk hs18 0 rfl rfl (fun _ hs19 => WL.nil (WC.seq (fun K20 hK20 => WC.sr (WL.r 1 hs19 [0] rfl (WL.cl Tryz.call16 rfl (k128_ r8 _ (ownTermR.ok (B := 549755813888) ho12 (hs19.ow L9) (by assumption))) ?_))))))
 rintro _ whs21 ⟨rfl, hs21⟩
 replace hs21 := hs19.call0 hs21
 refine ⟨_, rfl, WL.r 1 hs21 [] rfl (WL.nil (WC.cq rfl (fun h22 qh22 => ?_) (fun h22 qh22 => ?_)))⟩
 ·exfalso; have h9 := h22; simp [hok9] at h9
 refine WC.skip (hK20 _ _ (WC.sr (WL.r 1 hs21 [0] rfl (WL.st tbk hs21 2 rfl rfl (fun _ hs23 => WL.nil (WC.ret (retV1 rfl (resV.cellA tbk hs23 2 rfl rfl rfl rfl) ?_)))))))
 refine ⟨r8, _, rfl, (St.keep1 (hs23.fr L9)), ho12, ?_⟩
 · exact hm0
theorem eq_24 {d : Nat} (x y : AttrD) (w : World) : (Op.equalIn (d + 2) 24 (.agg (encAttr.enc x).toArray) (.agg (encAttr.enc y).toArray)).run Tryz.prog w = .ok (decide (x = y)) w := by
  obtain ⟨R, h, e⟩ : ∃ R, (Op.equalIn (d + 2) 24 (.agg (encAttr.enc x).toArray) (.agg (encAttr.enc y).toArray)).run Tryz.prog w = .ok R w ∧ R = decide (x = y) := ⟨_, equalIn_struct Tryz.underlying24 rfl (by kernel_rfl) (eqFields_cons rfl (part_one Tryz.isAgg3 rfl) (part_one Tryz.isAgg3 rfl) (equalIn_int Tryz.underlying3) (eqFields_cons rfl (part_one Tryz.isAgg3 rfl) (part_one Tryz.isAgg3 rfl) (equalIn_int Tryz.underlying3) (eqFields_cons rfl (part_one Tryz.isAgg4 rfl) (part_one Tryz.isAgg4 rfl) (equalIn_bool' Tryz.underlying4) (eqFields_cons rfl (part_one Tryz.isAgg4 rfl) (part_one Tryz.isAgg4 rfl) (equalIn_bool' Tryz.underlying4) (eqFields_cons rfl (part_one Tryz.isAgg4 rfl) (part_one Tryz.isAgg4 rfl) (equalIn_bool' Tryz.underlying4) eqFields_nil))))), by rw [Bool.eq_iff_iff]; simp [AttrD.iff']⟩
  rw [h, e]
set_option maxHeartbeats 4000000 in
theorem k165_ (A_s : Option Addr) (n_s c_s : Nat) (s : List UInt8) (w : World) (f_s : SlF encB w A_s n_s s) (ht : TabOk w) :
    Calls Tryz.prog 3 #[.slice A_s n_s c_s] w fun e w' => e = .returned (.bool true) ∧ St w [] [] w' := by
 have hbl := f_s.len
 refine enter 58 Tryz.func3 rfl Tryz.ntmps3 rfl rfl ?_
 have hs1 := St.init w
 refine WC.r1 hs1 [] rfl (WC.seq (fun K2 hK2 => WC.r1 hs1 [] rfl ?_))
 refine WC.cq rfl (fun h3 qh3 => ?_) (fun h3 qh3 => ?_)
 ·refine WC.r1 hs1 [] rfl (WC.ret (tkR ?_))
  clear hK2
  refine retV1 rfl (resV.tmp rfl) (⟨rfl, hs1.nil⟩)
 have hn : n_s ≤ 1048576 := by have h9 := h3; simp at h9; omega
 refine WC.skip (hK2 _ _ (WC.sr (WL.r 1 hs1 [] rfl ?_)))
 refine WL.cl Tryz.call4 rfl (k110_ _ _ _ _ _ (SlF.st0 f_s hs1) ?_) ?_
 · first | assumption | rfl | omega | exact tab_st ht (by assumption) | exact Nat.le_trans hsg (by decide) | decide
 rintro _ whs4 ⟨r5, rfl, hs4, hm6⟩
 replace hs4 := hs1.callF hs4
 refine ⟨_, rfl, ?_⟩
 rw [List.nil_append] at hs4
 obtain ⟨n9, hn9, ha9⟩ := hm6
 obtain ⟨hb1, hb2⟩ := na_back hn9 ha9
 have hb3 : 0 ≤ n9 ∧ n9 < 648 := by have h9 := hn9; simp only [naOk, Bool.and_eq_true, decide_eq_true_eq] at h9; exact h9
 have hb4 : attrNum ⟨r5.Fg, r5.Bg, r5.Bold, r5.Under, r5.Turn⟩ = n9 := hb1
 refine WL.al hs4 Tryz.zeroValue24 rfl rfl (fun b7 _ hs8 => WL.st tbk hs8 0 rfl rfl (fun _ hs9 => WL.nil (WC.sr (WL.r 1 hs9 [] rfl ?_))))
 refine WL.cl Tryz.call5 rfl (k164_ _ _ _ _ _ (SlF.st0 f_s hs9) ?_) ?_
 · first | assumption | rfl | omega | exact tab_st ht (by assumption) | exact Nat.le_trans hsg (by decide) | decide
 rintro _ whs10 ⟨r11, L1_12, rfl, hs10, ho13, hm14⟩
 replace hs10 := hs9.callF hs10
 refine ⟨_, rfl, ?_⟩
 replace hs10 := St.back [_] hs10
 have hT9 := hm14
 have hT0 : SmallT (⟨vp0, r11.dat.S⟩ : TermD) := ⟨show vpOk vp0 = true by decide, hT9.2⟩
 have hok0 := hT0.ok
 have hBT0 : smTerm 549755813888 (⟨vp0, r11.dat.S⟩ : TermD) := hT0.sm (by decide)
 have hMT0 : smTerm 1048576 (⟨vp0, r11.dat.S⟩ : TermD) := hT0.sm (by decide)
 have hBT9 : smTerm 549755813888 r11.dat := hT9.sm (by decide)
 have hsg := sgrT_len (a := r5) hb2
 have hsg2 : (sgrT ⟨r5.Fg, r5.Bg, r5.Bold, r5.Under, r5.Turn⟩).length ≤ 200 := hsg
 refine WL.al hs10 Tryz.zeroValue36 rfl rfl (fun b15 _ hs16 => WL.st tbk hs16 0 rfl rfl (fun _ hs17 => WL.nil (WC.sr ?_)))
 refine WL.val rfl rfl rfl (Run.build rfl rfl rfl rfl (built_28)) (WL.r 1 hs17 [] rfl (WL.st tbk hs17 0 rfl rfl (fun _ hs18 => WL.nil (WC.seq (fun K19 hK19 => WC.rG 6 hs18 hs18 hs18 (fun _ hs20 => ?_))))))
 refine WG.rn [0, 1] hs20 [0, 1] rfl rfl (WG.all [2, 5] (by kernel_rfl) rfl (WGs.cons (i := 2) rfl rfl ?_ (WGs.cons (i := 5) rfl rfl ?_ WGs.nil)))
 ·refine WL.cl Tryz.call7 rfl (k109_ _ _ _ _ _ _ ?_ ?_) ?_
  iterate 2 first | assumption | rfl | omega | exact tab_st ht (by assumption) | exact Nat.le_trans hsg (by decide) | decide
  rintro _ whs21 ⟨rfl, hs21⟩
  replace hs21 := hs20.call0 hs21
  refine ⟨_, rfl, WL.nil ⟨hs21, WG.all [3, 5] (by kernel_rfl) rfl (WGs.cons (i := 3) rfl rfl ?_ (WGs.cons (i := 5) rfl rfl ?_ WGs.nil))⟩⟩
  ·refine WL.bytesOf hs21 Tryz.underlying9 Tryz.underlying22 Tryz.underlying5 rfl rfl rfl rfl rfl ?_ (fun A25 c26 L22 whs23 hs23 ho24 => ?_)
   · (simp [ByteArray.size]; try omega)
   replace hs23 := St.back [_, _] hs23
   refine WL.nil ⟨(hs23.rm L22), WG.all [4, 5] (by kernel_rfl) rfl (WGs.cons (i := 4) rfl rfl ?_ (WGs.cons (i := 5) rfl rfl ?_ WGs.nil))⟩
   ·have hk28 := (ownTermR.ok (B := 549755813888) ho13 (hs23.ow L1_12) (by assumption))
    have hk29 := (ownTermR.ok (B := 549755813888) ho13 (hs23.ow L1_12) (by assumption))
    refine WL.cl Tryz.call6 rfl (k161_ ⟨⟨_, _, ⟨_, _, _, _⟩, ⟨_, _, _, _⟩⟩, ⟨_, _, ⟨_, _, ⟨_, _, _, _⟩⟩, ⟨_, _, ⟨_, _, _, _⟩⟩, _, _, _, _, ⟨_, _, _, _, _⟩, _, _, _, _, _, _, ⟨_, _, _, _, _⟩, ⟨_, _, _, _⟩, _, ⟨_, _, _, _⟩⟩⟩ _ _ _ _ _ ⟨⟨(SlF.nil _ _), (by first | assumption | omega | simp), (by first | assumption | omega | (simp; omega) | simp), (SlF.nil _ _), (by first | assumption | omega | simp), (by first | assumption | omega | (simp; omega) | simp)⟩, ⟨⟨hk28.S.Main.Cells, hk28.S.Main.Cells_c, hk28.S.Main.Cells_n⟩, ⟨hk28.S.Alt.Cells, hk28.S.Alt.Cells_c, hk28.S.Alt.Cells_n⟩, hk28.S.Tabs, hk28.S.Tabs_c, hk28.S.Tabs_n, hk28.S.Back, hk28.S.Back_c, hk28.S.Back_n⟩⟩ (SlF.ofOwn ho24 (hs23.ow L22)) ?_ ?_) ?_
    iterate 2 first | assumption | omega | exact tab_st ht (by assumption) | exact Nat.le_trans hsg (by decide) | decide
    rintro _ whs27 ⟨r30, L1_31, rfl, hs27, ho32, hd33⟩
    replace hs27 := hs23.callF hs27
    refine ⟨_, rfl, ?_⟩
    replace hs27 := St.back [_, _] hs27
    have hE1 : r30.S.A = r5 := by have h9 := sgr_fed (t := (⟨vp0, r11.dat.S⟩ : TermD)) (a := r5) hok0 rfl hb2; have h8 := congrArg (fun z => TermD.S z) hd33; have h7 := congrArg ScrD.A h8; exact h7.trans h9
    refine WL.nil ⟨((hs27.rm L1_31).rm L22), WG.o1 5 rfl rfl (WL.al hs27 Tryz.zeroValue36 rfl rfl (fun b34 _ hs35 => WL.nil ⟨((hs35.d1.rm L1_31).rm L22), WG.oK rfl (WL.st tbk hs35 0 rfl rfl (fun _ hs36 => WL.nil ⟨((hs36.d1.rm L1_31).rm L22), WH.dn ?_⟩))⟩))⟩
    refine hK19 _ _ (WC.sr (WL.r 1 hs36 [2] rfl (WL.cl Tryz.call9 rfl (k12_ _ _ _ _ _ _) ?_)))
    rintro _ whs37 ⟨rfl, hs37⟩
    replace hs37 := hs36.call0 hs37
    refine ⟨_, rfl, WL.cl Tryz.call8 rfl (k107_ _ _ ?_ ?_) ?_⟩
    iterate 2 first | assumption | rfl | omega | exact tab_st ht (by assumption) | exact Nat.le_trans hsg (by decide) | decide
    rintro _ whs38 ⟨rfl, hs38⟩
    replace hs38 := hs37.call0 hs38
    refine ⟨_, rfl, WL.r 3 hs38 [] rfl (WL.al hs38 Tryz.zeroValue24 rfl rfl (fun b39 _ hs40 => WL.st tbk hs40 0 rfl rfl (fun _ hs41 => WL.r 1 hs41 [] rfl (WL.nil (WC.seq (fun K42 hK42 => WC.rH hs41 hs41 (fun _ hs43 => ?_)))))))⟩
    refine WH.rn [0, 1, 2, 3] hs43 [1, 3] rfl rfl ?_
    refine WH.take 4 rfl (by kernel_rfl) rfl rfl rfl hs43 (fun w_ hs_ => (Run.eqlA (eq_24 _ _) (by kernel_rfl) rfl rfl rfl)) ?_
    refine WH.rn [5] hs43 [] rfl rfl (WH.split 33 rfl (fun g44 => ?_) (fun g44 => ?_))
    rotate_left
    · exfalso; revert g44; first | (simp [hE1, hE2, hb1, hb4, hn9, ha9, hb2]; done) | (simp [hE1, hb1, hb4, hn9, ha9, hb2]; done)
    refine WH.rnA (Acts.nil.cons (j := 5) rfl g44) [6] hs43 [] rfl rfl ?_
    refine WH.take 7 rfl (by kernel_rfl) rfl rfl rfl hs43 (fun w_ hs_ => (Run.pick rfl rfl rfl rfl)) ?_
    refine WH.rn [8] hs43 [] rfl rfl (WH.split 36 rfl (fun g45 => ?_) (fun g45 => ?_))
    rotate_left
    · exfalso; revert g45; first | (simp [hE1, hE2, hb1, hb4, hn9, ha9, hb2]; done) | (simp [hE1, hb1, hb4, hn9, ha9, hb2]; done)
    refine WH.rnA (Acts.nil.cons (j := 8) rfl g45) [9, 10] hs43 [0, 3] rfl rfl ?_
    refine WH.take 11 rfl (by kernel_rfl) (wantT rfl g45) rfl rfl hs43 (fun w_ hs_ => (Run.eqlA (eq_24 _ _) (by kernel_rfl) rfl rfl rfl)) ?_
    refine WH.take 12 rfl (by kernel_rfl) rfl rfl rfl hs43 (fun w_ hs_ => (Run.pick rfl rfl rfl rfl)) ?_
    refine WH.rn [13] hs43 [] rfl rfl (WH.split 41 rfl (fun g46 => ?_) (fun g46 => ?_))
    rotate_left
    · exfalso; revert g46; first | (simp [hE1, hE2, hb1, hb4, hn9, ha9, hb2]; done) | (simp [hE1, hb1, hb4, hn9, ha9, hb2]; done)
    refine WH.rnA (Acts.nil.cons (j := 13) rfl g46) [14] hs43 [3] rfl rfl (WH.o1 15 rfl (WL.call (wantT rfl g46) rfl rfl (Run.call Tryz.call10 rfl rfl rfl) (k4_ _ _ _ _ _ _) ?_))
    rintro _ whs47 ⟨rfl, hs47⟩
    replace hs47 := hs43.call0 hs47
    refine ⟨_, rfl, WL.nil ⟨hs47, ?_⟩⟩
    refine WH.take 16 rfl (by kernel_rfl) rfl rfl rfl hs47 (fun w_ hs_ => (Run.pick rfl rfl rfl rfl)) ?_
    refine WH.rn [17] hs47 [] rfl rfl (WH.split 45 rfl (fun g48 => ?_) (fun g48 => ?_))
    rotate_left
    · exfalso; revert g48; first | (simp [hE1, hE2, hb1, hb4, hn9, ha9, hb2]; done) | (simp [hE1, hb1, hb4, hn9, ha9, hb2]; done)
    refine WH.rnA (Acts.nil.cons (j := 17) rfl g48) [18] hs47 [3] rfl rfl ?_
    refine WH.take 20 rfl (by kernel_rfl) (wantT rfl g48) rfl rfl hs47 (fun w_ hs_ => (Run.build rfl rfl rfl rfl (built_24))) ?_
    refine WH.o1 19 rfl (WL.call (wantT rfl g48) rfl rfl (Run.call Tryz.call11 rfl rfl rfl) (k76_ _ _ _ _ _ _ _ _ _ _ (SlF.nil _ _) ?_ ?_) ?_)
    iterate 2 first | assumption | rfl | omega | exact tab_st ht (by assumption) | exact Nat.le_trans hsg (by decide) | decide
    rintro _ whs49 ⟨r50, rfl, hs49, hr51⟩
    replace hs49 := hs47.callF hs49
    refine ⟨_, rfl, ?_⟩
    rw [List.nil_append] at hs49
    replace hs49 := St.perm hs49 (L' := [_, _, _, _] ++ _) pR
    have hE2 : r50 = ⟨0, 0, false, false, false⟩ := hr51.trans sgr_nil
    refine WL.nil ⟨hs49, ?_⟩
    refine WH.take 21 rfl (by kernel_rfl) (wantT rfl g48) rfl rfl hs49 (fun w_ hs_ => (Run.eqlA (eq_24 _ ⟨0, 0, false, false, false⟩) (by kernel_rfl) rfl rfl rfl)) ?_
    refine WH.take 22 rfl (by kernel_rfl) rfl rfl rfl hs49 (fun w_ hs_ => (Run.pick rfl rfl rfl rfl)) ?_
    refine WH.rn [23] hs49 [] rfl rfl (WH.split 51 rfl (fun g52 => ?_) (fun g52 => ?_))
    rotate_left
    · exfalso; revert g52; first | (simp [hE1, hE2, hb1, hb4, hn9, ha9, hb2]; done) | (simp [hE1, hb1, hb4, hn9, ha9, hb2]; done)
    refine WH.rnA (Acts.nil.cons (j := 23) rfl g52) [24, 27] hs49 [3, 3] rfl rfl (WH.o1 25 rfl (WL.buildF (F := encI) hs49 ([38]) Tryz.runUnderlying26 Tryz.sizeOf3 Tryz.zeroValue3 rfl rfl (wantT rfl g52) rfl rfl rfl rfl rfl rfl rfl rfl rfl (fun A56 c57 L53 whs54 hs54 ho55 => ?_)))
    replace hs54 := St.back [_, _, _, _] hs54
    refine WL.nil ⟨(hs54.rm L53), WH.o1 26 rfl (WL.call (wantT rfl g52) rfl rfl (Run.call Tryz.call11 rfl rfl rfl) (k76_ _ _ _ _ _ _ _ _ _ _ (SlF.ofOwn ho55 (hs54.ow L53)) ?_ ?_) ?_)⟩
    iterate 2 first | assumption | rfl | omega | exact tab_st ht (by assumption) | exact Nat.le_trans hsg (by decide) | decide
    rintro _ whs58 ⟨r59, rfl, hs58, hr60⟩
    replace hs58 := hs54.callF hs58
    refine ⟨_, rfl, ?_⟩
    rw [List.nil_append] at hs58
    replace hs58 := St.perm hs58 (L' := [_, _, _, _] ++ _) pR
    have hE3 : r59 = r5 := hr60.trans (sgr_38 hb2)
    refine WL.nil ⟨(hs58.rm L53), ?_⟩
    refine WH.take 28 rfl (by kernel_rfl) (wantT rfl g52) rfl rfl (hs58.rm L53) (fun w_ hs_ => (Run.eqlA (eq_24 _ _) (by kernel_rfl) rfl rfl rfl)) ?_
    refine WH.take 29 rfl (by kernel_rfl) rfl rfl rfl (hs58.rm L53) (fun w_ hs_ => (Run.pick rfl rfl rfl rfl)) ?_
    refine WH.rn [30] (hs58.rm L53) [] rfl rfl (WH.dn (hK42 _ _ (WC.ret (retV1 rfl (resV.tmp rfl) (⟨congrArg Ending.returned (congrArg Value.bool ?_), hs58.nil⟩)))))
    simp [hE1, hE2, hE3, hb1, hb4, hn9, ha9, hb2, sgr_nil, sgr_38 hb2]
   refine WL.al hs23 Tryz.zeroValue36 rfl rfl (fun b61 _ hs62 => WL.nil ⟨(hs62.d1.rm L22), WG.o1 4 rfl rfl ?_⟩)
   have hk64 := (ownTermR.ok (B := 549755813888) ho13 (hs62.ow L1_12) (by assumption))
   have hk65 := (ownTermR.ok (B := 549755813888) ho13 (hs62.ow L1_12) (by assumption))
   refine WL.cl Tryz.call6 rfl (k161_ ⟨⟨_, _, ⟨_, _, _, _⟩, ⟨_, _, _, _⟩⟩, ⟨_, _, ⟨_, _, ⟨_, _, _, _⟩⟩, ⟨_, _, ⟨_, _, _, _⟩⟩, _, _, _, _, ⟨_, _, _, _, _⟩, _, _, _, _, _, _, ⟨_, _, _, _, _⟩, ⟨_, _, _, _⟩, _, ⟨_, _, _, _⟩⟩⟩ _ _ _ _ _ ⟨⟨(SlF.nil _ _), (by first | assumption | omega | simp), (by first | assumption | omega | (simp; omega) | simp), (SlF.nil _ _), (by first | assumption | omega | simp), (by first | assumption | omega | (simp; omega) | simp)⟩, ⟨⟨hk64.S.Main.Cells, hk64.S.Main.Cells_c, hk64.S.Main.Cells_n⟩, ⟨hk64.S.Alt.Cells, hk64.S.Alt.Cells_c, hk64.S.Alt.Cells_n⟩, hk64.S.Tabs, hk64.S.Tabs_c, hk64.S.Tabs_n, hk64.S.Back, hk64.S.Back_c, hk64.S.Back_n⟩⟩ (SlF.ofOwn ho24 (hs62.ow L22)) ?_ ?_) ?_
   iterate 2 first | assumption | omega | exact tab_st ht (by assumption) | exact Nat.le_trans hsg (by decide) | decide
   rintro _ whs63 ⟨r66, L1_67, rfl, hs63, ho68, hd69⟩
   replace hs63 := hs62.callF hs63
   refine ⟨_, rfl, ?_⟩
   replace hs63 := St.back [_, _, _] hs63
   have hE1 : r66.S.A = r5 := by have h9 := sgr_fed (t := (⟨vp0, r11.dat.S⟩ : TermD)) (a := r5) hok0 rfl hb2; have h8 := congrArg (fun z => TermD.S z) hd69; have h7 := congrArg ScrD.A h8; exact h7.trans h9
   refine WL.nil ⟨((hs63.d1.rm L1_67).rm L22), WG.oK rfl (WL.st tbk hs63 0 rfl rfl (fun _ hs70 => WL.nil ⟨((hs70.d1.rm L1_67).rm L22), WH.dn (hK19 _ _ (WC.sr (WL.r 1 hs70 [2] rfl ?_)))⟩))⟩
   refine WL.cl Tryz.call9 rfl (k12_ _ _ _ _ _ _) ?_
   rintro _ whs71 ⟨rfl, hs71⟩
   replace hs71 := hs70.call0 hs71
   refine ⟨_, rfl, WL.cl Tryz.call8 rfl (k107_ _ _ ?_ ?_) ?_⟩
   iterate 2 first | assumption | rfl | omega | exact tab_st ht (by assumption) | exact Nat.le_trans hsg (by decide) | decide
   rintro _ whs72 ⟨rfl, hs72⟩
   replace hs72 := hs71.call0 hs72
   refine ⟨_, rfl, WL.r 3 hs72 [] rfl (WL.al hs72 Tryz.zeroValue24 rfl rfl (fun b73 _ hs74 => WL.st tbk hs74 0 rfl rfl (fun _ hs75 => WL.r 1 hs75 [] rfl (WL.nil (WC.seq (fun K76 hK76 => WC.rH hs75 hs75 (fun _ hs77 => ?_)))))))⟩
   refine WH.rn [0, 1, 2, 3] hs77 [1, 3] rfl rfl ?_
   refine WH.take 4 rfl (by kernel_rfl) rfl rfl rfl hs77 (fun w_ hs_ => (Run.eqlA (eq_24 _ _) (by kernel_rfl) rfl rfl rfl)) ?_
   refine WH.rn [5] hs77 [] rfl rfl (WH.split 33 rfl (fun g78 => ?_) (fun g78 => ?_))
   rotate_left
   · exfalso; revert g78; first | (simp [hE1, hE2, hb1, hb4, hn9, ha9, hb2]; done) | (simp [hE1, hb1, hb4, hn9, ha9, hb2]; done)
   refine WH.rnA (Acts.nil.cons (j := 5) rfl g78) [6] hs77 [] rfl rfl ?_
   refine WH.take 7 rfl (by kernel_rfl) rfl rfl rfl hs77 (fun w_ hs_ => (Run.pick rfl rfl rfl rfl)) ?_
   refine WH.rn [8] hs77 [] rfl rfl (WH.split 36 rfl (fun g79 => ?_) (fun g79 => ?_))
   rotate_left
   · exfalso; revert g79; first | (simp [hE1, hE2, hb1, hb4, hn9, ha9, hb2]; done) | (simp [hE1, hb1, hb4, hn9, ha9, hb2]; done)
   refine WH.rnA (Acts.nil.cons (j := 8) rfl g79) [9, 10] hs77 [0, 3] rfl rfl ?_
   refine WH.take 11 rfl (by kernel_rfl) (wantT rfl g79) rfl rfl hs77 (fun w_ hs_ => (Run.eqlA (eq_24 _ _) (by kernel_rfl) rfl rfl rfl)) ?_
   refine WH.take 12 rfl (by kernel_rfl) rfl rfl rfl hs77 (fun w_ hs_ => (Run.pick rfl rfl rfl rfl)) ?_
   refine WH.rn [13] hs77 [] rfl rfl (WH.split 41 rfl (fun g80 => ?_) (fun g80 => ?_))
   rotate_left
   · exfalso; revert g80; first | (simp [hE1, hE2, hb1, hb4, hn9, ha9, hb2]; done) | (simp [hE1, hb1, hb4, hn9, ha9, hb2]; done)
   refine WH.rnA (Acts.nil.cons (j := 13) rfl g80) [14] hs77 [3] rfl rfl (WH.o1 15 rfl (WL.call (wantT rfl g80) rfl rfl (Run.call Tryz.call10 rfl rfl rfl) (k4_ _ _ _ _ _ _) ?_))
   rintro _ whs81 ⟨rfl, hs81⟩
   replace hs81 := hs77.call0 hs81
   refine ⟨_, rfl, WL.nil ⟨hs81, ?_⟩⟩
   refine WH.take 16 rfl (by kernel_rfl) rfl rfl rfl hs81 (fun w_ hs_ => (Run.pick rfl rfl rfl rfl)) ?_
   refine WH.rn [17] hs81 [] rfl rfl (WH.split 45 rfl (fun g82 => ?_) (fun g82 => ?_))
   rotate_left
   · exfalso; revert g82; first | (simp [hE1, hE2, hb1, hb4, hn9, ha9, hb2]; done) | (simp [hE1, hb1, hb4, hn9, ha9, hb2]; done)
   refine WH.rnA (Acts.nil.cons (j := 17) rfl g82) [18] hs81 [3] rfl rfl ?_
   refine WH.take 20 rfl (by kernel_rfl) (wantT rfl g82) rfl rfl hs81 (fun w_ hs_ => (Run.build rfl rfl rfl rfl (built_24))) ?_
   refine WH.o1 19 rfl (WL.call (wantT rfl g82) rfl rfl (Run.call Tryz.call11 rfl rfl rfl) (k76_ _ _ _ _ _ _ _ _ _ _ (SlF.nil _ _) ?_ ?_) ?_)
   iterate 2 first | assumption | rfl | omega | exact tab_st ht (by assumption) | exact Nat.le_trans hsg (by decide) | decide
   rintro _ whs83 ⟨r84, rfl, hs83, hr85⟩
   replace hs83 := hs81.callF hs83
   refine ⟨_, rfl, ?_⟩
   rw [List.nil_append] at hs83
   replace hs83 := St.perm hs83 (L' := [_, _, _, _] ++ _) pR
   have hE2 : r84 = ⟨0, 0, false, false, false⟩ := hr85.trans sgr_nil
   refine WL.nil ⟨hs83, ?_⟩
   refine WH.take 21 rfl (by kernel_rfl) (wantT rfl g82) rfl rfl hs83 (fun w_ hs_ => (Run.eqlA (eq_24 _ ⟨0, 0, false, false, false⟩) (by kernel_rfl) rfl rfl rfl)) ?_
   refine WH.take 22 rfl (by kernel_rfl) rfl rfl rfl hs83 (fun w_ hs_ => (Run.pick rfl rfl rfl rfl)) ?_
   refine WH.rn [23] hs83 [] rfl rfl (WH.split 51 rfl (fun g86 => ?_) (fun g86 => ?_))
   rotate_left
   · exfalso; revert g86; first | (simp [hE1, hE2, hb1, hb4, hn9, ha9, hb2]; done) | (simp [hE1, hb1, hb4, hn9, ha9, hb2]; done)
   refine WH.rnA (Acts.nil.cons (j := 23) rfl g86) [24, 27] hs83 [3, 3] rfl rfl (WH.o1 25 rfl (WL.buildF (F := encI) hs83 ([38]) Tryz.runUnderlying26 Tryz.sizeOf3 Tryz.zeroValue3 rfl rfl (wantT rfl g86) rfl rfl rfl rfl rfl rfl rfl rfl rfl (fun A90 c91 L87 whs88 hs88 ho89 => ?_)))
   replace hs88 := St.back [_, _, _, _] hs88
   refine WL.nil ⟨(hs88.rm L87), WH.o1 26 rfl (WL.call (wantT rfl g86) rfl rfl (Run.call Tryz.call11 rfl rfl rfl) (k76_ _ _ _ _ _ _ _ _ _ _ (SlF.ofOwn ho89 (hs88.ow L87)) ?_ ?_) ?_)⟩
   iterate 2 first | assumption | rfl | omega | exact tab_st ht (by assumption) | exact Nat.le_trans hsg (by decide) | decide
   rintro _ whs92 ⟨r93, rfl, hs92, hr94⟩
   replace hs92 := hs88.callF hs92
   refine ⟨_, rfl, ?_⟩
   rw [List.nil_append] at hs92
   replace hs92 := St.perm hs92 (L' := [_, _, _, _] ++ _) pR
   have hE3 : r93 = r5 := hr94.trans (sgr_38 hb2)
   refine WL.nil ⟨(hs92.rm L87), ?_⟩
   refine WH.take 28 rfl (by kernel_rfl) (wantT rfl g86) rfl rfl (hs92.rm L87) (fun w_ hs_ => (Run.eqlA (eq_24 _ _) (by kernel_rfl) rfl rfl rfl)) ?_
   refine WH.take 29 rfl (by kernel_rfl) rfl rfl rfl (hs92.rm L87) (fun w_ hs_ => (Run.pick rfl rfl rfl rfl)) ?_
   refine WH.rn [30] (hs92.rm L87) [] rfl rfl (WH.dn (hK76 _ _ (WC.ret (retV1 rfl (resV.tmp rfl) (⟨congrArg Ending.returned (congrArg Value.bool ?_), hs92.nil⟩)))))
   simp [hE1, hE2, hE3, hb1, hb4, hn9, ha9, hb2, sgr_nil, sgr_38 hb2]
  refine WL.al hs21 Tryz.zeroValue36 rfl rfl (fun b95 _ hs96 => WL.nil ⟨hs96.d1, WG.o1 3 rfl rfl ?_⟩)
  refine WL.bytesOf hs96 Tryz.underlying9 Tryz.underlying22 Tryz.underlying5 rfl rfl rfl rfl rfl ?_ (fun A100 c101 L97 whs98 hs98 ho99 => ?_)
  · (simp [ByteArray.size]; try omega)
  replace hs98 := St.back [_, _, _] hs98
  refine WL.nil ⟨(hs98.d1.rm L97), WG.o1 4 rfl rfl ?_⟩
  have hk103 := (ownTermR.ok (B := 549755813888) ho13 (hs98.ow L1_12) (by assumption))
  have hk104 := (ownTermR.ok (B := 549755813888) ho13 (hs98.ow L1_12) (by assumption))
  refine WL.cl Tryz.call6 rfl (k161_ ⟨⟨_, _, ⟨_, _, _, _⟩, ⟨_, _, _, _⟩⟩, ⟨_, _, ⟨_, _, ⟨_, _, _, _⟩⟩, ⟨_, _, ⟨_, _, _, _⟩⟩, _, _, _, _, ⟨_, _, _, _, _⟩, _, _, _, _, _, _, ⟨_, _, _, _, _⟩, ⟨_, _, _, _⟩, _, ⟨_, _, _, _⟩⟩⟩ _ _ _ _ _ ⟨⟨(SlF.nil _ _), (by first | assumption | omega | simp), (by first | assumption | omega | (simp; omega) | simp), (SlF.nil _ _), (by first | assumption | omega | simp), (by first | assumption | omega | (simp; omega) | simp)⟩, ⟨⟨hk103.S.Main.Cells, hk103.S.Main.Cells_c, hk103.S.Main.Cells_n⟩, ⟨hk103.S.Alt.Cells, hk103.S.Alt.Cells_c, hk103.S.Alt.Cells_n⟩, hk103.S.Tabs, hk103.S.Tabs_c, hk103.S.Tabs_n, hk103.S.Back, hk103.S.Back_c, hk103.S.Back_n⟩⟩ (SlF.ofOwn ho99 (hs98.ow L97)) ?_ ?_) ?_
  iterate 2 first | assumption | omega | exact tab_st ht (by assumption) | exact Nat.le_trans hsg (by decide) | decide
  rintro _ whs102 ⟨r105, L1_106, rfl, hs102, ho107, hd108⟩
  replace hs102 := hs98.callF hs102
  refine ⟨_, rfl, ?_⟩
  replace hs102 := St.back [_, _, _] hs102
  have hE1 : r105.S.A = r5 := by have h9 := sgr_fed (t := (⟨vp0, r11.dat.S⟩ : TermD)) (a := r5) hok0 rfl hb2; have h8 := congrArg (fun z => TermD.S z) hd108; have h7 := congrArg ScrD.A h8; exact h7.trans h9
  refine WL.nil ⟨((hs102.d1.rm L1_106).rm L97), WG.oK rfl (WL.st tbk hs102 0 rfl rfl (fun _ hs109 => WL.nil ⟨((hs109.d1.rm L1_106).rm L97), WH.dn (hK19 _ _ (WC.sr (WL.r 1 hs109 [2] rfl ?_)))⟩))⟩
  refine WL.cl Tryz.call9 rfl (k12_ _ _ _ _ _ _) ?_
  rintro _ whs110 ⟨rfl, hs110⟩
  replace hs110 := hs109.call0 hs110
  refine ⟨_, rfl, WL.cl Tryz.call8 rfl (k107_ _ _ ?_ ?_) ?_⟩
  iterate 2 first | assumption | rfl | omega | exact tab_st ht (by assumption) | exact Nat.le_trans hsg (by decide) | decide
  rintro _ whs111 ⟨rfl, hs111⟩
  replace hs111 := hs110.call0 hs111
  refine ⟨_, rfl, WL.r 3 hs111 [] rfl (WL.al hs111 Tryz.zeroValue24 rfl rfl (fun b112 _ hs113 => WL.st tbk hs113 0 rfl rfl (fun _ hs114 => WL.r 1 hs114 [] rfl (WL.nil (WC.seq (fun K115 hK115 => WC.rH hs114 hs114 (fun _ hs116 => ?_)))))))⟩
  refine WH.rn [0, 1, 2, 3] hs116 [1, 3] rfl rfl ?_
  refine WH.take 4 rfl (by kernel_rfl) rfl rfl rfl hs116 (fun w_ hs_ => (Run.eqlA (eq_24 _ _) (by kernel_rfl) rfl rfl rfl)) ?_
  refine WH.rn [5] hs116 [] rfl rfl (WH.split 33 rfl (fun g117 => ?_) (fun g117 => ?_))
  rotate_left
  · exfalso; revert g117; first | (simp [hE1, hE2, hb1, hb4, hn9, ha9, hb2]; done) | (simp [hE1, hb1, hb4, hn9, ha9, hb2]; done)
  refine WH.rnA (Acts.nil.cons (j := 5) rfl g117) [6] hs116 [] rfl rfl ?_
  refine WH.take 7 rfl (by kernel_rfl) rfl rfl rfl hs116 (fun w_ hs_ => (Run.pick rfl rfl rfl rfl)) ?_
  refine WH.rn [8] hs116 [] rfl rfl (WH.split 36 rfl (fun g118 => ?_) (fun g118 => ?_))
  rotate_left
  · exfalso; revert g118; first | (simp [hE1, hE2, hb1, hb4, hn9, ha9, hb2]; done) | (simp [hE1, hb1, hb4, hn9, ha9, hb2]; done)
  refine WH.rnA (Acts.nil.cons (j := 8) rfl g118) [9, 10] hs116 [0, 3] rfl rfl ?_
  refine WH.take 11 rfl (by kernel_rfl) (wantT rfl g118) rfl rfl hs116 (fun w_ hs_ => (Run.eqlA (eq_24 _ _) (by kernel_rfl) rfl rfl rfl)) ?_
  refine WH.take 12 rfl (by kernel_rfl) rfl rfl rfl hs116 (fun w_ hs_ => (Run.pick rfl rfl rfl rfl)) ?_
  refine WH.rn [13] hs116 [] rfl rfl (WH.split 41 rfl (fun g119 => ?_) (fun g119 => ?_))
  rotate_left
  · exfalso; revert g119; first | (simp [hE1, hE2, hb1, hb4, hn9, ha9, hb2]; done) | (simp [hE1, hb1, hb4, hn9, ha9, hb2]; done)
  refine WH.rnA (Acts.nil.cons (j := 13) rfl g119) [14] hs116 [3] rfl rfl (WH.o1 15 rfl (WL.call (wantT rfl g119) rfl rfl (Run.call Tryz.call10 rfl rfl rfl) (k4_ _ _ _ _ _ _) ?_))
  rintro _ whs120 ⟨rfl, hs120⟩
  replace hs120 := hs116.call0 hs120
  refine ⟨_, rfl, WL.nil ⟨hs120, ?_⟩⟩
  refine WH.take 16 rfl (by kernel_rfl) rfl rfl rfl hs120 (fun w_ hs_ => (Run.pick rfl rfl rfl rfl)) ?_
  refine WH.rn [17] hs120 [] rfl rfl (WH.split 45 rfl (fun g121 => ?_) (fun g121 => ?_))
  rotate_left
  · exfalso; revert g121; first | (simp [hE1, hE2, hb1, hb4, hn9, ha9, hb2]; done) | (simp [hE1, hb1, hb4, hn9, ha9, hb2]; done)
  refine WH.rnA (Acts.nil.cons (j := 17) rfl g121) [18] hs120 [3] rfl rfl ?_
  refine WH.take 20 rfl (by kernel_rfl) (wantT rfl g121) rfl rfl hs120 (fun w_ hs_ => (Run.build rfl rfl rfl rfl (built_24))) ?_
  refine WH.o1 19 rfl (WL.call (wantT rfl g121) rfl rfl (Run.call Tryz.call11 rfl rfl rfl) (k76_ _ _ _ _ _ _ _ _ _ _ (SlF.nil _ _) ?_ ?_) ?_)
  iterate 2 first | assumption | rfl | omega | exact tab_st ht (by assumption) | exact Nat.le_trans hsg (by decide) | decide
  rintro _ whs122 ⟨r123, rfl, hs122, hr124⟩
  replace hs122 := hs120.callF hs122
  refine ⟨_, rfl, ?_⟩
  rw [List.nil_append] at hs122
  replace hs122 := St.perm hs122 (L' := [_, _, _, _] ++ _) pR
  have hE2 : r123 = ⟨0, 0, false, false, false⟩ := hr124.trans sgr_nil
  refine WL.nil ⟨hs122, ?_⟩
  refine WH.take 21 rfl (by kernel_rfl) (wantT rfl g121) rfl rfl hs122 (fun w_ hs_ => (Run.eqlA (eq_24 _ ⟨0, 0, false, false, false⟩) (by kernel_rfl) rfl rfl rfl)) ?_
  refine WH.take 22 rfl (by kernel_rfl) rfl rfl rfl hs122 (fun w_ hs_ => (Run.pick rfl rfl rfl rfl)) ?_
  refine WH.rn [23] hs122 [] rfl rfl (WH.split 51 rfl (fun g125 => ?_) (fun g125 => ?_))
  rotate_left
  · exfalso; revert g125; first | (simp [hE1, hE2, hb1, hb4, hn9, ha9, hb2]; done) | (simp [hE1, hb1, hb4, hn9, ha9, hb2]; done)
  refine WH.rnA (Acts.nil.cons (j := 23) rfl g125) [24, 27] hs122 [3, 3] rfl rfl (WH.o1 25 rfl (WL.buildF (F := encI) hs122 ([38]) Tryz.runUnderlying26 Tryz.sizeOf3 Tryz.zeroValue3 rfl rfl (wantT rfl g125) rfl rfl rfl rfl rfl rfl rfl rfl rfl (fun A129 c130 L126 whs127 hs127 ho128 => ?_)))
  replace hs127 := St.back [_, _, _, _] hs127
  refine WL.nil ⟨(hs127.rm L126), WH.o1 26 rfl (WL.call (wantT rfl g125) rfl rfl (Run.call Tryz.call11 rfl rfl rfl) (k76_ _ _ _ _ _ _ _ _ _ _ (SlF.ofOwn ho128 (hs127.ow L126)) ?_ ?_) ?_)⟩
  iterate 2 first | assumption | rfl | omega | exact tab_st ht (by assumption) | exact Nat.le_trans hsg (by decide) | decide
  rintro _ whs131 ⟨r132, rfl, hs131, hr133⟩
  replace hs131 := hs127.callF hs131
  refine ⟨_, rfl, ?_⟩
  rw [List.nil_append] at hs131
  replace hs131 := St.perm hs131 (L' := [_, _, _, _] ++ _) pR
  have hE3 : r132 = r5 := hr133.trans (sgr_38 hb2)
  refine WL.nil ⟨(hs131.rm L126), ?_⟩
  refine WH.take 28 rfl (by kernel_rfl) (wantT rfl g125) rfl rfl (hs131.rm L126) (fun w_ hs_ => (Run.eqlA (eq_24 _ _) (by kernel_rfl) rfl rfl rfl)) ?_
  refine WH.take 29 rfl (by kernel_rfl) rfl rfl rfl (hs131.rm L126) (fun w_ hs_ => (Run.pick rfl rfl rfl rfl)) ?_
  refine WH.rn [30] (hs131.rm L126) [] rfl rfl (WH.dn (hK115 _ _ (WC.ret (retV1 rfl (resV.tmp rfl) (⟨congrArg Ending.returned (congrArg Value.bool ?_), hs131.nil⟩)))))
  simp [hE1, hE2, hE3, hb1, hb4, hn9, ha9, hb2, sgr_nil, sgr_38 hb2]
 refine WL.al hs20 Tryz.zeroValue36 rfl rfl (fun b134 _ hs135 => WL.nil ⟨hs135.d1, WG.o1 2 rfl rfl ?_⟩)
 refine WL.cl Tryz.call7 rfl (k109_ _ _ _ _ _ _ ?_ ?_) ?_
 iterate 2 first | assumption | rfl | omega | exact tab_st ht (by assumption) | exact Nat.le_trans hsg (by decide) | decide
 rintro _ whs136 ⟨rfl, hs136⟩
 replace hs136 := hs135.call0 hs136
 refine ⟨_, rfl, WL.nil ⟨hs136.d1, WG.o1 3 rfl rfl (WL.bytesOf hs136 Tryz.underlying9 Tryz.underlying22 Tryz.underlying5 rfl rfl rfl rfl rfl ?_ (fun A140 c141 L137 whs138 hs138 ho139 => ?_))⟩⟩
 · (simp [ByteArray.size]; try omega)
 replace hs138 := St.back [_, _, _] hs138
 refine WL.nil ⟨(hs138.d1.rm L137), WG.o1 4 rfl rfl ?_⟩
 have hk143 := (ownTermR.ok (B := 549755813888) ho13 (hs138.ow L1_12) (by assumption))
 have hk144 := (ownTermR.ok (B := 549755813888) ho13 (hs138.ow L1_12) (by assumption))
 refine WL.cl Tryz.call6 rfl (k161_ ⟨⟨_, _, ⟨_, _, _, _⟩, ⟨_, _, _, _⟩⟩, ⟨_, _, ⟨_, _, ⟨_, _, _, _⟩⟩, ⟨_, _, ⟨_, _, _, _⟩⟩, _, _, _, _, ⟨_, _, _, _, _⟩, _, _, _, _, _, _, ⟨_, _, _, _, _⟩, ⟨_, _, _, _⟩, _, ⟨_, _, _, _⟩⟩⟩ _ _ _ _ _ ⟨⟨(SlF.nil _ _), (by first | assumption | omega | simp), (by first | assumption | omega | (simp; omega) | simp), (SlF.nil _ _), (by first | assumption | omega | simp), (by first | assumption | omega | (simp; omega) | simp)⟩, ⟨⟨hk143.S.Main.Cells, hk143.S.Main.Cells_c, hk143.S.Main.Cells_n⟩, ⟨hk143.S.Alt.Cells, hk143.S.Alt.Cells_c, hk143.S.Alt.Cells_n⟩, hk143.S.Tabs, hk143.S.Tabs_c, hk143.S.Tabs_n, hk143.S.Back, hk143.S.Back_c, hk143.S.Back_n⟩⟩ (SlF.ofOwn ho139 (hs138.ow L137)) ?_ ?_) ?_
 iterate 2 first | assumption | omega | exact tab_st ht (by assumption) | exact Nat.le_trans hsg (by decide) | decide
 rintro _ whs142 ⟨r145, L1_146, rfl, hs142, ho147, hd148⟩
 replace hs142 := hs138.callF hs142
 refine ⟨_, rfl, ?_⟩
 replace hs142 := St.back [_, _, _] hs142
 have hE1 : r145.S.A = r5 := by have h9 := sgr_fed (t := (⟨vp0, r11.dat.S⟩ : TermD)) (a := r5) hok0 rfl hb2; have h8 := congrArg (fun z => TermD.S z) hd148; have h7 := congrArg ScrD.A h8; exact h7.trans h9
 refine WL.nil ⟨((hs142.d1.rm L1_146).rm L137), WG.oK rfl (WL.st tbk hs142 0 rfl rfl (fun _ hs149 => WL.nil ⟨((hs149.d1.rm L1_146).rm L137), WH.dn (hK19 _ _ (WC.sr (WL.r 1 hs149 [2] rfl ?_)))⟩))⟩
 refine WL.cl Tryz.call9 rfl (k12_ _ _ _ _ _ _) ?_
 rintro _ whs150 ⟨rfl, hs150⟩
 replace hs150 := hs149.call0 hs150
 refine ⟨_, rfl, WL.cl Tryz.call8 rfl (k107_ _ _ ?_ ?_) ?_⟩
 iterate 2 first | assumption | rfl | omega | exact tab_st ht (by assumption) | exact Nat.le_trans hsg (by decide) | decide
 rintro _ whs151 ⟨rfl, hs151⟩
 replace hs151 := hs150.call0 hs151
 refine ⟨_, rfl, WL.r 3 hs151 [] rfl (WL.al hs151 Tryz.zeroValue24 rfl rfl (fun b152 _ hs153 => WL.st tbk hs153 0 rfl rfl (fun _ hs154 => WL.r 1 hs154 [] rfl (WL.nil (WC.seq (fun K155 hK155 => WC.rH hs154 hs154 (fun _ hs156 => ?_)))))))⟩
 refine WH.rn [0, 1, 2, 3] hs156 [1, 3] rfl rfl ?_
 refine WH.take 4 rfl (by kernel_rfl) rfl rfl rfl hs156 (fun w_ hs_ => (Run.eqlA (eq_24 _ _) (by kernel_rfl) rfl rfl rfl)) ?_
 refine WH.rn [5] hs156 [] rfl rfl (WH.split 33 rfl (fun g157 => ?_) (fun g157 => ?_))
 rotate_left
 · exfalso; revert g157; first | (simp [hE1, hE2, hb1, hb4, hn9, ha9, hb2]; done) | (simp [hE1, hb1, hb4, hn9, ha9, hb2]; done)
 refine WH.rnA (Acts.nil.cons (j := 5) rfl g157) [6] hs156 [] rfl rfl ?_
 refine WH.take 7 rfl (by kernel_rfl) rfl rfl rfl hs156 (fun w_ hs_ => (Run.pick rfl rfl rfl rfl)) ?_
 refine WH.rn [8] hs156 [] rfl rfl (WH.split 36 rfl (fun g158 => ?_) (fun g158 => ?_))
 rotate_left
 · exfalso; revert g158; first | (simp [hE1, hE2, hb1, hb4, hn9, ha9, hb2]; done) | (simp [hE1, hb1, hb4, hn9, ha9, hb2]; done)
 refine WH.rnA (Acts.nil.cons (j := 8) rfl g158) [9, 10] hs156 [0, 3] rfl rfl ?_
 refine WH.take 11 rfl (by kernel_rfl) (wantT rfl g158) rfl rfl hs156 (fun w_ hs_ => (Run.eqlA (eq_24 _ _) (by kernel_rfl) rfl rfl rfl)) ?_
 refine WH.take 12 rfl (by kernel_rfl) rfl rfl rfl hs156 (fun w_ hs_ => (Run.pick rfl rfl rfl rfl)) ?_
 refine WH.rn [13] hs156 [] rfl rfl (WH.split 41 rfl (fun g159 => ?_) (fun g159 => ?_))
 rotate_left
 · exfalso; revert g159; first | (simp [hE1, hE2, hb1, hb4, hn9, ha9, hb2]; done) | (simp [hE1, hb1, hb4, hn9, ha9, hb2]; done)
 refine WH.rnA (Acts.nil.cons (j := 13) rfl g159) [14] hs156 [3] rfl rfl (WH.o1 15 rfl (WL.call (wantT rfl g159) rfl rfl (Run.call Tryz.call10 rfl rfl rfl) (k4_ _ _ _ _ _ _) ?_))
 rintro _ whs160 ⟨rfl, hs160⟩
 replace hs160 := hs156.call0 hs160
 refine ⟨_, rfl, WL.nil ⟨hs160, ?_⟩⟩
 refine WH.take 16 rfl (by kernel_rfl) rfl rfl rfl hs160 (fun w_ hs_ => (Run.pick rfl rfl rfl rfl)) ?_
 refine WH.rn [17] hs160 [] rfl rfl (WH.split 45 rfl (fun g161 => ?_) (fun g161 => ?_))
 rotate_left
 · exfalso; revert g161; first | (simp [hE1, hE2, hb1, hb4, hn9, ha9, hb2]; done) | (simp [hE1, hb1, hb4, hn9, ha9, hb2]; done)
 refine WH.rnA (Acts.nil.cons (j := 17) rfl g161) [18] hs160 [3] rfl rfl ?_
 refine WH.take 20 rfl (by kernel_rfl) (wantT rfl g161) rfl rfl hs160 (fun w_ hs_ => (Run.build rfl rfl rfl rfl (built_24))) ?_
 refine WH.o1 19 rfl (WL.call (wantT rfl g161) rfl rfl (Run.call Tryz.call11 rfl rfl rfl) (k76_ _ _ _ _ _ _ _ _ _ _ (SlF.nil _ _) ?_ ?_) ?_)
 iterate 2 first | assumption | rfl | omega | exact tab_st ht (by assumption) | exact Nat.le_trans hsg (by decide) | decide
 rintro _ whs162 ⟨r163, rfl, hs162, hr164⟩
 replace hs162 := hs160.callF hs162
 refine ⟨_, rfl, ?_⟩
 rw [List.nil_append] at hs162
 replace hs162 := St.perm hs162 (L' := [_, _, _, _] ++ _) pR
 have hE2 : r163 = ⟨0, 0, false, false, false⟩ := hr164.trans sgr_nil
 refine WL.nil ⟨hs162, ?_⟩
 refine WH.take 21 rfl (by kernel_rfl) (wantT rfl g161) rfl rfl hs162 (fun w_ hs_ => (Run.eqlA (eq_24 _ ⟨0, 0, false, false, false⟩) (by kernel_rfl) rfl rfl rfl)) ?_
 refine WH.take 22 rfl (by kernel_rfl) rfl rfl rfl hs162 (fun w_ hs_ => (Run.pick rfl rfl rfl rfl)) ?_
 refine WH.rn [23] hs162 [] rfl rfl (WH.split 51 rfl (fun g165 => ?_) (fun g165 => ?_))
 rotate_left
 · exfalso; revert g165; first | (simp [hE1, hE2, hb1, hb4, hn9, ha9, hb2]; done) | (simp [hE1, hb1, hb4, hn9, ha9, hb2]; done)
 refine WH.rnA (Acts.nil.cons (j := 23) rfl g165) [24, 27] hs162 [3, 3] rfl rfl (WH.o1 25 rfl (WL.buildF (F := encI) hs162 ([38]) Tryz.runUnderlying26 Tryz.sizeOf3 Tryz.zeroValue3 rfl rfl (wantT rfl g165) rfl rfl rfl rfl rfl rfl rfl rfl rfl (fun A169 c170 L166 whs167 hs167 ho168 => ?_)))
 replace hs167 := St.back [_, _, _, _] hs167
 refine WL.nil ⟨(hs167.rm L166), WH.o1 26 rfl (WL.call (wantT rfl g165) rfl rfl (Run.call Tryz.call11 rfl rfl rfl) (k76_ _ _ _ _ _ _ _ _ _ _ (SlF.ofOwn ho168 (hs167.ow L166)) ?_ ?_) ?_)⟩
 iterate 2 first | assumption | rfl | omega | exact tab_st ht (by assumption) | exact Nat.le_trans hsg (by decide) | decide
 rintro _ whs171 ⟨r172, rfl, hs171, hr173⟩
 replace hs171 := hs167.callF hs171
 refine ⟨_, rfl, ?_⟩
 rw [List.nil_append] at hs171
 replace hs171 := St.perm hs171 (L' := [_, _, _, _] ++ _) pR
 have hE3 : r172 = r5 := hr173.trans (sgr_38 hb2)
 refine WL.nil ⟨(hs171.rm L166), ?_⟩
 refine WH.take 28 rfl (by kernel_rfl) (wantT rfl g165) rfl rfl (hs171.rm L166) (fun w_ hs_ => (Run.eqlA (eq_24 _ _) (by kernel_rfl) rfl rfl rfl)) ?_
 refine WH.take 29 rfl (by kernel_rfl) rfl rfl rfl (hs171.rm L166) (fun w_ hs_ => (Run.pick rfl rfl rfl rfl)) ?_
 refine WH.rn [30] (hs171.rm L166) [] rfl rfl (WH.dn (hK155 _ _ (WC.ret (retV1 rfl (resV.tmp rfl) (⟨congrArg Ending.returned (congrArg Value.bool ?_), hs171.nil⟩)))))
 simp [hE1, hE2, hE3, hb1, hb4, hn9, ha9, hb2, sgr_nil, sgr_38 hb2]
open Go Go.RowKit Go.ChangeShapes Go.WideShapes Go.ChangeAt Go.Deep
section
variable {H : Type} {enc : TypeId × Value → H} {P : Program} {w : World} {base : Nat} {spare : Nat → Bool} {held : Bool} {fuel : Nat} {t e : TypeId} {cs : List Value} {x : DataW H × List MemPlace}
theorem open_SlB (ht : P.underlying t = some (.slice e)) (he : P.underlying e = some (.int .u8)) (hc : P.cellsOf e = 1) (h : DataW.trod enc P w base spare held fuel t cs = some x) :
  ∃ A n c xs, cs = [.slice A n c] ∧ SlB w A n xs ∧ n ≤ 9223372036854775807 := by
 rcases open_ints ht he hc h with ⟨rfl, _⟩ | ⟨a, l, c, zs, rfl, _, hl, hm, hz, _, hcell, hwz⟩
 ·exact ⟨none, 0, 0, [], rfl, ⟨rfl, SlR.nil _ _ _⟩, by omega⟩
 ·have hlz : l ≤ zs.length := by rw [hz]; split <;> omega
  refine ⟨some a, l, c, (zs.take l).map (fun z => UInt8.ofNat z.toNat), rfl, ⟨by simp; omega, ⟨by rw [rows_len]; simp [encB]; omega, fun _ => rfl, fun j v hv => ?_⟩⟩, by simp only [maxLen] at hm; omega⟩
  have hj : j < l := by
   have := (List.getElem?_eq_some_iff.1 hv).1
   simp [bytesV_len] at this; omega
  have hc1 := hcell j (by omega)
  have hw := hwz (zs.getD j 0) (by rw [List.getD_eq_getElem?_getD, List.getElem?_eq_getElem (show j < zs.length by omega)]; exact List.getElem_mem _)
  simp [Lit.wf, IntKind.min, IntKind.max, IntKind.signed, IntKind.bits] at hw
  show w.cell? (a.add j) = some v
  rw [hc1, ← hv]
  have hlt : j < zs.length := by omega
  have e1 : zs.getD j 0 = zs[j] := by rw [List.getD_eq_getElem?_getD, List.getElem?_eq_getElem hlt]; rfl
  rw [e1]
  simp only [List.getElem?_eq_getElem hlt, Option.getD_some] at hw
  simp [bytesV_map, hj, List.getElem?_eq_getElem hlt, UInt8.toNat_ofNat']
  omega
end
namespace fnSgr
open Go.ChangeShapes Go.WideShapes Go.ChangeAt Go.WideMaps Go.WideElems Go.RowKit
theorem own : ownKnob Tryz.prog.godebug = none := by kernel_rfl
theorem laidOut : laidOutB Tryz.prog = true := by kernel_rfl
def laid3 : List (String × DataW Unit) := [("math/bits.deBruijn32tab", Rows.laid_math_bits_deBruijn32tab), ("math/bits.deBruijn64tab", Rows.laid_math_bits_deBruijn64tab), ("internal/strconv.uint64pow10", Rows.laid_internal_strconv_uint64pow10)]
theorem door_met (os : Os) (args : Array Value) : laidMetH Tryz.prog laid3 ((World.doorLaid Tryz.prog 400 os).forCall (fun _ _ => 0) ⟨#[], args, []⟩).memory :=
  laidMetH_of_parts3 (fuel := 8) (laidMet_of_run' 8 (by kernel_rfl) (by kernel_rfl)) (by kernel_rfl) (by kernel_rfl)
theorem tabData_is : (Rows.laid_internal_strconv_uint64pow10 : DataW Unit) = Go.Lib.tabData .u64 Go.Lib.pow10Tab := by kernel_rfl
theorem tab_of {W : World} (h : laidMetH Tryz.prog laid3 W) : TabOk W := by
  rw [MakeChecks.laidMetH_plain _ _ _ (by kernel_rfl)] at h
  obtain ⟨ps, ⟨_, _, _, _, _, _, _, _, _, _, ⟨_, _, _, _, _, _, _, _, _, _, ⟨g, t, cs, fuel, p, q, hg, ht, hvar, hd, _, _⟩, _⟩, _⟩, _, _⟩ := h
  obtain rfl := Option.some.inj ((show Tryz.prog.globalNamed "internal/strconv.uint64pow10" = some 0 by kernel_rfl).symm.trans hg)
  have hty : (Tryz.prog.globals[0]?).map (·.type) = some t := ht
  obtain rfl := Option.some.inj ((show (Tryz.prog.globals[0]?).map (·.type) = some 168 by kernel_rfl).symm.trans hty)
  rw [tabData_is] at hd
  unfold TabOk Go.Lib.TabIs
  rw [hvar, ← Go.Lib.cells_of_tab Tryz.underlying168 Tryz.underlying154 (show Tryz.prog.cellsOf 154 = 1 by kernel_rfl) (show Tryz.prog.cellsOf 168 = 20 by kernel_rfl) hd]
set_option maxRecDepth 100000 in
set_option maxHeartbeats 1000000 in
theorem lifted (os : Os) (started : os.Started) (H : Type) (enc : TypeId × Value → H) :
    ReturnsInHanded {} Tryz.checked os 3 .any (fun w args => (Rows.fnSgrSpec.pre enc Tryz.prog Tryz.f3 [] false w args ∧ laidMetH Tryz.prog laid3 w) ∧ sizedMet enc Tryz.prog Tryz.f3 (OpenSpec.ofChange Rows.fnSgrSpec) false w args) (Rows.fnSgrSpec.post enc Tryz.prog Tryz.f3 false true false false) := by
  refine returnsInHanded_of_change_and (C := Tryz.checked) (X := fun w _ => laidMetH Tryz.prog laid3 w) (fun _ _ _ hh h => h.of_heap hh) own started (by kernel_rfl) Tryz.func3
    (ChangeSpec.witness_shaped (enc := enc) (C := Tryz.checked) (os := os) (X := fun w _ => laidMetH Tryz.prog laid3 w) false (World.doorLaid Tryz.prog 400 os) #[.slice none 0 0] 8 rfl (World.shaped_of_RefB (by kernel_rfl) (by kernel_rfl)) (by kernel_rfl) (by kernel_rfl) (by kernel_rfl) (door_met os _)) ?_
  intro W base args ds gs before hval0 hW _ _ hL _
  have hval : ∀ (j : Nat) t v, Tryz.f3.params[j]? = some t → args[j]? = some v → Value.okWide Tryz.prog W .any base t v := hval0
  have hW' := hW
  obtain ⟨p, q, hA0, hV, rfl, hfz, hnd⟩ := hW
  have hA : DataW.TrodAll enc Tryz.prog W 0 (fun _ => true) true Tryz.f3.params.toList args.toList ds p := hA0
  rw [Tryz.params3] at hA hval
  obtain ⟨v0, vs0, d0, ds0, p0, q0, hargs, rfl, rfl, h0, r0⟩ := trodAll_cons hA
  obtain ⟨rfl, rfl, rfl⟩ := trodAll_nil r0
  obtain rfl : args = #[v0] := by cases args; simp_all
  obtain ⟨rfl, rfl⟩ := trodVars_none hV
  have k0 := h0
  have lt0 : ∀ x ∈ p0, x.block < W.heap.size := by obtain ⟨m, hm⟩ := k0; exact DataW.trod_lt m _ _ _ hm
  obtain ⟨a0, l0, q0, rfl⟩ := okWide_slice Tryz.underlying22 (hval 0 22 v0 rfl rfl)
  obtain ⟨fuel0, hf0⟩ := h0
  replace hf0 : DataW.trod _ _ _ _ _ _ _ 22 [.slice a0 l0 q0] = _ := hf0
  obtain ⟨A_aS, n_aS, c_aS, aS, e0, f_aS, w_aS⟩ := open_SlB Tryz.underlying22 Tryz.underlying5 (by kernel_rfl) hf0
  obtain ⟨rfl, rfl, rfl⟩ : A_aS = a0 ∧ n_aS = l0 ∧ c_aS = q0 := by cases e0; exact ⟨rfl, rfl, rfl⟩
  have htab := tab_of hL
  clear hA0 hval0
  refine (k165_ A_aS n_aS c_aS aS W f_aS htab).mono fun e W' ⟨he, hst⟩ => ?_
  have bel := hst.toBelow
  subst he
  exact ⟨_, rfl, _, _, _, [], _, [], hW', trodAll_mk1 (shut_bool Tryz.underlying4 _), (trodAll_cons_mk (Below.trod laidOut (by kernel_rfl) (of_decide_eq_true (by kernel_rfl)) k0 bel lt0) trodAll_mk0), rfl, bel.frame _, fun h => by cases h⟩
theorem over : Rows.FnSgrSaid :=
  OpenClaim.holds_of_wide 3 Tryz.f3 rfl rfl rfl rfl rfl rfl rfl ⟨rfl, rfl, rfl, rfl, rfl⟩ rfl rfl rfl rfl rfl (by kernel_rfl) Tryz.func3 (by kernel_rfl)
    (of_decide_eq_true (by kernel_rfl)) (by unfold Func.isWrapper; first | (rw [if_pos (by decide +kernel)]; kernel_rfl) | (rw [if_neg (by decide +kernel)]; exact ⟨rfl, rfl⟩))
    (fun os started H enc _ => lifted os started H enc)
end fnSgr
theorem fnSgr_holds : Rows.FnSgrCardSaid :=
  Claim7.holds_tied_plain_at .later [] [.data, .data, .data] true (true, "01d73fcf696463fc3bde50a74be4f1e46d23787a5a783cfe21ac8c1240ade977") false
    fnSgr.over (fun _ h => by cases h) (by kernel_rfl) (fun _ h => by cases h) fnSgr_row_tie rfl ⟨rfl, rfl⟩ (by kernel_rfl) rfl
    (fun f fn hf hfn => by
      obtain rfl : f = 3 := Option.some.inj ((show Tryz.prog.funcNamed "loop.example/g00661/laws.FnSgr" = some 3 by kernel_rfl).symm.trans hf) |>.symm
      obtain rfl : fn = Tryz.f3 := (Option.some.inj (Tryz.func3.symm.trans hfn)).symm
      exact ⟨by kernel_rfl, fun j t ht => by
        rw [Tryz.params3] at ht
        have hm : t ∈ [22] := by simpa using Array.mem_of_getElem? ht
        have hall : ([22].all fun u => !Tryz.prog.wantsStandIn u) = true := by kernel_rfl
        exact (show Tryz.prog.wantsStandIn t = false by simpa using List.all_eq_true.1 hall t hm)⟩)
    (by kernel_rfl)
end Go.Proofs.YtgigdjgjmfekkaaGreatDoor
