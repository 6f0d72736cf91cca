/-
  What the proof stands on, part 5.
-/
import Derived.Test.YtjmegoiclgancaaGreatKC4
namespace Go.Proofs.YtjmegoiclgancaaGreat
open Go Go.RowKit
set_option linter.unusedVariables false
set_option linter.unusedSimpArgs false
theorem c_impl_Scr_shown (b_s : Nat) (s : ScrR) (L_s : Hp) (w : World) (hb_s : w.heap[b_s]? = some (Obj.cells (List.toArray (cScr s)) 33 (0, 0))) (o_s : ownScrR s L_s) (h_s : ∀ p, p ∈ L_s → w.heap[p.1]? = some p.2) (hd_ : (b_s :: L_s.map (·.1)).Nodup) :
    Calls Tryz.prog 223 #[.pointer (some ⟨b_s, 0, none⟩)] w fun e w' => ∃ q r L1, e = .returned (.pointer (some ⟨b_s, q, none⟩)) ∧ St w (b_s :: L_s.map (·.1)) ([(b_s, Obj.cells (List.toArray (cScr r)) 33 (0, 0))] ++ L1) w' ∧ ownScrR r L1 ∧ r.dat = s.dat ∧ (q = 2 ∧ s.OnAlt = false ∨ q = 5 ∧ s.OnAlt = true) := by
 rcases Bool.eq_false_or_eq_true s.OnAlt with hx | hx
 · exact (c_impl_Scr_shown_alt b_s s L_s w hb_s o_s h_s hd_ hx).mono fun e w' ⟨r, L1, h1, h2, h3, h4⟩ => ⟨5, r, L1, h1, h2, h3, h4, .inr ⟨rfl, hx⟩⟩
 · exact (c_impl_Scr_shown_main b_s s L_s w hb_s o_s h_s hd_ hx).mono fun e w' ⟨r, L1, h1, h2, h3, h4⟩ => ⟨2, r, L1, h1, h2, h3, h4, .inl ⟨rfl, hx⟩⟩
theorem c_impl_Scr_csi (b_s : Nat) (s : ScrR) (L_s : Hp) (A_l : Option Addr) (n_l c_l : Nat) (l : List Int) (b : Int) (w : World) (hb_s : w.heap[b_s]? = some (Obj.cells (List.toArray (cScr s)) 33 (0, 0))) (o_s : ownScrR s L_s) (h_s : ∀ p, p ∈ L_s → w.heap[p.1]? = some p.2) (f_l : SlF encI w A_l n_l l) (hd_ : (b_s :: L_s.map (·.1)).Nodup) (s_l : 0 < n_l → (adr A_l).block ∉ (b_s :: L_s.map (·.1))) (hf : ScrFine s.dat) (hsm : smScr 1048576 s.dat) (hl : areArgs l = true) (hll : n_l ≤ 549755813888) :
    Calls Tryz.prog 189 #[.pointer (some ⟨b_s, 0, none⟩), .slice A_l n_l c_l, i64 b] w fun e w' => ∃ r L1, e = .returned (.tuple #[]) ∧ St w (b_s :: L_s.map (·.1)) ([(b_s, Obj.cells (List.toArray (cScr r)) 33 (0, 0))] ++ L1) w' ∧ ownScrR r L1 ∧ r.dat = csiD s.dat l b := by
 have hsmB : smScr 549755813888 s.dat := smScr_mono hsm (by decide)
 have ha0 := argI_pos (k := 0) (d := 1) hl (by omega)
 have ha1 := argI_bnd (k := 1) (d := 1) hl (by omega)
 have hk0 := argI_bnd (k := 0) (d := 0) hl (by omega)
 refine enter 196 Tryz.func189 rfl Tryz.ntmps189 rfl rfl ?_
 have hs1 := St.takeP w b_s _ L_s hb_s h_s hd_
 refine WC.sr ?_
 refine WL.bx hs1 rfl (fun b2 _ hs3 => ?_)
 refine WL.nil ?_
 refine WC.sr ?_
 refine WL.r 1 hs3 [] rfl ?_
 refine WL.cl Tryz.call233 rfl (c_impl_argOf_0 _ _ _ _ _ _ (SlF.st f_l hs3 s_l) ?_) ?_
 · first | (first | assumption | rfl | omega) | (first | assumption | omega | (refine ⟨?_, ?_, ?_, ?_⟩ <;> omega) | (constructor <;> omega))
 rintro _ whs4 ⟨rfl, hs4⟩
 replace hs4 := hs3.call0 hs4
 refine ⟨_, rfl, ?_⟩
 refine WL.r 1 hs4 [] rfl ?_
 refine WL.cl Tryz.call233 rfl (c_impl_argOf_1 _ _ _ _ _ _ (SlF.st f_l hs4 s_l) ?_) ?_
 · first | (first | assumption | rfl | omega) | (first | assumption | omega | (refine ⟨?_, ?_, ?_, ?_⟩ <;> omega) | (constructor <;> omega))
 rintro _ whs5 ⟨rfl, hs5⟩
 replace hs5 := hs4.call0 hs5
 refine ⟨_, rfl, ?_⟩
 refine WL.r 1 hs5 [] rfl ?_
 refine WL.cl Tryz.call233 rfl (c_impl_argOf_0 _ _ _ _ _ _ (SlF.st f_l hs5 s_l) ?_) ?_
 · first | (first | assumption | rfl | omega) | (first | assumption | omega | (refine ⟨?_, ?_, ?_, ?_⟩ <;> omega) | (constructor <;> omega))
 rintro _ whs6 ⟨rfl, hs6⟩
 replace hs6 := hs5.call0 hs6
 refine ⟨_, rfl, ?_⟩
 refine WL.r 3 hs6 [] rfl ?_
 refine WL.nil ?_
 refine WC.seq (fun K7 hK7 => ?_)
 refine WC.sr ?_
 refine WL.r 4 hs6 [0] rfl ?_
 have hF8 : St _ _ ((_, _) :: (L_s ++ _)) _ := ((hs6.fr L_s).fb b_s)
 refine WL.cl Tryz.call234 rfl (c_impl_Scr_moveBy _ s _ _ _ _ _ (St.headP hF8) o_s (St.ownP hF8) (St.nodupP hF8) ?_ ?_ ?_) ?_
 · first | (first | assumption | rfl | omega) | (first | assumption | omega | (refine ⟨?_, ?_, ?_, ?_⟩ <;> omega) | (constructor <;> omega))
 · first | (first | assumption | rfl | omega) | (first | assumption | omega | (refine ⟨?_, ?_, ?_, ?_⟩ <;> omega) | (constructor <;> omega))
 · first | (first | assumption | rfl | omega) | (first | assumption | omega | (refine ⟨?_, ?_, ?_, ?_⟩ <;> omega) | (constructor <;> omega))
 rintro _ whs9 ⟨r10, L11, rfl, hs9, ho12, hd13⟩
 replace hs9 := St.lendP hF8 hs9
 refine ⟨_, rfl, ?_⟩
 have hs14 := ((hs9.fb b2).fb b_s)
 refine WL.nil ?_
 refine WC.cq rfl (fun h15 qh15 => ?_) (fun h15 qh15 => ?_)
 ·have hmv : isMove b = true := by have h9 := h15; simpa using h9
  refine WC.ret ?_
  refine tkR ?_
  clear hK7
  refine retK0' rfl ?_
  refine ⟨r10, _, rfl, St.keepP (L1 := L11) ((hs14.fr L11).fb b_s), ho12, ?_⟩
  · exact hd13.trans (csiD_move hmv).symm
 ·have hmv : isMove b = false := by have h9 := h15; simpa using h9
  obtain ⟨e65, e66, e67, e68, e71, e100, e7⟩ := isMove_no hmv
  have hr1 : r10.dat = s.dat := hd13.trans (moveByD_no hmv)
  have hs1 : smScr 549755813888 r10.dat := hr1.symm ▸ hsmB
  refine WC.skip ?_
  refine hK7 _ _ ?_
  refine WC.sr ?_
  refine WL.r 1 hs14 [1] rfl ?_
  have hF16 : St _ _ ((_, _) :: (L11 ++ _)) _ := ((hs14.fr L11).fb b_s)
  refine WL.cl Tryz.call223 rfl (c_impl_Scr_shown _ r10 _ _ (St.headP hF16) ho12 (St.ownP hF16) (St.nodupP hF16)) ?_
  rintro _ whs17 ⟨q22, r18, L19, rfl, hs17, ho20, hd21, hO23⟩
  replace hs17 := St.lendP hF16 hs17
  refine ⟨_, rfl, ?_⟩
  have hs24 := ((hs17.fb b2).fb b_s)
  have hr2 : r18.dat = s.dat := hd21.trans hr1
  have hf2 : ScrFine r18.dat := hr2.symm ▸ hf
  have hsm2 : smScr 1048576 r18.dat := hr2.symm ▸ hsm
  have hsB2 : smScr 549755813888 r18.dat := hr2.symm ▸ hsmB
  skip
  have hwh2 : (1 ≤ r18.W ∧ r18.W ≤ 120) ∧ (1 ≤ r18.H ∧ r18.H ≤ 120) ∧ 1 ≤ r18.W * r18.H ∧ r18.W * r18.H ≤ 4000 := isSize_bnd hf2.size
  have hxy2 : (0 ≤ r18.X ∧ r18.X < r18.W) ∧ 0 ≤ r18.Y ∧ r18.Y < r18.H := hf2.pos
  have hrg2 : (0 ≤ r18.Top ∧ r18.Top ≤ r18.Bot) ∧ r18.Bot < r18.H := ⟨hf2.reg.1, hf2.reg.2.1⟩
  have hv0 : 0 ≤ r18.Y * r18.W := Int.mul_nonneg (by omega) (by omega)
  have hv1 : (r18.Y + 1) * r18.W = r18.Y * r18.W + r18.W := by rw [Int.add_mul, Int.one_mul]
  have hv2 : (r18.Y + 1) * r18.W ≤ r18.H * r18.W := Int.mul_le_mul_of_nonneg_right (by omega) (by omega)
  rw [Int.mul_comm r18.H r18.W] at hv2
  have hgs2 : gridOk (shownD r18.dat) = true := hf2.shown.1
  have hsh2 : (shownD r18.dat).W = r18.W ∧ (shownD r18.dat).H = r18.H := hf2.shown.2
  have hts2 : 0 ≤ r18.Top ∧ r18.Top ≤ r18.Bot ∧ r18.Bot < (shownD r18.dat).H := by rw [hsh2.2]; omega
  have hTs2 : r18.Tabs.xs.length ≤ 1048576 := hsm2.2.2.1
  refine WL.r 1 hs24 [] rfl ?_
  refine WL.nil ?_
  refine WC.r1 hs24 [] rfl ?_
  refine WC.block ?_
  refine WC.seq (fun K25 hK25 => ?_)
  refine WC.r1 hs24 [] rfl ?_
  refine WC.cq rfl (fun h26 qh26 => ?_) (fun h26 qh26 => ?_)
  ·have e74 : b = 74 := by have h9 := h26; simpa using h9
   refine WC.skip ?_
   refine hK25 _ _ ?_
   refine WC.condT rfl h26 ?_
   refine WC.region ?_
   refine WL.r 4 hs24 [1] rfl ?_
   have hF28 : St _ _ ((_, _) :: (L19 ++ _)) _ := ((hs24.fr L19).fb b_s)
   refine WL.cl Tryz.call235 rfl (c_impl_Scr_erase _ r18 _ _ _ _ (St.headP hF28) ho20 (St.ownP hF28) (St.nodupP hF28) ?_ ?_) ?_
   · first | (first | assumption | rfl | omega) | (first | assumption | omega | (refine ⟨?_, ?_, ?_, ?_⟩ <;> omega) | (constructor <;> omega))
   · first | (first | assumption | rfl | omega) | (first | assumption | omega | (refine ⟨?_, ?_, ?_, ?_⟩ <;> omega) | (constructor <;> omega))
   rintro _ whs29 ⟨r30, L31, rfl, hs29, ho32, hd33⟩
   replace hs29 := St.lendP hF28 hs29
   refine ⟨_, rfl, ?_⟩
   have hs34 := ((hs29.fb b2).fb b_s)
   refine WL.nil ?_
   refine ibN ?_
   refine retK0 rfl ?_
   refine ⟨r30, _, rfl, St.keepP (L1 := L31) ((hs34.fr L31).fb b_s), ho32, ?_⟩
   · rw [← hr2]; unfold csiD; rw [if_neg e65, if_neg e66, if_neg e67, if_neg e68, if_neg e71, if_neg e100, if_neg e7, if_pos e74]; exact hd33.trans (by rw [if_neg (by simp; omega), if_neg (by simp; omega)]; rfl)
  ·have e74 : ¬ b = 74 := by have h9 := h26; simpa using h9
   refine WC.region ?_
   refine WL.r 2 hs24 [] rfl ?_
   refine WL.nil ?_
   refine hK25 _ _ ?_
   refine WC.cq rfl (fun h35 qh35 => ?_) (fun h35 qh35 => ?_)
   ·have e75 : b = 75 := by have h9 := h35; simpa using h9
    refine WC.region ?_
    refine WL.r 4 hs24 [1] rfl ?_
    have hF36 : St _ _ ((_, _) :: (L19 ++ _)) _ := ((hs24.fr L19).fb b_s)
    refine WL.cl Tryz.call235 rfl (c_impl_Scr_erase _ r18 _ _ _ _ (St.headP hF36) ho20 (St.ownP hF36) (St.nodupP hF36) ?_ ?_) ?_
    · first | (first | assumption | rfl | omega) | (first | assumption | omega | (refine ⟨?_, ?_, ?_, ?_⟩ <;> omega) | (constructor <;> omega))
    · first | (first | assumption | rfl | omega) | (first | assumption | omega | (refine ⟨?_, ?_, ?_, ?_⟩ <;> omega) | (constructor <;> omega))
    rintro _ whs37 ⟨r38, L39, rfl, hs37, ho40, hd41⟩
    replace hs37 := St.lendP hF36 hs37
    refine ⟨_, rfl, ?_⟩
    have hs42 := ((hs37.fb b2).fb b_s)
    refine WL.nil ?_
    refine ibN ?_
    refine retK0 rfl ?_
    refine ⟨r38, _, rfl, St.keepP (L1 := L39) ((hs42.fr L39).fb b_s), ho40, ?_⟩
    · rw [← hr2]; unfold csiD; rw [if_neg e65, if_neg e66, if_neg e67, if_neg e68, if_neg e71, if_neg e100, if_neg e7, if_neg e74, if_pos e75]; exact hd41.trans (by rw [if_pos (by simp; omega), if_pos (by simp; omega)]; rfl)
   ·have e75 : ¬ b = 75 := by have h9 := h35; simpa using h9
    refine WC.r1 hs24 [] rfl ?_
    refine WC.cq rfl (fun h43 qh43 => ?_) (fun h43 qh43 => ?_)
    ·have e88 : b = 88 := by have h9 := h43; simpa using h9
     refine WC.sq1 hs24 ?_
     refine WQ.r 1 [1] rfl ?_
     refine WQ.val rfl rfl rfl (fun w_ hs_ => (Run.nilCheck rfl rfl)) ?_
     refine WQ.r 3 [0, 1] rfl ?_
     refine WQ.val rfl rfl rfl (fun w_ hs_ => (Run.nilCheck rfl rfl)) ?_
     refine WQ.r 4 [0, 1] rfl ?_
     refine WQ.val rfl rfl rfl (fun w_ hs_ => (Run.nilCheck rfl rfl)) ?_
     refine WQ.r 4 [0] rfl ?_
     refine WQ.nil (fun _ (hs44 : St _ _ _ _) => ?_)
     refine WC.rG 16 (hs44.d1.rm L19) hs44 hs44 (fun _ hs45 => ?_)
     refine WG.rn [0, 1, 2, 3, 4, 5] hs45 [1, 1] rfl rfl ?_
     refine WG.tk 6 rfl (by kernel_rfl) rfl rfl rfl hs45 (fun w_ hs_ => (Run.nilCheck rfl rfl)) ?_
     refine WG.rn [7, 8, 9, 10] hs45 [0, 1] rfl rfl ?_
     refine WG.tk 11 rfl (by kernel_rfl) rfl rfl rfl hs45 (fun w_ hs_ => (Run.nilCheck rfl rfl)) ?_
     refine WG.rn [12, 13, 14, 15] hs45 [0] rfl rfl ?_
     refine WG.oK rfl ?_
     have hF46 : St _ _ ((_, _) :: (L19 ++ _)) _ := ((hs45.fr L19).fb b_s)
     refine WL.cl Tryz.call236 rfl (c_impl_Scr_clear _ r18 _ _ _ _ (St.headP hF46) ho20 (St.ownP hF46) (St.nodupP hF46) ?_ ?_ ?_) ?_
     · first | (first | assumption | rfl | omega) | (first | assumption | omega | (refine ⟨?_, ?_, ?_, ?_⟩ <;> omega) | (constructor <;> omega))
     · first | (first | assumption | rfl | omega) | (first | assumption | omega | (refine ⟨?_, ?_, ?_, ?_⟩ <;> omega) | (constructor <;> omega))
     · first | (first | assumption | rfl | omega) | (first | assumption | omega | (refine ⟨?_, ?_, ?_, ?_⟩ <;> omega) | (constructor <;> omega))
     rintro _ whs47 ⟨r48, L49, rfl, hs47, ho50, hd51⟩
     replace hs47 := St.lendP hF46 hs47
     refine ⟨_, rfl, ?_⟩
     have hs52 := ((hs47.fb b2).fb b_s)
     refine WL.nil ⟨(hs52.d1.rm L49), ?_⟩
     refine WH.dn ?_
     refine ibN ?_
     refine retK0 rfl ?_
     refine ⟨r48, _, rfl, St.keepP (L1 := L49) ((hs52.fr L49).fb b_s), ho50, ?_⟩
     · rw [← hr2]; unfold csiD; rw [if_neg e65, if_neg e66, if_neg e67, if_neg e68, if_neg e71, if_neg e100, if_neg e7, if_neg e74, if_neg e75, if_pos e88]; exact hd51
    ·have e88 : ¬ b = 88 := by have h9 := h43; simpa using h9
     refine WC.r1 hs24 [] rfl ?_
     refine WC.cq rfl (fun h53 qh53 => ?_) (fun h53 qh53 => ?_)
     ·have e64 : b = 64 := by have h9 := h53; simpa using h9
      rcases hO23 with ⟨rfl, hx1⟩ | ⟨rfl, hx1⟩
      ·have hx2 : r18.OnAlt = false := (congrArg ScrD.OnAlt hd21).trans hx1
       have hfd : shownD r18.dat = r18.Main.dat := by unfold shownD; rw [if_neg (show ¬ r18.dat.OnAlt = true from by show ¬ r18.OnAlt = true; rw [hx2]; decide)]; rfl
       have hgd2 : gridOk r18.Main.dat = true := hfd ▸ hgs2
       have hgw2 : r18.Main.W = r18.W ∧ r18.Main.H = r18.H := ⟨(congrArg GridD.W hfd).symm.trans hsh2.1, (congrArg GridD.H hfd).symm.trans hsh2.2⟩
       refine WC.rG 15 hs24.d1 hs24 hs24 (fun _ hs54 => ?_)
       refine WG.rn [0, 1] hs54 [] rfl rfl ?_
       refine WG.tk 2 rfl (by kernel_rfl) rfl rfl rfl hs54 (fun w_ hs_ => (Run.nilCheck rfl rfl)) ?_
       refine WG.rn [3, 4] hs54 [0, 1] rfl rfl ?_
       refine WG.tk 5 rfl (by kernel_rfl) rfl rfl rfl hs54 (fun w_ hs_ => (Run.nilCheck rfl rfl)) ?_
       refine WG.rn [6, 7, 8] hs54 [0, 1] rfl rfl ?_
       refine WG.tk 9 rfl (by kernel_rfl) rfl rfl rfl hs54 (fun w_ hs_ => (Run.nilCheck rfl rfl)) ?_
       refine WG.rn [10, 11, 12] hs54 [0] rfl rfl ?_
       refine WG.o1 13 rfl rfl ?_
       refine WL.cl Tryz.call237 rfl (c_impl_GridShift r18.Main _ _ _ _ (ownScrR.ok (B := 549755813888) ho20 (hs54.ow L19) (by rw [hd21]; assumption)).Main ?_ ?_ ?_ ?_) ?_
       · first | (first | assumption | rfl | omega) | (first | assumption | omega | (refine ⟨?_, ?_, ?_, ?_⟩ <;> omega) | (constructor <;> omega))
       · first | (first | assumption | rfl | omega) | (first | assumption | omega | (refine ⟨?_, ?_, ?_, ?_⟩ <;> omega) | (constructor <;> omega))
       · first | (first | assumption | rfl | omega) | (first | assumption | omega | (refine ⟨?_, ?_, ?_, ?_⟩ <;> omega) | (constructor <;> omega))
       · first | (first | assumption | rfl | omega) | (first | assumption | omega | (refine ⟨?_, ?_, ?_, ?_⟩ <;> omega) | (constructor <;> omega))
       rintro _ whs55 ⟨r56, L1_57, rfl, hs55, ho58, hd59⟩
       replace hs55 := hs54.callF hs55
       refine ⟨_, rfl, ?_⟩
       replace hs55 := St.back [_, _] hs55
       have hsf := hd59
       refine WL.nil ⟨(hs55.rm L1_57), ?_⟩
       refine WG.tk 14 rfl (by kernel_rfl) rfl rfl rfl (hs55.rm L1_57) (fun w_ hs_ => (Run.nilCheck rfl rfl)) ?_
       refine WG.oK rfl ?_
       refine WL.st tbk hs55 0 rfl rfl (fun _ hs60 => ?_)
       refine WL.nil ⟨(hs60.d1.rm L1_57), ?_⟩
       refine WH.dn ?_
       refine ibN ?_
       refine retK0 rfl ?_
       obtain ⟨L61, L62, L63, L64, hs69, ho65, ho66, ho67, ho68⟩ := ownScrR.open_ (hs60.fr L19) ho20
       have hs70 := ((hs69.fb b2).fb b_s)
       obtain ⟨L72, hs71, ho73⟩ := ownScrR.fl ((((hs70.fr L64).fr L63).fr L62).fr L1_57) ho58 ho66 ho67 ho68
       have hs74 := ((hs71.fb b2).fb b_s)
       refine ⟨⟨r18.W, r18.H, ⟨r56.W, r56.H, SlD.of ho58⟩, ⟨r18.Alt.W, r18.Alt.H, SlD.of ho66⟩, r18.OnAlt, r18.X, r18.Y, r18.Wrap, ⟨r18.A.Fg, r18.A.Bg, r18.A.Bold, r18.A.Under, r18.A.Turn⟩, r18.Top, r18.Bot, r18.NoWrap, r18.Hide, r18.SaveX, r18.SaveY, ⟨r18.SaveA.Fg, r18.SaveA.Bg, r18.SaveA.Bold, r18.SaveA.Under, r18.SaveA.Turn⟩, SlD.of ho67, r18.Limit, SlD.ofN ho68⟩, _, rfl, St.keepP (L1 := L72) ((hs74.fr L72).fb b_s), (by exact ho73), ?_⟩
       · rw [← hr2]; unfold csiD; rw [if_neg e65, if_neg e66, if_neg e67, if_neg e68, if_neg e71, if_neg e100, if_neg e7, if_neg e74, if_neg e75, if_neg e88, if_pos e64]; show _ = putD r18.dat (gShift (shownD r18.dat) r18.X r18.Y (argI l 0 1)); rw [show putD r18.dat (gShift (shownD r18.dat) r18.X r18.Y (argI l 0 1)) = { r18.dat with Main := gShift r18.Main.dat r18.X r18.Y (argI l 0 1) } from by rw [hfd]; unfold putD; rw [if_neg (show ¬ r18.dat.OnAlt = true from by show ¬ r18.OnAlt = true; rw [hx2]; decide)]]; exact ScrD.ext' rfl rfl (hsf) rfl rfl rfl rfl rfl rfl rfl rfl rfl rfl rfl rfl rfl rfl rfl rfl
      ·have hx2 : r18.OnAlt = true := (congrArg ScrD.OnAlt hd21).trans hx1
       have hfd : shownD r18.dat = r18.Alt.dat := by unfold shownD; rw [if_pos (show  r18.dat.OnAlt = true from by show  r18.OnAlt = true; rw [hx2])]; rfl
       have hgd2 : gridOk r18.Alt.dat = true := hfd ▸ hgs2
       have hgw2 : r18.Alt.W = r18.W ∧ r18.Alt.H = r18.H := ⟨(congrArg GridD.W hfd).symm.trans hsh2.1, (congrArg GridD.H hfd).symm.trans hsh2.2⟩
       refine WC.rG 15 hs24.d1 hs24 hs24 (fun _ hs75 => ?_)
       refine WG.rn [0, 1] hs75 [] rfl rfl ?_
       refine WG.tk 2 rfl (by kernel_rfl) rfl rfl rfl hs75 (fun w_ hs_ => (Run.nilCheck rfl rfl)) ?_
       refine WG.rn [3, 4] hs75 [0, 1] rfl rfl ?_
       refine WG.tk 5 rfl (by kernel_rfl) rfl rfl rfl hs75 (fun w_ hs_ => (Run.nilCheck rfl rfl)) ?_
       refine WG.rn [6, 7, 8] hs75 [0, 1] rfl rfl ?_
       refine WG.tk 9 rfl (by kernel_rfl) rfl rfl rfl hs75 (fun w_ hs_ => (Run.nilCheck rfl rfl)) ?_
       refine WG.rn [10, 11, 12] hs75 [0] rfl rfl ?_
       refine WG.o1 13 rfl rfl ?_
       refine WL.cl Tryz.call237 rfl (c_impl_GridShift r18.Alt _ _ _ _ (ownScrR.ok (B := 549755813888) ho20 (hs75.ow L19) (by rw [hd21]; assumption)).Alt ?_ ?_ ?_ ?_) ?_
       · first | (first | assumption | rfl | omega) | (first | assumption | omega | (refine ⟨?_, ?_, ?_, ?_⟩ <;> omega) | (constructor <;> omega))
       · first | (first | assumption | rfl | omega) | (first | assumption | omega | (refine ⟨?_, ?_, ?_, ?_⟩ <;> omega) | (constructor <;> omega))
       · first | (first | assumption | rfl | omega) | (first | assumption | omega | (refine ⟨?_, ?_, ?_, ?_⟩ <;> omega) | (constructor <;> omega))
       · first | (first | assumption | rfl | omega) | (first | assumption | omega | (refine ⟨?_, ?_, ?_, ?_⟩ <;> omega) | (constructor <;> omega))
       rintro _ whs76 ⟨r77, L1_78, rfl, hs76, ho79, hd80⟩
       replace hs76 := hs75.callF hs76
       refine ⟨_, rfl, ?_⟩
       replace hs76 := St.back [_, _] hs76
       have hsf := hd80
       refine WL.nil ⟨(hs76.rm L1_78), ?_⟩
       refine WG.tk 14 rfl (by kernel_rfl) rfl rfl rfl (hs76.rm L1_78) (fun w_ hs_ => (Run.nilCheck rfl rfl)) ?_
       refine WG.oK rfl ?_
       refine WL.st tbk hs76 0 rfl rfl (fun _ hs81 => ?_)
       refine WL.nil ⟨(hs81.d1.rm L1_78), ?_⟩
       refine WH.dn ?_
       refine ibN ?_
       refine retK0 rfl ?_
       obtain ⟨L82, L83, L84, L85, hs90, ho86, ho87, ho88, ho89⟩ := ownScrR.open_ (hs81.fr L19) ho20
       have hs91 := ((hs90.fb b2).fb b_s)
       obtain ⟨L93, hs92, ho94⟩ := ownScrR.fl ((((hs91.fr L85).fr L84).fr L1_78).fr L82) ho86 ho79 ho88 ho89
       have hs95 := ((hs92.fb b2).fb b_s)
       refine ⟨⟨r18.W, r18.H, ⟨r18.Main.W, r18.Main.H, SlD.of ho86⟩, ⟨r77.W, r77.H, SlD.of ho79⟩, r18.OnAlt, r18.X, r18.Y, r18.Wrap, ⟨r18.A.Fg, r18.A.Bg, r18.A.Bold, r18.A.Under, r18.A.Turn⟩, r18.Top, r18.Bot, r18.NoWrap, r18.Hide, r18.SaveX, r18.SaveY, ⟨r18.SaveA.Fg, r18.SaveA.Bg, r18.SaveA.Bold, r18.SaveA.Under, r18.SaveA.Turn⟩, SlD.of ho88, r18.Limit, SlD.ofN ho89⟩, _, rfl, St.keepP (L1 := L93) ((hs95.fr L93).fb b_s), (by exact ho94), ?_⟩
       · rw [← hr2]; unfold csiD; rw [if_neg e65, if_neg e66, if_neg e67, if_neg e68, if_neg e71, if_neg e100, if_neg e7, if_neg e74, if_neg e75, if_neg e88, if_pos e64]; show _ = putD r18.dat (gShift (shownD r18.dat) r18.X r18.Y (argI l 0 1)); rw [show putD r18.dat (gShift (shownD r18.dat) r18.X r18.Y (argI l 0 1)) = { r18.dat with Alt := gShift r18.Alt.dat r18.X r18.Y (argI l 0 1) } from by rw [hfd]; unfold putD; rw [if_pos (show  r18.dat.OnAlt = true from by show  r18.OnAlt = true; rw [hx2])]]; exact ScrD.ext' rfl rfl rfl (hsf) rfl rfl rfl rfl rfl rfl rfl rfl rfl rfl rfl rfl rfl rfl rfl
     ·have e64 : ¬ b = 64 := by have h9 := h53; simpa using h9
      refine WC.r1 hs24 [] rfl ?_
      refine WC.cq rfl (fun h96 qh96 => ?_) (fun h96 qh96 => ?_)
      ·have e80 : b = 80 := by have h9 := h96; simpa using h9
       rcases hO23 with ⟨rfl, hx1⟩ | ⟨rfl, hx1⟩
       ·have hx2 : r18.OnAlt = false := (congrArg ScrD.OnAlt hd21).trans hx1
        have hfd : shownD r18.dat = r18.Main.dat := by unfold shownD; rw [if_neg (show ¬ r18.dat.OnAlt = true from by show ¬ r18.OnAlt = true; rw [hx2]; decide)]; rfl
        have hgd2 : gridOk r18.Main.dat = true := hfd ▸ hgs2
        have hgw2 : r18.Main.W = r18.W ∧ r18.Main.H = r18.H := ⟨(congrArg GridD.W hfd).symm.trans hsh2.1, (congrArg GridD.H hfd).symm.trans hsh2.2⟩
        refine WC.rG 16 hs24.d1 hs24 hs24 (fun _ hs97 => ?_)
        refine WG.rn [0, 1] hs97 [] rfl rfl ?_
        refine WG.tk 2 rfl (by kernel_rfl) rfl rfl rfl hs97 (fun w_ hs_ => (Run.nilCheck rfl rfl)) ?_
        refine WG.rn [3, 4] hs97 [0, 1] rfl rfl ?_
        refine WG.tk 5 rfl (by kernel_rfl) rfl rfl rfl hs97 (fun w_ hs_ => (Run.nilCheck rfl rfl)) ?_
        refine WG.rn [6, 7, 8] hs97 [0, 1] rfl rfl ?_
        refine WG.tk 9 rfl (by kernel_rfl) rfl rfl rfl hs97 (fun w_ hs_ => (Run.nilCheck rfl rfl)) ?_
        refine WG.rn [10, 11, 12, 13] hs97 [0] rfl rfl ?_
        refine WG.o1 14 rfl rfl ?_
        refine WL.cl Tryz.call237 rfl (c_impl_GridShift r18.Main _ _ _ _ (ownScrR.ok (B := 549755813888) ho20 (hs97.ow L19) (by rw [hd21]; assumption)).Main ?_ ?_ ?_ ?_) ?_
        · first | (first | assumption | rfl | omega) | (first | assumption | omega | (refine ⟨?_, ?_, ?_, ?_⟩ <;> omega) | (constructor <;> omega))
        · first | (first | assumption | rfl | omega) | (first | assumption | omega | (refine ⟨?_, ?_, ?_, ?_⟩ <;> omega) | (constructor <;> omega))
        · first | (first | assumption | rfl | omega) | (first | assumption | omega | (refine ⟨?_, ?_, ?_, ?_⟩ <;> omega) | (constructor <;> omega))
        · first | (first | assumption | rfl | omega) | (first | assumption | omega | (refine ⟨?_, ?_, ?_, ?_⟩ <;> omega) | (constructor <;> omega))
        rintro _ whs98 ⟨r99, L1_100, rfl, hs98, ho101, hd102⟩
        replace hs98 := hs97.callF hs98
        refine ⟨_, rfl, ?_⟩
        replace hs98 := St.back [_, _] hs98
        have hsf := hd102
        refine WL.nil ⟨(hs98.rm L1_100), ?_⟩
        refine WG.tk 15 rfl (by kernel_rfl) rfl rfl rfl (hs98.rm L1_100) (fun w_ hs_ => (Run.nilCheck rfl rfl)) ?_
        refine WG.oK rfl ?_
        refine WL.st tbk hs98 0 rfl rfl (fun _ hs103 => ?_)
        refine WL.nil ⟨(hs103.d1.rm L1_100), ?_⟩
        refine WH.dn ?_
        refine ibN ?_
        refine retK0 rfl ?_
        obtain ⟨L104, L105, L106, L107, hs112, ho108, ho109, ho110, ho111⟩ := ownScrR.open_ (hs103.fr L19) ho20
        have hs113 := ((hs112.fb b2).fb b_s)
        obtain ⟨L115, hs114, ho116⟩ := ownScrR.fl ((((hs113.fr L107).fr L106).fr L105).fr L1_100) ho101 ho109 ho110 ho111
        have hs117 := ((hs114.fb b2).fb b_s)
        refine ⟨⟨r18.W, r18.H, ⟨r99.W, r99.H, SlD.of ho101⟩, ⟨r18.Alt.W, r18.Alt.H, SlD.of ho109⟩, r18.OnAlt, r18.X, r18.Y, r18.Wrap, ⟨r18.A.Fg, r18.A.Bg, r18.A.Bold, r18.A.Under, r18.A.Turn⟩, r18.Top, r18.Bot, r18.NoWrap, r18.Hide, r18.SaveX, r18.SaveY, ⟨r18.SaveA.Fg, r18.SaveA.Bg, r18.SaveA.Bold, r18.SaveA.Under, r18.SaveA.Turn⟩, SlD.of ho110, r18.Limit, SlD.ofN ho111⟩, _, rfl, St.keepP (L1 := L115) ((hs117.fr L115).fb b_s), (by exact ho116), ?_⟩
        · rw [← hr2]; unfold csiD; rw [if_neg e65, if_neg e66, if_neg e67, if_neg e68, if_neg e71, if_neg e100, if_neg e7, if_neg e74, if_neg e75, if_neg e88, if_neg e64, if_pos e80]; show _ = putD r18.dat (gShift (shownD r18.dat) r18.X r18.Y (-argI l 0 1)); rw [show putD r18.dat (gShift (shownD r18.dat) r18.X r18.Y (-argI l 0 1)) = { r18.dat with Main := gShift r18.Main.dat r18.X r18.Y (-argI l 0 1) } from by rw [hfd]; unfold putD; rw [if_neg (show ¬ r18.dat.OnAlt = true from by show ¬ r18.OnAlt = true; rw [hx2]; decide)]]; exact ScrD.ext' rfl rfl (hsf) rfl rfl rfl rfl rfl rfl rfl rfl rfl rfl rfl rfl rfl rfl rfl rfl
       ·have hx2 : r18.OnAlt = true := (congrArg ScrD.OnAlt hd21).trans hx1
        have hfd : shownD r18.dat = r18.Alt.dat := by unfold shownD; rw [if_pos (show  r18.dat.OnAlt = true from by show  r18.OnAlt = true; rw [hx2])]; rfl
        have hgd2 : gridOk r18.Alt.dat = true := hfd ▸ hgs2
        have hgw2 : r18.Alt.W = r18.W ∧ r18.Alt.H = r18.H := ⟨(congrArg GridD.W hfd).symm.trans hsh2.1, (congrArg GridD.H hfd).symm.trans hsh2.2⟩
        refine WC.rG 16 hs24.d1 hs24 hs24 (fun _ hs118 => ?_)
        refine WG.rn [0, 1] hs118 [] rfl rfl ?_
        refine WG.tk 2 rfl (by kernel_rfl) rfl rfl rfl hs118 (fun w_ hs_ => (Run.nilCheck rfl rfl)) ?_
        refine WG.rn [3, 4] hs118 [0, 1] rfl rfl ?_
        refine WG.tk 5 rfl (by kernel_rfl) rfl rfl rfl hs118 (fun w_ hs_ => (Run.nilCheck rfl rfl)) ?_
        refine WG.rn [6, 7, 8] hs118 [0, 1] rfl rfl ?_
        refine WG.tk 9 rfl (by kernel_rfl) rfl rfl rfl hs118 (fun w_ hs_ => (Run.nilCheck rfl rfl)) ?_
        refine WG.rn [10, 11, 12, 13] hs118 [0] rfl rfl ?_
        refine WG.o1 14 rfl rfl ?_
        refine WL.cl Tryz.call237 rfl (c_impl_GridShift r18.Alt _ _ _ _ (ownScrR.ok (B := 549755813888) ho20 (hs118.ow L19) (by rw [hd21]; assumption)).Alt ?_ ?_ ?_ ?_) ?_
        · first | (first | assumption | rfl | omega) | (first | assumption | omega | (refine ⟨?_, ?_, ?_, ?_⟩ <;> omega) | (constructor <;> omega))
        · first | (first | assumption | rfl | omega) | (first | assumption | omega | (refine ⟨?_, ?_, ?_, ?_⟩ <;> omega) | (constructor <;> omega))
        · first | (first | assumption | rfl | omega) | (first | assumption | omega | (refine ⟨?_, ?_, ?_, ?_⟩ <;> omega) | (constructor <;> omega))
        · first | (first | assumption | rfl | omega) | (first | assumption | omega | (refine ⟨?_, ?_, ?_, ?_⟩ <;> omega) | (constructor <;> omega))
        rintro _ whs119 ⟨r120, L1_121, rfl, hs119, ho122, hd123⟩
        replace hs119 := hs118.callF hs119
        refine ⟨_, rfl, ?_⟩
        replace hs119 := St.back [_, _] hs119
        have hsf := hd123
        refine WL.nil ⟨(hs119.rm L1_121), ?_⟩
        refine WG.tk 15 rfl (by kernel_rfl) rfl rfl rfl (hs119.rm L1_121) (fun w_ hs_ => (Run.nilCheck rfl rfl)) ?_
        refine WG.oK rfl ?_
        refine WL.st tbk hs119 0 rfl rfl (fun _ hs124 => ?_)
        refine WL.nil ⟨(hs124.d1.rm L1_121), ?_⟩
        refine WH.dn ?_
        refine ibN ?_
        refine retK0 rfl ?_
        obtain ⟨L125, L126, L127, L128, hs133, ho129, ho130, ho131, ho132⟩ := ownScrR.open_ (hs124.fr L19) ho20
        have hs134 := ((hs133.fb b2).fb b_s)
        obtain ⟨L136, hs135, ho137⟩ := ownScrR.fl ((((hs134.fr L128).fr L127).fr L1_121).fr L125) ho129 ho122 ho131 ho132
        have hs138 := ((hs135.fb b2).fb b_s)
        refine ⟨⟨r18.W, r18.H, ⟨r18.Main.W, r18.Main.H, SlD.of ho129⟩, ⟨r120.W, r120.H, SlD.of ho122⟩, r18.OnAlt, r18.X, r18.Y, r18.Wrap, ⟨r18.A.Fg, r18.A.Bg, r18.A.Bold, r18.A.Under, r18.A.Turn⟩, r18.Top, r18.Bot, r18.NoWrap, r18.Hide, r18.SaveX, r18.SaveY, ⟨r18.SaveA.Fg, r18.SaveA.Bg, r18.SaveA.Bold, r18.SaveA.Under, r18.SaveA.Turn⟩, SlD.of ho131, r18.Limit, SlD.ofN ho132⟩, _, rfl, St.keepP (L1 := L136) ((hs138.fr L136).fb b_s), (by exact ho137), ?_⟩
        · rw [← hr2]; unfold csiD; rw [if_neg e65, if_neg e66, if_neg e67, if_neg e68, if_neg e71, if_neg e100, if_neg e7, if_neg e74, if_neg e75, if_neg e88, if_neg e64, if_pos e80]; show _ = putD r18.dat (gShift (shownD r18.dat) r18.X r18.Y (-argI l 0 1)); rw [show putD r18.dat (gShift (shownD r18.dat) r18.X r18.Y (-argI l 0 1)) = { r18.dat with Alt := gShift r18.Alt.dat r18.X r18.Y (-argI l 0 1) } from by rw [hfd]; unfold putD; rw [if_pos (show  r18.dat.OnAlt = true from by show  r18.OnAlt = true; rw [hx2])]]; exact ScrD.ext' rfl rfl rfl (hsf) rfl rfl rfl rfl rfl rfl rfl rfl rfl rfl rfl rfl rfl rfl rfl
      ·have e80 : ¬ b = 80 := by have h9 := h96; simpa using h9
       refine WC.seq (fun K139 hK139 => ?_)
       refine WC.r1 hs24 [] rfl ?_
       refine WC.cq rfl (fun h140 qh140 => ?_) (fun h140 qh140 => ?_)
       ·have e76 : b = 76 := by have h9 := h140; simpa using h9
        refine WC.skip ?_
        refine hK139 _ _ ?_
        refine WC.condT rfl h140 ?_
        refine WC.sq1 hs24 ?_
        refine WQ.r 1 [1] rfl ?_
        refine WQ.val rfl rfl rfl (fun w_ hs_ => (Run.nilCheck rfl rfl)) ?_
        refine WQ.r 3 [0, 1] rfl ?_
        refine WQ.val rfl rfl rfl (fun w_ hs_ => (Run.nilCheck rfl rfl)) ?_
        refine WQ.r 3 [0, 1] rfl ?_
        refine WQ.val rfl rfl rfl (fun w_ hs_ => (Run.nilCheck rfl rfl)) ?_
        refine WQ.r 2 [0] rfl ?_
        refine WQ.call rfl rfl rfl (fun w_ hs_ => (Run.call Tryz.call97 rfl rfl rfl)) (fun w_ hs_ => (c_impl_within _ _ _ _).mono fun e_ w_ h_ => ⟨h_.1, (hs_ : St _ _ _ _).call0 h_.2⟩) ?_
        refine WQ.nil (fun _ (hs142 : St _ _ _ _) => ?_)
        refine WC.cq rfl (fun h143 qh143 => ?_) (fun h143 qh143 => ?_)
        ·have hwi : within r18.dat.Y r18.dat.Top r18.dat.Bot = true := h143
         have hwj := within_iff.1 hwi
         have htl : 0 ≤ r18.Y ∧ r18.Y ≤ r18.Bot ∧ r18.Bot < (shownD r18.dat).H := by rw [hsh2.2]; simp only [ScrR.dat] at hwj; omega
         refine WC.seq (fun K144 hK144 => ?_)
         refine WC.rG 19 (hs142.d1.rm L19) hs142 hs142 (fun _ hs145 => ?_)
         refine WG.rn [0, 1] hs145 [1, 1] rfl rfl ?_
         refine WG.tk 2 rfl (by kernel_rfl) rfl rfl rfl hs145 (fun w_ hs_ => (Run.nilCheck rfl rfl)) ?_
         refine WG.rn [3, 4, 5] hs145 [0, 1] rfl rfl ?_
         refine WG.tk 6 rfl (by kernel_rfl) rfl rfl rfl hs145 (fun w_ hs_ => (Run.nilCheck rfl rfl)) ?_
         refine WG.rn [7, 8, 10, 11, 13, 16, 17] hs145 [0] rfl rfl ?_
         refine WG.o1 9 rfl rfl ?_
         refine WL.makeMap hs145 rfl rfl rfl rfl (fun b146 whs147 hs147 => ?_)
         refine WL.nil ⟨hs147.d1, ?_⟩
         refine WG.all [12, 14] (by kernel_rfl) rfl (WGs.cons (i := 12) rfl rfl ?_ (WGs.cons (i := 14) rfl rfl ?_ WGs.nil))
         ·refine WL.mapPut hs147 0 rfl Tryz.underlying230 Tryz.underlying4 rfl rfl rfl rfl rfl rfl rfl ?_ ?_ (fun whs148 hs148 => ?_)
          · trivial
          · rfl
          refine WL.nil ⟨hs148.d1, ?_⟩
          refine WG.o1 14 rfl rfl ?_
          refine WL.mapPut hs148 0 rfl Tryz.underlying230 Tryz.underlying4 rfl rfl rfl rfl rfl rfl rfl ?_ ?_ (fun whs149 hs149 => ?_)
          · trivial
          · rfl
          refine WL.nil ⟨hs149.d1, ?_⟩
          refine WG.rn [15] hs149.d1 [] rfl rfl ?_
          refine WG.o1 18 rfl rfl ?_
          refine WL.val rfl rfl rfl (Run.mapGet (v := i64 (-argI l 0 1)) Tryz.underlying230 Tryz.underlying4 rfl rfl rfl (hs149.own _ (nthL_mem (i := 0) rfl)).1 ?_ ?_) ?_
          · trivial
          · rw [show decide (b = 76) = true from decide_eq_true e76]; exact ⟨_, rfl⟩
          refine WL.nil ⟨hs149.d1, ?_⟩
          refine WG.oK rfl ?_
          have hF150 : St _ _ ((_, _) :: (L19 ++ _)) _ := ((hs149.fr L19).fb b_s)
          refine WL.cl Tryz.call210 rfl (c_impl_Scr_roll _ r18 _ _ _ _ _ (St.headP hF150) ho20 (St.ownP hF150) (St.nodupP hF150) ?_ ?_ ?_ ?_) ?_
          · first | (first | assumption | rfl | omega) | (first | assumption | omega | (refine ⟨?_, ?_, ?_, ?_⟩ <;> omega) | (constructor <;> omega))
          · first | (first | assumption | rfl | omega) | (first | assumption | omega | (refine ⟨?_, ?_, ?_, ?_⟩ <;> omega) | (constructor <;> omega))
          · first | (first | assumption | rfl | omega) | (first | assumption | omega | (refine ⟨?_, ?_, ?_, ?_⟩ <;> omega) | (constructor <;> omega))
          · first | (first | assumption | rfl | omega) | (first | assumption | omega | (refine ⟨?_, ?_, ?_, ?_⟩ <;> omega) | (constructor <;> omega))
          rintro _ whs151 ⟨r152, L153, rfl, hs151, ho154, hd155⟩
          replace hs151 := St.lendP hF150 hs151
          refine ⟨_, rfl, ?_⟩
          have hs156 := (((hs151.fb b2).fb b146).fb b_s)
          have hrl := hd155
          refine WL.nil ⟨(hs156.d1.d1.rm L153), ?_⟩
          refine WH.dn ?_
          refine hK144 _ _ ?_
          refine WC.rG 4 hs156.d1 hs156 hs156 (fun _ hs157 => ?_)
          refine WG.rn [0] hs157 [2] rfl rfl ?_
          refine WG.tk 2 rfl (by kernel_rfl) rfl rfl rfl hs157 (fun w_ hs_ => (Run.nilCheck rfl rfl)) ?_
          refine WG.rn [3] hs157 [] rfl rfl ?_
          refine WG.all [1, 4] (by kernel_rfl) rfl (WGs.cons (i := 1) rfl rfl ?_ (WGs.consK rfl ?_ WGs.nil))
          ·refine WL.r 1 hs157 [2] rfl ?_
           refine WL.nil ⟨hs157, ?_⟩
           refine WG.oK rfl ?_
           refine WL.st tbk hs157 0 rfl rfl (fun _ hs158 => ?_)
           refine WL.nil ⟨hs158.d1, ?_⟩
           refine WH.take 5 rfl (by kernel_rfl) rfl rfl rfl hs158.d1 (fun w_ hs_ => (Run.nilCheck rfl rfl)) ?_
           refine WH.rn [6] hs158.d1 [] rfl rfl ?_
           refine WH.o1 7 rfl ?_
           refine WL.st tbk hs158 0 rfl rfl (fun _ hs159 => ?_)
           refine WL.nil ⟨hs159.d1, ?_⟩
           refine WH.dn ?_
           refine ibN ?_
           refine retK0 rfl ?_
           obtain ⟨L160, L161, L162, L163, hs168, ho164, ho165, ho166, ho167⟩ := ownScrR.open_ (hs159.fr L153) ho154
           have hs169 := (((hs168.fb b2).fb b146).fb b_s)
           obtain ⟨L171, hs170, ho172⟩ := ownScrR.fl ((((hs169.fr L163).fr L162).fr L161).fr L160) ho164 ho165 ho166 ho167
           have hs173 := (((hs170.fb b2).fb b146).fb b_s)
           refine ⟨⟨r152.W, r152.H, ⟨r152.Main.W, r152.Main.H, SlD.of ho164⟩, ⟨r152.Alt.W, r152.Alt.H, SlD.of ho165⟩, r152.OnAlt, (0), r152.Y, false, ⟨r152.A.Fg, r152.A.Bg, r152.A.Bold, r152.A.Under, r152.A.Turn⟩, r152.Top, r152.Bot, r152.NoWrap, r152.Hide, r152.SaveX, r152.SaveY, ⟨r152.SaveA.Fg, r152.SaveA.Bg, r152.SaveA.Bold, r152.SaveA.Under, r152.SaveA.Turn⟩, SlD.of ho166, r152.Limit, SlD.ofN ho167⟩, _, rfl, St.keepP (L1 := L171) ((hs173.fr L171).fb b_s), (by exact ho172), ?_⟩
           · rw [← hr2]; unfold csiD; rw [if_neg e65, if_neg e66, if_neg e67, if_neg e68, if_neg e71, if_neg e100, if_neg e7, if_neg e74, if_neg e75, if_neg e88, if_neg e64, if_neg e80, if_pos e76]; unfold linesD; rw [if_pos hwi]; show _ = ({ rollD r18.dat r18.Y r18.Bot (-argI l 0 1) with X := 0, Wrap := false } : ScrD); rw [← hrl]; rfl
          ·refine WL.st tbk hs157 0 rfl rfl (fun _ hs174 => ?_)
           refine WL.nil ⟨hs174.d1, ?_⟩
           refine WH.rn [1] hs174.d1 [1] rfl rfl ?_
           refine WH.take 5 rfl (by kernel_rfl) rfl rfl rfl hs174.d1 (fun w_ hs_ => (Run.nilCheck rfl rfl)) ?_
           refine WH.rn [6] hs174.d1 [] rfl rfl ?_
           refine WH.o1 7 rfl ?_
           refine WL.st tbk hs174 0 rfl rfl (fun _ hs175 => ?_)
           refine WL.nil ⟨hs175.d1, ?_⟩
           refine WH.dn ?_
           refine ibN ?_
           refine retK0 rfl ?_
           obtain ⟨L176, L177, L178, L179, hs184, ho180, ho181, ho182, ho183⟩ := ownScrR.open_ (hs175.fr L153) ho154
           have hs185 := (((hs184.fb b2).fb b146).fb b_s)
           obtain ⟨L187, hs186, ho188⟩ := ownScrR.fl ((((hs185.fr L179).fr L178).fr L177).fr L176) ho180 ho181 ho182 ho183
           have hs189 := (((hs186.fb b2).fb b146).fb b_s)
           refine ⟨⟨r152.W, r152.H, ⟨r152.Main.W, r152.Main.H, SlD.of ho180⟩, ⟨r152.Alt.W, r152.Alt.H, SlD.of ho181⟩, r152.OnAlt, (0), r152.Y, false, ⟨r152.A.Fg, r152.A.Bg, r152.A.Bold, r152.A.Under, r152.A.Turn⟩, r152.Top, r152.Bot, r152.NoWrap, r152.Hide, r152.SaveX, r152.SaveY, ⟨r152.SaveA.Fg, r152.SaveA.Bg, r152.SaveA.Bold, r152.SaveA.Under, r152.SaveA.Turn⟩, SlD.of ho182, r152.Limit, SlD.ofN ho183⟩, _, rfl, St.keepP (L1 := L187) ((hs189.fr L187).fb b_s), (by exact ho188), ?_⟩
           · rw [← hr2]; unfold csiD; rw [if_neg e65, if_neg e66, if_neg e67, if_neg e68, if_neg e71, if_neg e100, if_neg e7, if_neg e74, if_neg e75, if_neg e88, if_neg e64, if_neg e80, if_pos e76]; unfold linesD; rw [if_pos hwi]; show _ = ({ rollD r18.dat r18.Y r18.Bot (-argI l 0 1) with X := 0, Wrap := false } : ScrD); rw [← hrl]; rfl
         ·refine WL.mapPut hs147 0 rfl Tryz.underlying230 Tryz.underlying4 rfl rfl rfl rfl rfl rfl rfl ?_ ?_ (fun whs190 hs190 => ?_)
          · trivial
          · rfl
          refine WL.nil ⟨hs190.d1, ?_⟩
          refine WG.o1 12 rfl rfl ?_
          refine WL.mapPut hs190 0 rfl Tryz.underlying230 Tryz.underlying4 rfl rfl rfl rfl rfl rfl rfl ?_ ?_ (fun whs191 hs191 => ?_)
          · trivial
          · rfl
          refine WL.nil ⟨hs191.d1, ?_⟩
          refine WG.rn [15] hs191.d1 [] rfl rfl ?_
          refine WG.o1 18 rfl rfl ?_
          refine WL.val rfl rfl rfl (Run.mapGet (v := i64 (-argI l 0 1)) Tryz.underlying230 Tryz.underlying4 rfl rfl rfl (hs191.own _ (nthL_mem (i := 0) rfl)).1 ?_ ?_) ?_
          · trivial
          · rw [show decide (b = 76) = true from decide_eq_true e76]; exact ⟨_, rfl⟩
          refine WL.nil ⟨hs191.d1, ?_⟩
          refine WG.oK rfl ?_
          have hF192 : St _ _ ((_, _) :: (L19 ++ _)) _ := ((hs191.fr L19).fb b_s)
          refine WL.cl Tryz.call210 rfl (c_impl_Scr_roll _ r18 _ _ _ _ _ (St.headP hF192) ho20 (St.ownP hF192) (St.nodupP hF192) ?_ ?_ ?_ ?_) ?_
          · first | (first | assumption | rfl | omega) | (first | assumption | omega | (refine ⟨?_, ?_, ?_, ?_⟩ <;> omega) | (constructor <;> omega))
          · first | (first | assumption | rfl | omega) | (first | assumption | omega | (refine ⟨?_, ?_, ?_, ?_⟩ <;> omega) | (constructor <;> omega))
          · first | (first | assumption | rfl | omega) | (first | assumption | omega | (refine ⟨?_, ?_, ?_, ?_⟩ <;> omega) | (constructor <;> omega))
          · first | (first | assumption | rfl | omega) | (first | assumption | omega | (refine ⟨?_, ?_, ?_, ?_⟩ <;> omega) | (constructor <;> omega))
          rintro _ whs193 ⟨r194, L195, rfl, hs193, ho196, hd197⟩
          replace hs193 := St.lendP hF192 hs193
          refine ⟨_, rfl, ?_⟩
          have hs198 := (((hs193.fb b2).fb b146).fb b_s)
          have hrl := hd197
          refine WL.nil ⟨(hs198.d1.d1.rm L195), ?_⟩
          refine WH.dn ?_
          refine hK144 _ _ ?_
          refine WC.rG 4 hs198.d1 hs198 hs198 (fun _ hs199 => ?_)
          refine WG.rn [0] hs199 [2] rfl rfl ?_
          refine WG.tk 2 rfl (by kernel_rfl) rfl rfl rfl hs199 (fun w_ hs_ => (Run.nilCheck rfl rfl)) ?_
          refine WG.rn [3] hs199 [] rfl rfl ?_
          refine WG.all [1, 4] (by kernel_rfl) rfl (WGs.cons (i := 1) rfl rfl ?_ (WGs.consK rfl ?_ WGs.nil))
          ·refine WL.r 1 hs199 [2] rfl ?_
           refine WL.nil ⟨hs199, ?_⟩
           refine WG.oK rfl ?_
           refine WL.st tbk hs199 0 rfl rfl (fun _ hs200 => ?_)
           refine WL.nil ⟨hs200.d1, ?_⟩
           refine WH.take 5 rfl (by kernel_rfl) rfl rfl rfl hs200.d1 (fun w_ hs_ => (Run.nilCheck rfl rfl)) ?_
           refine WH.rn [6] hs200.d1 [] rfl rfl ?_
           refine WH.o1 7 rfl ?_
           refine WL.st tbk hs200 0 rfl rfl (fun _ hs201 => ?_)
           refine WL.nil ⟨hs201.d1, ?_⟩
           refine WH.dn ?_
           refine ibN ?_
           refine retK0 rfl ?_
           obtain ⟨L202, L203, L204, L205, hs210, ho206, ho207, ho208, ho209⟩ := ownScrR.open_ (hs201.fr L195) ho196
           have hs211 := (((hs210.fb b2).fb b146).fb b_s)
           obtain ⟨L213, hs212, ho214⟩ := ownScrR.fl ((((hs211.fr L205).fr L204).fr L203).fr L202) ho206 ho207 ho208 ho209
           have hs215 := (((hs212.fb b2).fb b146).fb b_s)
           refine ⟨⟨r194.W, r194.H, ⟨r194.Main.W, r194.Main.H, SlD.of ho206⟩, ⟨r194.Alt.W, r194.Alt.H, SlD.of ho207⟩, r194.OnAlt, (0), r194.Y, false, ⟨r194.A.Fg, r194.A.Bg, r194.A.Bold, r194.A.Under, r194.A.Turn⟩, r194.Top, r194.Bot, r194.NoWrap, r194.Hide, r194.SaveX, r194.SaveY, ⟨r194.SaveA.Fg, r194.SaveA.Bg, r194.SaveA.Bold, r194.SaveA.Under, r194.SaveA.Turn⟩, SlD.of ho208, r194.Limit, SlD.ofN ho209⟩, _, rfl, St.keepP (L1 := L213) ((hs215.fr L213).fb b_s), (by exact ho214), ?_⟩
           · rw [← hr2]; unfold csiD; rw [if_neg e65, if_neg e66, if_neg e67, if_neg e68, if_neg e71, if_neg e100, if_neg e7, if_neg e74, if_neg e75, if_neg e88, if_neg e64, if_neg e80, if_pos e76]; unfold linesD; rw [if_pos hwi]; show _ = ({ rollD r18.dat r18.Y r18.Bot (-argI l 0 1) with X := 0, Wrap := false } : ScrD); rw [← hrl]; rfl
          ·refine WL.st tbk hs199 0 rfl rfl (fun _ hs216 => ?_)
           refine WL.nil ⟨hs216.d1, ?_⟩
           refine WH.rn [1] hs216.d1 [1] rfl rfl ?_
           refine WH.take 5 rfl (by kernel_rfl) rfl rfl rfl hs216.d1 (fun w_ hs_ => (Run.nilCheck rfl rfl)) ?_
           refine WH.rn [6] hs216.d1 [] rfl rfl ?_
           refine WH.o1 7 rfl ?_
           refine WL.st tbk hs216 0 rfl rfl (fun _ hs217 => ?_)
           refine WL.nil ⟨hs217.d1, ?_⟩
           refine WH.dn ?_
           refine ibN ?_
           refine retK0 rfl ?_
           obtain ⟨L218, L219, L220, L221, hs226, ho222, ho223, ho224, ho225⟩ := ownScrR.open_ (hs217.fr L195) ho196
           have hs227 := (((hs226.fb b2).fb b146).fb b_s)
           obtain ⟨L229, hs228, ho230⟩ := ownScrR.fl ((((hs227.fr L221).fr L220).fr L219).fr L218) ho222 ho223 ho224 ho225
           have hs231 := (((hs228.fb b2).fb b146).fb b_s)
           refine ⟨⟨r194.W, r194.H, ⟨r194.Main.W, r194.Main.H, SlD.of ho222⟩, ⟨r194.Alt.W, r194.Alt.H, SlD.of ho223⟩, r194.OnAlt, (0), r194.Y, false, ⟨r194.A.Fg, r194.A.Bg, r194.A.Bold, r194.A.Under, r194.A.Turn⟩, r194.Top, r194.Bot, r194.NoWrap, r194.Hide, r194.SaveX, r194.SaveY, ⟨r194.SaveA.Fg, r194.SaveA.Bg, r194.SaveA.Bold, r194.SaveA.Under, r194.SaveA.Turn⟩, SlD.of ho224, r194.Limit, SlD.ofN ho225⟩, _, rfl, St.keepP (L1 := L229) ((hs231.fr L229).fb b_s), (by exact ho230), ?_⟩
           · rw [← hr2]; unfold csiD; rw [if_neg e65, if_neg e66, if_neg e67, if_neg e68, if_neg e71, if_neg e100, if_neg e7, if_neg e74, if_neg e75, if_neg e88, if_neg e64, if_neg e80, if_pos e76]; unfold linesD; rw [if_pos hwi]; show _ = ({ rollD r18.dat r18.Y r18.Bot (-argI l 0 1) with X := 0, Wrap := false } : ScrD); rw [← hrl]; rfl
        ·have hwi : ¬ within r18.dat.Y r18.dat.Top r18.dat.Bot = true := by have h9 := h143; show ¬ within r18.Y r18.Top r18.Bot = true; rw [h9]; decide
         refine WC.skip ?_
         refine ibN ?_
         refine retK0 rfl ?_
         refine ⟨r18, _, rfl, St.keepP (L1 := L19) ((hs142.fr L19).fb b_s), ho20, ?_⟩
         · rw [← hr2]; unfold csiD; rw [if_neg e65, if_neg e66, if_neg e67, if_neg e68, if_neg e71, if_neg e100, if_neg e7, if_neg e74, if_neg e75, if_neg e88, if_neg e64, if_neg e80, if_pos e76]; unfold linesD; rw [if_neg hwi]
       ·have e76 : ¬ b = 76 := by have h9 := h140; simpa using h9
        refine WC.region ?_
        refine WL.r 2 hs24 [] rfl ?_
        refine WL.nil ?_
        refine hK139 _ _ ?_
        refine WC.cq rfl (fun h232 qh232 => ?_) (fun h232 qh232 => ?_)
        ·have e77 : b = 77 := by have h9 := h232; simpa using h9
         refine WC.sq1 hs24 ?_
         refine WQ.r 1 [1] rfl ?_
         refine WQ.val rfl rfl rfl (fun w_ hs_ => (Run.nilCheck rfl rfl)) ?_
         refine WQ.r 3 [0, 1] rfl ?_
         refine WQ.val rfl rfl rfl (fun w_ hs_ => (Run.nilCheck rfl rfl)) ?_
         refine WQ.r 3 [0, 1] rfl ?_
         refine WQ.val rfl rfl rfl (fun w_ hs_ => (Run.nilCheck rfl rfl)) ?_
         refine WQ.r 2 [0] rfl ?_
         refine WQ.call rfl rfl rfl (fun w_ hs_ => (Run.call Tryz.call97 rfl rfl rfl)) (fun w_ hs_ => (c_impl_within _ _ _ _).mono fun e_ w_ h_ => ⟨h_.1, (hs_ : St _ _ _ _).call0 h_.2⟩) ?_
         refine WQ.nil (fun _ (hs233 : St _ _ _ _) => ?_)
         refine WC.cq rfl (fun h234 qh234 => ?_) (fun h234 qh234 => ?_)
         ·have hwi : within r18.dat.Y r18.dat.Top r18.dat.Bot = true := h234
          have hwj := within_iff.1 hwi
          have htl : 0 ≤ r18.Y ∧ r18.Y ≤ r18.Bot ∧ r18.Bot < (shownD r18.dat).H := by rw [hsh2.2]; simp only [ScrR.dat] at hwj; omega
          refine WC.seq (fun K235 hK235 => ?_)
          refine WC.rG 19 (hs233.d1.rm L19) hs233 hs233 (fun _ hs236 => ?_)
          refine WG.rn [0, 1] hs236 [1, 1] rfl rfl ?_
          refine WG.tk 2 rfl (by kernel_rfl) rfl rfl rfl hs236 (fun w_ hs_ => (Run.nilCheck rfl rfl)) ?_
          refine WG.rn [3, 4, 5] hs236 [0, 1] rfl rfl ?_
          refine WG.tk 6 rfl (by kernel_rfl) rfl rfl rfl hs236 (fun w_ hs_ => (Run.nilCheck rfl rfl)) ?_
          refine WG.rn [7, 8, 10, 11, 13, 16, 17] hs236 [0] rfl rfl ?_
          refine WG.o1 9 rfl rfl ?_
          refine WL.makeMap hs236 rfl rfl rfl rfl (fun b237 whs238 hs238 => ?_)
          refine WL.nil ⟨hs238.d1, ?_⟩
          refine WG.all [12, 14] (by kernel_rfl) rfl (WGs.cons (i := 12) rfl rfl ?_ (WGs.cons (i := 14) rfl rfl ?_ WGs.nil))
          ·refine WL.mapPut hs238 0 rfl Tryz.underlying230 Tryz.underlying4 rfl rfl rfl rfl rfl rfl rfl ?_ ?_ (fun whs239 hs239 => ?_)
           · trivial
           · rfl
           refine WL.nil ⟨hs239.d1, ?_⟩
           refine WG.o1 14 rfl rfl ?_
           refine WL.mapPut hs239 0 rfl Tryz.underlying230 Tryz.underlying4 rfl rfl rfl rfl rfl rfl rfl ?_ ?_ (fun whs240 hs240 => ?_)
           · trivial
           · rfl
           refine WL.nil ⟨hs240.d1, ?_⟩
           refine WG.rn [15] hs240.d1 [] rfl rfl ?_
           refine WG.o1 18 rfl rfl ?_
           refine WL.val rfl rfl rfl (Run.mapGet (v := i64 (argI l 0 1)) Tryz.underlying230 Tryz.underlying4 rfl rfl rfl (hs240.own _ (nthL_mem (i := 0) rfl)).1 ?_ ?_) ?_
           · trivial
           · rw [show decide (b = 76) = false from decide_eq_false e76]; exact ⟨_, rfl⟩
           refine WL.nil ⟨hs240.d1, ?_⟩
           refine WG.oK rfl ?_
           have hF241 : St _ _ ((_, _) :: (L19 ++ _)) _ := ((hs240.fr L19).fb b_s)
           refine WL.cl Tryz.call210 rfl (c_impl_Scr_roll _ r18 _ _ _ _ _ (St.headP hF241) ho20 (St.ownP hF241) (St.nodupP hF241) ?_ ?_ ?_ ?_) ?_
           · first | (first | assumption | rfl | omega) | (first | assumption | omega | (refine ⟨?_, ?_, ?_, ?_⟩ <;> omega) | (constructor <;> omega))
           · first | (first | assumption | rfl | omega) | (first | assumption | omega | (refine ⟨?_, ?_, ?_, ?_⟩ <;> omega) | (constructor <;> omega))
           · first | (first | assumption | rfl | omega) | (first | assumption | omega | (refine ⟨?_, ?_, ?_, ?_⟩ <;> omega) | (constructor <;> omega))
           · first | (first | assumption | rfl | omega) | (first | assumption | omega | (refine ⟨?_, ?_, ?_, ?_⟩ <;> omega) | (constructor <;> omega))
           rintro _ whs242 ⟨r243, L244, rfl, hs242, ho245, hd246⟩
           replace hs242 := St.lendP hF241 hs242
           refine ⟨_, rfl, ?_⟩
           have hs247 := (((hs242.fb b2).fb b237).fb b_s)
           have hrl := hd246
           refine WL.nil ⟨(hs247.d1.d1.rm L244), ?_⟩
           refine WH.dn ?_
           refine hK235 _ _ ?_
           refine WC.rG 4 hs247.d1 hs247 hs247 (fun _ hs248 => ?_)
           refine WG.rn [0] hs248 [2] rfl rfl ?_
           refine WG.tk 2 rfl (by kernel_rfl) rfl rfl rfl hs248 (fun w_ hs_ => (Run.nilCheck rfl rfl)) ?_
           refine WG.rn [3] hs248 [] rfl rfl ?_
           refine WG.all [1, 4] (by kernel_rfl) rfl (WGs.cons (i := 1) rfl rfl ?_ (WGs.consK rfl ?_ WGs.nil))
           ·refine WL.r 1 hs248 [2] rfl ?_
            refine WL.nil ⟨hs248, ?_⟩
            refine WG.oK rfl ?_
            refine WL.st tbk hs248 0 rfl rfl (fun _ hs249 => ?_)
            refine WL.nil ⟨hs249.d1, ?_⟩
            refine WH.take 5 rfl (by kernel_rfl) rfl rfl rfl hs249.d1 (fun w_ hs_ => (Run.nilCheck rfl rfl)) ?_
            refine WH.rn [6] hs249.d1 [] rfl rfl ?_
            refine WH.o1 7 rfl ?_
            refine WL.st tbk hs249 0 rfl rfl (fun _ hs250 => ?_)
            refine WL.nil ⟨hs250.d1, ?_⟩
            refine WH.dn ?_
            refine ibN ?_
            refine retK0 rfl ?_
            obtain ⟨L251, L252, L253, L254, hs259, ho255, ho256, ho257, ho258⟩ := ownScrR.open_ (hs250.fr L244) ho245
            have hs260 := (((hs259.fb b2).fb b237).fb b_s)
            obtain ⟨L262, hs261, ho263⟩ := ownScrR.fl ((((hs260.fr L254).fr L253).fr L252).fr L251) ho255 ho256 ho257 ho258
            have hs264 := (((hs261.fb b2).fb b237).fb b_s)
            refine ⟨⟨r243.W, r243.H, ⟨r243.Main.W, r243.Main.H, SlD.of ho255⟩, ⟨r243.Alt.W, r243.Alt.H, SlD.of ho256⟩, r243.OnAlt, (0), r243.Y, false, ⟨r243.A.Fg, r243.A.Bg, r243.A.Bold, r243.A.Under, r243.A.Turn⟩, r243.Top, r243.Bot, r243.NoWrap, r243.Hide, r243.SaveX, r243.SaveY, ⟨r243.SaveA.Fg, r243.SaveA.Bg, r243.SaveA.Bold, r243.SaveA.Under, r243.SaveA.Turn⟩, SlD.of ho257, r243.Limit, SlD.ofN ho258⟩, _, rfl, St.keepP (L1 := L262) ((hs264.fr L262).fb b_s), (by exact ho263), ?_⟩
            · rw [← hr2]; unfold csiD; rw [if_neg e65, if_neg e66, if_neg e67, if_neg e68, if_neg e71, if_neg e100, if_neg e7, if_neg e74, if_neg e75, if_neg e88, if_neg e64, if_neg e80, if_neg e76, if_pos e77]; unfold linesD; rw [if_pos hwi]; show _ = ({ rollD r18.dat r18.Y r18.Bot (argI l 0 1) with X := 0, Wrap := false } : ScrD); rw [← hrl]; rfl
           ·refine WL.st tbk hs248 0 rfl rfl (fun _ hs265 => ?_)
            refine WL.nil ⟨hs265.d1, ?_⟩
            refine WH.rn [1] hs265.d1 [1] rfl rfl ?_
            refine WH.take 5 rfl (by kernel_rfl) rfl rfl rfl hs265.d1 (fun w_ hs_ => (Run.nilCheck rfl rfl)) ?_
            refine WH.rn [6] hs265.d1 [] rfl rfl ?_
            refine WH.o1 7 rfl ?_
            refine WL.st tbk hs265 0 rfl rfl (fun _ hs266 => ?_)
            refine WL.nil ⟨hs266.d1, ?_⟩
            refine WH.dn ?_
            refine ibN ?_
            refine retK0 rfl ?_
            obtain ⟨L267, L268, L269, L270, hs275, ho271, ho272, ho273, ho274⟩ := ownScrR.open_ (hs266.fr L244) ho245
            have hs276 := (((hs275.fb b2).fb b237).fb b_s)
            obtain ⟨L278, hs277, ho279⟩ := ownScrR.fl ((((hs276.fr L270).fr L269).fr L268).fr L267) ho271 ho272 ho273 ho274
            have hs280 := (((hs277.fb b2).fb b237).fb b_s)
            refine ⟨⟨r243.W, r243.H, ⟨r243.Main.W, r243.Main.H, SlD.of ho271⟩, ⟨r243.Alt.W, r243.Alt.H, SlD.of ho272⟩, r243.OnAlt, (0), r243.Y, false, ⟨r243.A.Fg, r243.A.Bg, r243.A.Bold, r243.A.Under, r243.A.Turn⟩, r243.Top, r243.Bot, r243.NoWrap, r243.Hide, r243.SaveX, r243.SaveY, ⟨r243.SaveA.Fg, r243.SaveA.Bg, r243.SaveA.Bold, r243.SaveA.Under, r243.SaveA.Turn⟩, SlD.of ho273, r243.Limit, SlD.ofN ho274⟩, _, rfl, St.keepP (L1 := L278) ((hs280.fr L278).fb b_s), (by exact ho279), ?_⟩
            · rw [← hr2]; unfold csiD; rw [if_neg e65, if_neg e66, if_neg e67, if_neg e68, if_neg e71, if_neg e100, if_neg e7, if_neg e74, if_neg e75, if_neg e88, if_neg e64, if_neg e80, if_neg e76, if_pos e77]; unfold linesD; rw [if_pos hwi]; show _ = ({ rollD r18.dat r18.Y r18.Bot (argI l 0 1) with X := 0, Wrap := false } : ScrD); rw [← hrl]; rfl
          ·refine WL.mapPut hs238 0 rfl Tryz.underlying230 Tryz.underlying4 rfl rfl rfl rfl rfl rfl rfl ?_ ?_ (fun whs281 hs281 => ?_)
           · trivial
           · rfl
           refine WL.nil ⟨hs281.d1, ?_⟩
           refine WG.o1 12 rfl rfl ?_
           refine WL.mapPut hs281 0 rfl Tryz.underlying230 Tryz.underlying4 rfl rfl rfl rfl rfl rfl rfl ?_ ?_ (fun whs282 hs282 => ?_)
           · trivial
           · rfl
           refine WL.nil ⟨hs282.d1, ?_⟩
           refine WG.rn [15] hs282.d1 [] rfl rfl ?_
           refine WG.o1 18 rfl rfl ?_
           refine WL.val rfl rfl rfl (Run.mapGet (v := i64 (argI l 0 1)) Tryz.underlying230 Tryz.underlying4 rfl rfl rfl (hs282.own _ (nthL_mem (i := 0) rfl)).1 ?_ ?_) ?_
           · trivial
           · rw [show decide (b = 76) = false from decide_eq_false e76]; exact ⟨_, rfl⟩
           refine WL.nil ⟨hs282.d1, ?_⟩
           refine WG.oK rfl ?_
           have hF283 : St _ _ ((_, _) :: (L19 ++ _)) _ := ((hs282.fr L19).fb b_s)
           refine WL.cl Tryz.call210 rfl (c_impl_Scr_roll _ r18 _ _ _ _ _ (St.headP hF283) ho20 (St.ownP hF283) (St.nodupP hF283) ?_ ?_ ?_ ?_) ?_
           · first | (first | assumption | rfl | omega) | (first | assumption | omega | (refine ⟨?_, ?_, ?_, ?_⟩ <;> omega) | (constructor <;> omega))
           · first | (first | assumption | rfl | omega) | (first | assumption | omega | (refine ⟨?_, ?_, ?_, ?_⟩ <;> omega) | (constructor <;> omega))
           · first | (first | assumption | rfl | omega) | (first | assumption | omega | (refine ⟨?_, ?_, ?_, ?_⟩ <;> omega) | (constructor <;> omega))
           · first | (first | assumption | rfl | omega) | (first | assumption | omega | (refine ⟨?_, ?_, ?_, ?_⟩ <;> omega) | (constructor <;> omega))
           rintro _ whs284 ⟨r285, L286, rfl, hs284, ho287, hd288⟩
           replace hs284 := St.lendP hF283 hs284
           refine ⟨_, rfl, ?_⟩
           have hs289 := (((hs284.fb b2).fb b237).fb b_s)
           have hrl := hd288
           refine WL.nil ⟨(hs289.d1.d1.rm L286), ?_⟩
           refine WH.dn ?_
           refine hK235 _ _ ?_
           refine WC.rG 4 hs289.d1 hs289 hs289 (fun _ hs290 => ?_)
           refine WG.rn [0] hs290 [2] rfl rfl ?_
           refine WG.tk 2 rfl (by kernel_rfl) rfl rfl rfl hs290 (fun w_ hs_ => (Run.nilCheck rfl rfl)) ?_
           refine WG.rn [3] hs290 [] rfl rfl ?_
           refine WG.all [1, 4] (by kernel_rfl) rfl (WGs.cons (i := 1) rfl rfl ?_ (WGs.consK rfl ?_ WGs.nil))
           ·refine WL.r 1 hs290 [2] rfl ?_
            refine WL.nil ⟨hs290, ?_⟩
            refine WG.oK rfl ?_
            refine WL.st tbk hs290 0 rfl rfl (fun _ hs291 => ?_)
            refine WL.nil ⟨hs291.d1, ?_⟩
            refine WH.take 5 rfl (by kernel_rfl) rfl rfl rfl hs291.d1 (fun w_ hs_ => (Run.nilCheck rfl rfl)) ?_
            refine WH.rn [6] hs291.d1 [] rfl rfl ?_
            refine WH.o1 7 rfl ?_
            refine WL.st tbk hs291 0 rfl rfl (fun _ hs292 => ?_)
            refine WL.nil ⟨hs292.d1, ?_⟩
            refine WH.dn ?_
            refine ibN ?_
            refine retK0 rfl ?_
            obtain ⟨L293, L294, L295, L296, hs301, ho297, ho298, ho299, ho300⟩ := ownScrR.open_ (hs292.fr L286) ho287
            have hs302 := (((hs301.fb b2).fb b237).fb b_s)
            obtain ⟨L304, hs303, ho305⟩ := ownScrR.fl ((((hs302.fr L296).fr L295).fr L294).fr L293) ho297 ho298 ho299 ho300
            have hs306 := (((hs303.fb b2).fb b237).fb b_s)
            refine ⟨⟨r285.W, r285.H, ⟨r285.Main.W, r285.Main.H, SlD.of ho297⟩, ⟨r285.Alt.W, r285.Alt.H, SlD.of ho298⟩, r285.OnAlt, (0), r285.Y, false, ⟨r285.A.Fg, r285.A.Bg, r285.A.Bold, r285.A.Under, r285.A.Turn⟩, r285.Top, r285.Bot, r285.NoWrap, r285.Hide, r285.SaveX, r285.SaveY, ⟨r285.SaveA.Fg, r285.SaveA.Bg, r285.SaveA.Bold, r285.SaveA.Under, r285.SaveA.Turn⟩, SlD.of ho299, r285.Limit, SlD.ofN ho300⟩, _, rfl, St.keepP (L1 := L304) ((hs306.fr L304).fb b_s), (by exact ho305), ?_⟩
            · rw [← hr2]; unfold csiD; rw [if_neg e65, if_neg e66, if_neg e67, if_neg e68, if_neg e71, if_neg e100, if_neg e7, if_neg e74, if_neg e75, if_neg e88, if_neg e64, if_neg e80, if_neg e76, if_pos e77]; unfold linesD; rw [if_pos hwi]; show _ = ({ rollD r18.dat r18.Y r18.Bot (argI l 0 1) with X := 0, Wrap := false } : ScrD); rw [← hrl]; rfl
           ·refine WL.st tbk hs290 0 rfl rfl (fun _ hs307 => ?_)
            refine WL.nil ⟨hs307.d1, ?_⟩
            refine WH.rn [1] hs307.d1 [1] rfl rfl ?_
            refine WH.take 5 rfl (by kernel_rfl) rfl rfl rfl hs307.d1 (fun w_ hs_ => (Run.nilCheck rfl rfl)) ?_
            refine WH.rn [6] hs307.d1 [] rfl rfl ?_
            refine WH.o1 7 rfl ?_
            refine WL.st tbk hs307 0 rfl rfl (fun _ hs308 => ?_)
            refine WL.nil ⟨hs308.d1, ?_⟩
            refine WH.dn ?_
            refine ibN ?_
            refine retK0 rfl ?_
            obtain ⟨L309, L310, L311, L312, hs317, ho313, ho314, ho315, ho316⟩ := ownScrR.open_ (hs308.fr L286) ho287
            have hs318 := (((hs317.fb b2).fb b237).fb b_s)
            obtain ⟨L320, hs319, ho321⟩ := ownScrR.fl ((((hs318.fr L312).fr L311).fr L310).fr L309) ho313 ho314 ho315 ho316
            have hs322 := (((hs319.fb b2).fb b237).fb b_s)
            refine ⟨⟨r285.W, r285.H, ⟨r285.Main.W, r285.Main.H, SlD.of ho313⟩, ⟨r285.Alt.W, r285.Alt.H, SlD.of ho314⟩, r285.OnAlt, (0), r285.Y, false, ⟨r285.A.Fg, r285.A.Bg, r285.A.Bold, r285.A.Under, r285.A.Turn⟩, r285.Top, r285.Bot, r285.NoWrap, r285.Hide, r285.SaveX, r285.SaveY, ⟨r285.SaveA.Fg, r285.SaveA.Bg, r285.SaveA.Bold, r285.SaveA.Under, r285.SaveA.Turn⟩, SlD.of ho315, r285.Limit, SlD.ofN ho316⟩, _, rfl, St.keepP (L1 := L320) ((hs322.fr L320).fb b_s), (by exact ho321), ?_⟩
            · rw [← hr2]; unfold csiD; rw [if_neg e65, if_neg e66, if_neg e67, if_neg e68, if_neg e71, if_neg e100, if_neg e7, if_neg e74, if_neg e75, if_neg e88, if_neg e64, if_neg e80, if_neg e76, if_pos e77]; unfold linesD; rw [if_pos hwi]; show _ = ({ rollD r18.dat r18.Y r18.Bot (argI l 0 1) with X := 0, Wrap := false } : ScrD); rw [← hrl]; rfl
         ·have hwi : ¬ within r18.dat.Y r18.dat.Top r18.dat.Bot = true := by have h9 := h234; show ¬ within r18.Y r18.Top r18.Bot = true; rw [h9]; decide
          refine WC.skip ?_
          refine ibN ?_
          refine retK0 rfl ?_
          refine ⟨r18, _, rfl, St.keepP (L1 := L19) ((hs233.fr L19).fb b_s), ho20, ?_⟩
          · rw [← hr2]; unfold csiD; rw [if_neg e65, if_neg e66, if_neg e67, if_neg e68, if_neg e71, if_neg e100, if_neg e7, if_neg e74, if_neg e75, if_neg e88, if_neg e64, if_neg e80, if_neg e76, if_pos e77]; unfold linesD; rw [if_neg hwi]
        ·have e77 : ¬ b = 77 := by have h9 := h232; simpa using h9
         refine WC.r1 hs24 [] rfl ?_
         refine WC.cq rfl (fun h323 qh323 => ?_) (fun h323 qh323 => ?_)
         ·have e83 : b = 83 := by have h9 := h323; simpa using h9
          refine WC.region ?_
          refine WL.r 2 hs24 [1] rfl ?_
          have hF324 : St _ _ ((_, _) :: (L19 ++ _)) _ := ((hs24.fr L19).fb b_s)
          refine WL.cl Tryz.call209 rfl (c_impl_Scr_rollUp _ r18 _ _ _ (St.headP hF324) ho20 (St.ownP hF324) (St.nodupP hF324) ?_ ?_ ?_) ?_
          · first | (first | assumption | rfl | omega) | (first | assumption | omega | (refine ⟨?_, ?_, ?_, ?_⟩ <;> omega) | (constructor <;> omega))
          · first | (first | assumption | rfl | omega) | (first | assumption | omega | (refine ⟨?_, ?_, ?_, ?_⟩ <;> omega) | (constructor <;> omega))
          · first | (first | assumption | rfl | omega) | (first | assumption | omega | (refine ⟨?_, ?_, ?_, ?_⟩ <;> omega) | (constructor <;> omega))
          rintro _ whs325 ⟨r326, L327, rfl, hs325, ho328, hd329⟩
          replace hs325 := St.lendP hF324 hs325
          refine ⟨_, rfl, ?_⟩
          have hs330 := ((hs325.fb b2).fb b_s)
          refine WL.nil ?_
          refine ibN ?_
          refine retK0 rfl ?_
          refine ⟨r326, _, rfl, St.keepP (L1 := L327) ((hs330.fr L327).fb b_s), ho328, ?_⟩
          · rw [← hr2]; unfold csiD; rw [if_neg e65, if_neg e66, if_neg e67, if_neg e68, if_neg e71, if_neg e100, if_neg e7, if_neg e74, if_neg e75, if_neg e88, if_neg e64, if_neg e80, if_neg e76, if_neg e77, if_pos e83]; exact hd329
         ·have e83 : ¬ b = 83 := by have h9 := h323; simpa using h9
          refine WC.r1 hs24 [] rfl ?_
          refine WC.cq rfl (fun h331 qh331 => ?_) (fun h331 qh331 => ?_)
          ·have e84 : b = 84 := by have h9 := h331; simpa using h9
           refine WC.rG 11 (hs24.d1.rm L19) hs24 hs24 (fun _ hs332 => ?_)
           refine WG.rn [0, 1] hs332 [1, 1] rfl rfl ?_
           refine WG.tk 2 rfl (by kernel_rfl) rfl rfl rfl hs332 (fun w_ hs_ => (Run.nilCheck rfl rfl)) ?_
           refine WG.rn [3, 4, 5] hs332 [0, 1] rfl rfl ?_
           refine WG.tk 6 rfl (by kernel_rfl) rfl rfl rfl hs332 (fun w_ hs_ => (Run.nilCheck rfl rfl)) ?_
           refine WG.rn [7, 8, 9, 10] hs332 [0] rfl rfl ?_
           refine WG.oK rfl ?_
           have hF333 : St _ _ ((_, _) :: (L19 ++ _)) _ := ((hs332.fr L19).fb b_s)
           refine WL.cl Tryz.call210 rfl (c_impl_Scr_roll _ r18 _ _ _ _ _ (St.headP hF333) ho20 (St.ownP hF333) (St.nodupP hF333) ?_ ?_ ?_ ?_) ?_
           · first | (first | assumption | rfl | omega) | (first | assumption | omega | (refine ⟨?_, ?_, ?_, ?_⟩ <;> omega) | (constructor <;> omega))
           · first | (first | assumption | rfl | omega) | (first | assumption | omega | (refine ⟨?_, ?_, ?_, ?_⟩ <;> omega) | (constructor <;> omega))
           · first | (first | assumption | rfl | omega) | (first | assumption | omega | (refine ⟨?_, ?_, ?_, ?_⟩ <;> omega) | (constructor <;> omega))
           · first | (first | assumption | rfl | omega) | (first | assumption | omega | (refine ⟨?_, ?_, ?_, ?_⟩ <;> omega) | (constructor <;> omega))
           rintro _ whs334 ⟨r335, L336, rfl, hs334, ho337, hd338⟩
           replace hs334 := St.lendP hF333 hs334
           refine ⟨_, rfl, ?_⟩
           have hs339 := ((hs334.fb b2).fb b_s)
           refine WL.nil ⟨(hs339.d1.rm L336), ?_⟩
           refine WH.dn ?_
           refine ibN ?_
           refine retK0 rfl ?_
           refine ⟨r335, _, rfl, St.keepP (L1 := L336) ((hs339.fr L336).fb b_s), ho337, ?_⟩
           · rw [← hr2]; unfold csiD; rw [if_neg e65, if_neg e66, if_neg e67, if_neg e68, if_neg e71, if_neg e100, if_neg e7, if_neg e74, if_neg e75, if_neg e88, if_neg e64, if_neg e80, if_neg e76, if_neg e77, if_neg e83, if_pos e84]; exact hd338
          ·have e84 : ¬ b = 84 := by have h9 := h331; simpa using h9
           refine WC.r1 hs24 [] rfl ?_
           refine WC.cq rfl (fun h340 qh340 => ?_) (fun h340 qh340 => ?_)
           ·have e109 : b = 109 := by have h9 := h340; simpa using h9
            refine WC.rG 9 hs24.d1 hs24 hs24 (fun _ hs341 => ?_)
            refine WG.rn [0, 1] hs341 [1, 1] rfl rfl ?_
            refine WG.tk 2 rfl (by kernel_rfl) rfl rfl rfl hs341 (fun w_ hs_ => (Run.nilCheck rfl rfl)) ?_
            refine WG.rn [3, 4, 5] hs341 [0] rfl rfl ?_
            refine WG.o1 6 rfl rfl ?_
            refine WL.cl Tryz.call238 rfl (c_impl_Sgr _ _ _ _ _ _ _ _ _ _ (SlF.st f_l hs341 s_l) ?_ ?_) ?_
            · first | (first | assumption | rfl | omega) | (first | assumption | omega | (refine ⟨?_, ?_, ?_, ?_⟩ <;> omega) | (constructor <;> omega))
            · first | (first | assumption | rfl | omega) | (first | assumption | omega | (refine ⟨?_, ?_, ?_, ?_⟩ <;> omega) | (constructor <;> omega))
            rintro _ whs342 ⟨r343, rfl, hs342, hr344⟩
            replace hs342 := hs341.callF hs342
            refine ⟨_, rfl, ?_⟩
            rw [List.nil_append] at hs342
            replace hs342 := St.perm hs342 (L' := [_, _] ++ _) pR
            have hsg : r343 = sgrRes r18.A l := hr344
            refine WL.nil ⟨hs342, ?_⟩
            refine WG.tk 7 rfl (by kernel_rfl) rfl rfl rfl hs342 (fun w_ hs_ => (Run.nilCheck rfl rfl)) ?_
            refine WG.rn [8] hs342 [] rfl rfl ?_
            refine WG.oK rfl ?_
            refine WL.st tbk hs342 0 rfl rfl (fun _ hs345 => ?_)
            refine WL.nil ⟨hs345.d1, ?_⟩
            refine WH.dn ?_
            refine ibN ?_
            refine retK0 rfl ?_
            obtain ⟨L346, L347, L348, L349, hs354, ho350, ho351, ho352, ho353⟩ := ownScrR.open_ (hs345.fr L19) ho20
            have hs355 := ((hs354.fb b2).fb b_s)
            obtain ⟨L357, hs356, ho358⟩ := ownScrR.fl ((((hs355.fr L349).fr L348).fr L347).fr L346) ho350 ho351 ho352 ho353
            have hs359 := ((hs356.fb b2).fb b_s)
            refine ⟨⟨r18.W, r18.H, ⟨r18.Main.W, r18.Main.H, SlD.of ho350⟩, ⟨r18.Alt.W, r18.Alt.H, SlD.of ho351⟩, r18.OnAlt, r18.X, r18.Y, r18.Wrap, ⟨r343.Fg, r343.Bg, r343.Bold, r343.Under, r343.Turn⟩, r18.Top, r18.Bot, r18.NoWrap, r18.Hide, r18.SaveX, r18.SaveY, ⟨r18.SaveA.Fg, r18.SaveA.Bg, r18.SaveA.Bold, r18.SaveA.Under, r18.SaveA.Turn⟩, SlD.of ho352, r18.Limit, SlD.ofN ho353⟩, _, rfl, St.keepP (L1 := L357) ((hs359.fr L357).fb b_s), (by exact ho358), ?_⟩
            · rw [← hr2]; unfold csiD; rw [if_neg e65, if_neg e66, if_neg e67, if_neg e68, if_neg e71, if_neg e100, if_neg e7, if_neg e74, if_neg e75, if_neg e88, if_neg e64, if_neg e80, if_neg e76, if_neg e77, if_neg e83, if_neg e84, if_pos e109]; show _ = ({ r18.dat with A := sgrRes r18.A l } : ScrD); rw [← hsg]; rfl
           ·have e109 : ¬ b = 109 := by have h9 := h340; simpa using h9
            refine WC.r1 hs24 [] rfl ?_
            refine WC.cq rfl (fun h360 qh360 => ?_) (fun h360 qh360 => ?_)
            ·have e114 : b = 114 := by have h9 := h360; simpa using h9
             refine WC.region ?_
             refine WL.r 3 hs24 [1] rfl ?_
             have hF361 : St _ _ ((_, _) :: (L19 ++ _)) _ := ((hs24.fr L19).fb b_s)
             refine WL.cl Tryz.call239 rfl (c_impl_Scr_region _ r18 _ _ _ _ _ _ _ (St.headP hF361) ho20 (St.ownP hF361) (SlF.st f_l hs24 s_l) (St.nodupP hF361) (St.sepTP hF361 f_l s_l) ?_ ?_ ?_ ?_) ?_
             · first | (first | assumption | rfl | omega) | (first | assumption | omega | (refine ⟨?_, ?_, ?_, ?_⟩ <;> omega) | (constructor <;> omega))
             · first | (first | assumption | rfl | omega) | (first | assumption | omega | (refine ⟨?_, ?_, ?_, ?_⟩ <;> omega) | (constructor <;> omega))
             · first | (first | assumption | rfl | omega) | (first | assumption | omega | (refine ⟨?_, ?_, ?_, ?_⟩ <;> omega) | (constructor <;> omega))
             · first | (first | assumption | rfl | omega) | (first | assumption | omega | (refine ⟨?_, ?_, ?_, ?_⟩ <;> omega) | (constructor <;> omega))
             rintro _ whs362 ⟨r363, L364, rfl, hs362, ho365, hd366⟩
             replace hs362 := St.lendP hF361 hs362
             refine ⟨_, rfl, ?_⟩
             have hs367 := ((hs362.fb b2).fb b_s)
             refine WL.nil ?_
             refine ibN ?_
             refine retK0 rfl ?_
             refine ⟨r363, _, rfl, St.keepP (L1 := L364) ((hs367.fr L364).fb b_s), ho365, ?_⟩
             · rw [← hr2]; unfold csiD; rw [if_neg e65, if_neg e66, if_neg e67, if_neg e68, if_neg e71, if_neg e100, if_neg e7, if_neg e74, if_neg e75, if_neg e88, if_neg e64, if_neg e80, if_neg e76, if_neg e77, if_neg e83, if_neg e84, if_neg e109, if_pos e114]; exact hd366
            ·have e114 : ¬ b = 114 := by have h9 := h360; simpa using h9
             refine WC.r1 hs24 [] rfl ?_
             refine WC.cq rfl (fun h368 qh368 => ?_) (fun h368 qh368 => ?_)
             ·have e103 : b = 103 := by have h9 := h368; simpa using h9
              refine WC.r1 hs24 [] rfl ?_
              refine WC.block ?_
              refine WC.r1 hs24 [] rfl ?_
              refine WC.cq rfl (fun h369 qh369 => ?_) (fun h369 qh369 => ?_)
              ·have ek0 : argI l 0 0 = 0 := by have h9 := h369; simpa using h9
               refine WC.rG 9 (hs24.d1.rm L19) (hs24.rm L19) hs24 (fun _ hs370 => ?_)
               refine WG.rn [0, 1] (hs370.rm L19) [1, 1] rfl rfl ?_
               refine WG.tk 2 rfl (by kernel_rfl) rfl rfl rfl (hs370.rm L19) (fun w_ hs_ => (Run.nilCheck rfl rfl)) ?_
               refine WG.rn [3, 4] (hs370.rm L19) [0] rfl rfl ?_
               refine WG.tk 5 rfl (by kernel_rfl) rfl rfl rfl (hs370.rm L19) (fun w_ hs_ => (Run.makeFunc rfl rfl)) ?_
               refine WG.o1 6 rfl rfl ?_
               obtain ⟨L372, L373, L374, L375, hs380, ho376, ho377, ho378, ho379⟩ := ownScrR.open_ (hs370.fr L19) ho20
               have hs381 := ((hs380.fb b2).fb b_s)
               refine WL.cl Tryz.call240 rfl (c_slices_DeleteFunc_int_int _ _ _ _ _ _ ho378 (hs381.ow L374) (fun w_ Lx_ hx_ m_ => c_impl_Scr_csi_1 b2 b_s r18 m_ w_ ((hx_.keep _ (lt_of_heap (hs381.own _ (nthL_mem (i := 1) rfl)).1) (St.sepOwn (hs381.fr L374) (nthL_mem (i := 1) rfl))).trans (hs381.own _ (nthL_mem (i := 1) rfl)).1) ((hx_.keep _ (lt_of_heap (hs381.own _ (nthL_mem (i := 0) rfl)).1) (St.sepOwn (hs381.fr L374) (nthL_mem (i := 0) rfl))).trans (hs381.own _ (nthL_mem (i := 0) rfl)).1) (St.neq hs381 (i := 1) (j := 0) rfl rfl (by decide))) ?_) ?_
               · first | (first | assumption | rfl | omega) | (first | assumption | omega | (refine ⟨?_, ?_, ?_, ?_⟩ <;> omega) | (constructor <;> omega))
               rintro _ whs371 ⟨A382, c383, n384, xs385, L1_386, rfl, hs371, ho387, hd388⟩
               replace hs371 := St.lend (hs381.fr L374) hs371
               refine ⟨_, rfl, ?_⟩
               replace hs371 := St.back [_, _] hs371
               have hdl := hd388
               refine WL.nil ⟨((((hs371.rm L1_386).rm L372).rm L373).rm L375), ?_⟩
               refine WG.tk 7 rfl (by kernel_rfl) rfl rfl rfl ((((hs371.rm L1_386).rm L372).rm L373).rm L375) (fun w_ hs_ => (Run.nilCheck rfl rfl)) ?_
               refine WG.rn [8] ((((hs371.rm L1_386).rm L372).rm L373).rm L375) [] rfl rfl ?_
               refine WG.oK rfl ?_
               refine WL.st tbk hs371 0 rfl rfl (fun _ hs389 => ?_)
               refine WL.nil ⟨((((hs389.d1.rm L1_386).rm L372).rm L373).rm L375), ?_⟩
               refine WH.dn ?_
               refine ibN ?_
               refine ibN ?_
               refine retK0 rfl ?_
               obtain ⟨L391, hs390, ho392⟩ := ownScrR.fl ((((hs389.fr L375).fr L1_386).fr L373).fr L372) ho376 ho377 ho387 ho379
               have hs393 := ((hs390.fb b2).fb b_s)
               refine ⟨⟨r18.W, r18.H, ⟨r18.Main.W, r18.Main.H, SlD.of ho376⟩, ⟨r18.Alt.W, r18.Alt.H, SlD.of ho377⟩, r18.OnAlt, r18.X, r18.Y, r18.Wrap, ⟨r18.A.Fg, r18.A.Bg, r18.A.Bold, r18.A.Under, r18.A.Turn⟩, r18.Top, r18.Bot, r18.NoWrap, r18.Hide, r18.SaveX, r18.SaveY, ⟨r18.SaveA.Fg, r18.SaveA.Bg, r18.SaveA.Bold, r18.SaveA.Under, r18.SaveA.Turn⟩, SlD.of ho387, r18.Limit, SlD.ofN ho379⟩, _, rfl, St.keepP (L1 := L391) ((hs393.fr L391).fb b_s), (by exact ho392), ?_⟩
               · rw [← hr2]; unfold csiD; rw [if_neg e65, if_neg e66, if_neg e67, if_neg e68, if_neg e71, if_neg e100, if_neg e7, if_neg e74, if_neg e75, if_neg e88, if_neg e64, if_neg e80, if_neg e76, if_neg e77, if_neg e83, if_neg e84, if_neg e109, if_neg e114, if_pos e103]; rw [ek0, tabsD_0]; show _ = ({ r18.dat with Tabs := r18.Tabs.xs.filter fun x => !decide (x = r18.X) } : ScrD); rw [← hdl]; rfl
              ·have ek0 : ¬ argI l 0 0 = 0 := by have h9 := h369; simpa using h9
               refine WC.r1 hs24 [] rfl ?_
               refine WC.cq rfl (fun h394 qh394 => ?_) (fun h394 qh394 => ?_)
               ·have ek3 : argI l 0 0 = 3 := by have h9 := h394; simpa using h9
                refine WC.region ?_
                refine WL.r 1 hs24 [1] rfl ?_
                refine WL.val rfl rfl rfl (Run.nilCheck rfl rfl) ?_
                refine WL.r 1 hs24 [] rfl ?_
                refine WL.st tbk hs24 0 rfl rfl (fun _ hs395 => ?_)
                refine WL.nil ?_
                refine ibN ?_
                refine ibN ?_
                refine retK0 rfl ?_
                obtain ⟨L396, L397, L398, L399, hs404, ho400, ho401, ho402, ho403⟩ := ownScrR.open_ (hs395.fr L19) ho20
                have hs405 := ((hs404.fb b2).fb b_s)
                obtain ⟨L408, hs407, ho409⟩ := ownScrR.fl ((((hs405.fr L399).fr ([] : Hp)).fr L397).fr L396) ho400 ho401 (OwnF.nil _ _) ho403
                have hs410 := ((hs407.fb b2).fb b_s)
                refine ⟨⟨r18.W, r18.H, ⟨r18.Main.W, r18.Main.H, SlD.of ho400⟩, ⟨r18.Alt.W, r18.Alt.H, SlD.of ho401⟩, r18.OnAlt, r18.X, r18.Y, r18.Wrap, ⟨r18.A.Fg, r18.A.Bg, r18.A.Bold, r18.A.Under, r18.A.Turn⟩, r18.Top, r18.Bot, r18.NoWrap, r18.Hide, r18.SaveX, r18.SaveY, ⟨r18.SaveA.Fg, r18.SaveA.Bg, r18.SaveA.Bold, r18.SaveA.Under, r18.SaveA.Turn⟩, ⟨none, 0, 0, []⟩, r18.Limit, SlD.ofN ho403⟩, _, rfl, St.keepP (L1 := L408) ((hs410.fr L408).fb b_s), (by exact ho409), ?_⟩
                · rw [← hr2]; unfold csiD; rw [if_neg e65, if_neg e66, if_neg e67, if_neg e68, if_neg e71, if_neg e100, if_neg e7, if_neg e74, if_neg e75, if_neg e88, if_neg e64, if_neg e80, if_neg e76, if_neg e77, if_neg e83, if_neg e84, if_neg e109, if_neg e114, if_pos e103]; rw [ek3, tabsD_3]; rfl
               ·have ek3 : ¬ argI l 0 0 = 3 := by have h9 := h394; simpa using h9
                refine WC.skip ?_
                refine ibN ?_
                refine ibN ?_
                refine retK0 rfl ?_
                refine ⟨r18, _, rfl, St.keepP (L1 := L19) ((hs24.fr L19).fb b_s), ho20, ?_⟩
                · rw [← hr2]; unfold csiD; rw [if_neg e65, if_neg e66, if_neg e67, if_neg e68, if_neg e71, if_neg e100, if_neg e7, if_neg e74, if_neg e75, if_neg e88, if_neg e64, if_neg e80, if_neg e76, if_neg e77, if_neg e83, if_neg e84, if_neg e109, if_neg e114, if_pos e103]; rw [tabsD_o ek0 ek3]
             ·have e103 : ¬ b = 103 := by have h9 := h368; simpa using h9
              refine WC.skip ?_
              refine ibN ?_
              refine retK0 rfl ?_
              refine ⟨r18, _, rfl, St.keepP (L1 := L19) ((hs24.fr L19).fb b_s), ho20, ?_⟩
              · rw [← hr2]; unfold csiD; rw [if_neg e65, if_neg e66, if_neg e67, if_neg e68, if_neg e71, if_neg e100, if_neg e7, if_neg e74, if_neg e75, if_neg e88, if_neg e64, if_neg e80, if_neg e76, if_neg e77, if_neg e83, if_neg e84, if_neg e109, if_neg e114, if_neg e103]
end Go.Proofs.YtjmegoiclgancaaGreat
namespace Go.Proofs.YtjmegoiclgancaaGreat
open Go Go.RowKit
set_option linter.unusedVariables false
set_option linter.unusedSimpArgs false
theorem c_impl_Scr_sequence (b_s : Nat) (s : ScrR) (L_s : Hp) (mark : Bool) (A_l : Option Addr) (n_l c_l : Nat) (l : List Int) (b : Int) (w : World) (hb_s : w.heap[b_s]? = some (Obj.cells (List.toArray (cScr s)) 33 (0, 0))) (o_s : ownScrR s L_s) (h_s : ∀ p, p ∈ L_s → w.heap[p.1]? = some p.2) (f_l : SlF encI w A_l n_l l) (hd_ : (b_s :: L_s.map (·.1)).Nodup) (s_l : 0 < n_l → (adr A_l).block ∉ (b_s :: L_s.map (·.1))) (hf : ScrFine s.dat) (hsm : smScr 1048576 s.dat) (hl : areArgs l = true) (hll : n_l ≤ 549755813888) :
    Calls Tryz.prog 103 #[.pointer (some ⟨b_s, 0, none⟩), .bool mark, .slice A_l n_l c_l, i64 b] w fun e w' => ∃ r L1, e = .returned (.tuple #[]) ∧ St w (b_s :: L_s.map (·.1)) ([(b_s, Obj.cells (List.toArray (cScr r)) 33 (0, 0))] ++ L1) w' ∧ ownScrR r L1 ∧ r.dat = seqD s.dat mark l b := by
 have hsmB : smScr 549755813888 s.dat := smScr_mono hsm (by decide)
 have hln := f_l.len
 refine enter 36 Tryz.func103 rfl Tryz.ntmps103 rfl rfl ?_
 have hs1 := St.takeP w b_s _ L_s hb_s h_s hd_
 refine WC.block ?_
 refine WC.r1 hs1 [] rfl ?_
 refine WC.cq rfl (fun h2 qh2 => ?_) (fun h2 qh2 => ?_)
 ·have hmk : mark = false := by have h9 := h2; simpa using h9
  refine WC.region ?_
  refine WL.r 3 hs1 [] rfl ?_
  have hF3 : St _ _ ((_, _) :: (L_s ++ _)) _ := ((hs1.fr L_s).fb b_s)
  refine WL.cl Tryz.call189 rfl (c_impl_Scr_csi _ s _ _ _ _ _ _ _ (St.headP hF3) o_s (St.ownP hF3) (SlF.st f_l hs1 s_l) (St.nodupP hF3) (St.sepTP hF3 f_l s_l) ?_ ?_ ?_ ?_) ?_
  · first | (first | assumption | omega) | (first | assumption | omega)
  · first | (first | assumption | omega) | (first | assumption | omega)
  · first | (first | assumption | omega) | (first | assumption | omega)
  · first | (first | assumption | omega) | (first | assumption | omega)
  rintro _ whs4 ⟨r5, L6, rfl, hs4, ho7, hd8⟩
  replace hs4 := St.lendP hF3 hs4
  refine ⟨_, rfl, ?_⟩
  refine WL.nil ?_
  refine ibN ?_
  refine retK0 rfl ?_
  refine ⟨r5, _, rfl, St.keepP (L1 := L6) ((hs4.fr L6).fb b_s), ho7, ?_⟩
  · unfold seqD; rw [if_pos hmk]; exact hd8
 ·have hmk : ¬ mark = false := by have h9 := h2; simpa using h9
  refine WC.sr ?_
  refine WL.r 3 hs1 [] rfl ?_
  refine WL.pO tbk 2 Acts.nil hs1 [] rfl rfl rfl rfl (fun g_ => trivial) ?_
  refine WL.r 1 hs1 [] rfl ?_
  refine WL.nil ?_
  refine WC.cq rfl (fun h9 qh9 => ?_) (fun h9 qh9 => ?_)
  ·have hbb : b = 104 ∨ b = 108 := by have h9 := h9; simp at h9; exact h9
   refine WC.r1 hs1 [] rfl ?_
   refine WC.block ?_
   have hM14 := (St.grp1 (L1 := L_s) [_] ((hs1.fr L_s).fb b_s))
   refine WC.lV [0, 3, 10, 17, 24, 25] rfl hM14 (fun k_ (a_ : Hp) f => ∃ (i : Nat) (r : ScrR) (L12 : Hp), k_ = n_l - i ∧ a_ = [(b_s, .cells (List.toArray (cScr r)) 33 (0, 0))] ++ L12 ∧ (i ≤ n_l) ∧ (r.dat = modesD s.dat (l.take i) (decide (b = 104))) ∧ ownScrR r L12 ∧ Sub [(26, .int .i64 i)] f) (((fun (i : Nat) => n_l - i) (0))) ?_ ?_
   ·refine ⟨0, s, L_s, rfl, rfl, ?_, ?_, o_s, ⟨rfl, trivial⟩⟩
    · exact Nat.zero_le _
    · rfl
   ·rintro _ _ f w ⟨i, r, L12, rfl, rfl, p0, p1, ho13, hG⟩ hF hs15
    refine WC.sub _ (hG.app hF) ?_
    clear hG hF
    replace hs15 := St.ungrp1 [_] hs15
    have hfr : ScrFine r.dat := by rw [p1]; exact hf.modes
    have hsmr : smScr 549755813888 r.dat := fine_smB hfr (by decide)
    refine WC.r1 hs15 [] rfl ?_
    refine WC.seq (fun K16 hK16 => ?_)
    refine WC.cq rfl (fun h17 qh17 => ?_) (fun h17 qh17 => ?_)
    ·refine WC.skip ?_
     refine hK16 _ _ ?_
     refine WC.seq (fun K18 hK18 => ?_)
     refine WC.block ?_
     refine WC.sr ?_
     refine WL.val rfl rfl rfl (Run.idxN Tryz.runUnderlying23 Tryz.sizeOf3 rfl rfl rfl ?_ ?_ ?_) ?_
     · exact SlF.some_ (SlF.st f_l hs15 s_l)
     · omega
     · omega
     refine WL.val rfl rfl rfl (Run.load Tryz.isAgg3 rfl rfl (SlF.one1 (SlF.st f_l hs15 s_l) ?_ rfl)) ?_
     · omega
     refine WL.r 1 hs15 [] rfl ?_
     refine WL.nil ?_
     refine WC.region ?_
     refine WL.r 4 hs15 [] rfl ?_
     have hF19 : St _ _ ((_, _) :: (L12 ++ _)) _ := ((hs15.fr L12).fb b_s)
     refine WL.cl Tryz.call190 rfl (c_impl_Scr_mode _ r _ _ _ _ (St.headP hF19) ho13 (St.ownP hF19) (St.nodupP hF19) ?_ ?_) ?_
     · first | (first | assumption | rfl | omega) | (first | assumption | omega)
     · first | (first | assumption | rfl | omega) | (first | assumption | omega)
     rintro _ whs20 ⟨r21, L22, rfl, hs20, ho23, hd24⟩
     replace hs20 := St.lendP hF19 hs20
     refine ⟨_, rfl, ?_⟩
     refine WL.nil ?_
     refine hK18 _ _ ?_
     refine WC.region ?_
     refine WL.r 2 hs20 [] rfl ?_
     refine WL.nil ?_
     refine tkN ?_
     have hF25 := (St.grp1 (L1 := L22) [_] ((hs20.fr L22).fb b_s))
     refine ⟨sbF rfl, _, hF25, _, ?_, i + 1, r21, L22, rfl, rfl, ?_, ?_, ho23, ⟨rfl, trivial⟩⟩
     · omega
     · omega
     · rw [hd24, p1]; exact (modesD_take (by omega)).symm
    ·refine WC.exit ?_
     refine tkE (tkE (ibE ?_))
     refine ibN ?_
     refine retK0 rfl ?_
     refine ⟨r, _, rfl, St.keepP (L1 := L12) ((hs15.fr L12).fb b_s), ho13, ?_⟩
     · unfold seqD; rw [if_neg hmk, if_pos hbb]; rw [p1, List.take_of_length_le (by omega)]; rfl
  ·have hbb : ¬ (b = 104 ∨ b = 108) := by have h9 := h9; simp at h9; omega
   refine WC.skip ?_
   refine ibN ?_
   refine retK0 rfl ?_
   refine ⟨s, _, rfl, St.keepP (L1 := L_s) ((hs1.fr L_s).fb b_s), o_s, ?_⟩
   · unfold seqD; rw [if_neg hmk, if_neg hbb]
end Go.Proofs.YtjmegoiclgancaaGreat
namespace Go.Proofs.YtjmegoiclgancaaGreat
open Go Go.RowKit
set_option linter.unusedVariables false
set_option linter.unusedSimpArgs false
theorem c_impl_ScrCsi_1 (b_s : Nat) (s : ScrR) (L_s : Hp) (b_mark : Nat) (mark : Bool) (b_args : Nat) (args : SlD Int) (b_b : Nat) (b : Int) (w : World) (hb_s : w.heap[b_s]? = some (Obj.cells (List.toArray (cScr s)) 33 (0, 0))) (o_s : ownScrR s L_s) (h_s : ∀ p, p ∈ L_s → w.heap[p.1]? = some p.2) (f_mark : SlF encT w (some ⟨b_mark, 0, none⟩) 1 [mark]) (s_mark : 0 < 1 → (adr (some ⟨b_mark, 0, none⟩)).block ∉ (b_s :: L_s.map (·.1))) (f_args : SlF encV w (some ⟨b_args, 0, none⟩) 1 [args]) (s_args : 0 < 1 → (adr (some ⟨b_args, 0, none⟩)).block ∉ (b_s :: L_s.map (·.1))) (g_args : SlF encI w args.A args.n args.xs) (t_args : 0 < args.n → (adr args.A).block ∉ (b_s :: L_s.map (·.1))) (f_b : SlF encI w (some ⟨b_b, 0, none⟩) 1 [b]) (s_b : 0 < 1 → (adr (some ⟨b_b, 0, none⟩)).block ∉ (b_s :: L_s.map (·.1))) (hd_ : (b_s :: L_s.map (·.1)).Nodup) (hf : ScrFine s.dat) (hsm : smScr 1048576 s.dat) (hl : areArgs args.xs = true) (hll : args.n ≤ 549755813888) :
    Calls Tryz.prog 102 #[.pointer (some ⟨b_s, 0, none⟩), .pointer (some ⟨b_mark, 0, none⟩), .pointer (some ⟨b_args, 0, none⟩), .pointer (some ⟨b_b, 0, none⟩)] w fun e w' => ∃ r L1, e = .returned (.tuple #[]) ∧ St w (b_s :: L_s.map (·.1)) ([(b_s, Obj.cells (List.toArray (cScr r)) 33 (0, 0))] ++ L1) w' ∧ ownScrR r L1 ∧ r.dat = seqD s.dat mark args.xs b := by
 have hsmB : smScr 549755813888 s.dat := smScr_mono hsm (by decide)
 refine enter 10 Tryz.func102 rfl Tryz.ntmps102 rfl rfl ?_
 have hs1 := St.takeP w b_s _ L_s hb_s h_s hd_
 refine WC.region ?_
 refine WL.r 1 hs1 [] rfl ?_
 refine WL.val rfl rfl rfl (Run.load Tryz.isAgg4 rfl rfl (SlF.var (SlF.st f_mark hs1 s_mark) rfl)) ?_
 refine WL.val rfl rfl rfl (Run.load Tryz.isAgg23 rfl rfl (SlF.var (SlF.st f_args hs1 s_args) rfl)) ?_
 refine WL.val rfl rfl rfl (Run.load Tryz.isAgg3 rfl rfl (SlF.var (SlF.st f_b hs1 s_b) rfl)) ?_
 have hF2 : St _ _ ((_, _) :: (L_s ++ _)) _ := ((hs1.fr L_s).fb b_s)
 refine WL.cl Tryz.call103 rfl (c_impl_Scr_sequence _ s _ _ _ _ _ _ _ _ (St.headP hF2) o_s (St.ownP hF2) (SlF.st g_args hs1 t_args) (St.nodupP hF2) (St.sepTP hF2 g_args t_args) ?_ ?_ ?_ ?_) ?_
 · first | (first | assumption | omega) | (first | assumption | omega)
 · first | (first | assumption | omega) | (first | assumption | omega)
 · first | (first | assumption | omega) | (first | assumption | omega)
 · first | (first | assumption | omega) | (first | assumption | omega)
 rintro _ whs3 ⟨r4, L5, rfl, hs3, ho6, hd7⟩
 replace hs3 := St.lendP hF2 hs3
 refine ⟨_, rfl, ?_⟩
 refine WL.nil ?_
 refine retK0 rfl ?_
 refine ⟨r4, _, rfl, St.keepP (L1 := L5) ((hs3.fr L5).fb b_s), ho6, ?_⟩
 · exact hd7
theorem c_impl_Scr_changed_csi (s : ScrR) (b_mark : Nat) (mark : Bool) (b_args : Nat) (args : SlD Int) (b_b : Nat) (b : Int) (w : World) (f_s : okScrR 549755813888 w s) (f_mark : SlF encT w (some ⟨b_mark, 0, none⟩) 1 [mark]) (f_args : SlF encV w (some ⟨b_args, 0, none⟩) 1 [args]) (g_args : SlF encI w args.A args.n args.xs) (f_b : SlF encI w (some ⟨b_b, 0, none⟩) 1 [b]) (hl : areArgs args.xs = true) (hll : args.n ≤ 549755813888) (hsm : smScr 1048576 s.dat) :
    Calls Tryz.prog 74 #[.agg (cScr s).toArray, .func (.func 102) #[] #[.pointer (some ⟨b_mark, 0, none⟩), .pointer (some ⟨b_args, 0, none⟩), .pointer (some ⟨b_b, 0, none⟩)]] w fun e w' => ∃ r L1, e = .returned (.agg (cScr r).toArray) ∧ St w [] L1 w' ∧ ownScrR r L1 ∧ r.dat = scrSeqRes s.dat mark args.xs b := by
 have nb_s_Main_Cells := f_s.Main.Cells_n
 have nl_s_Main_Cells := f_s.Main.Cells.len
 have nb_s_Alt_Cells := f_s.Alt.Cells_n
 have nl_s_Alt_Cells := f_s.Alt.Cells.len
 have nb_s_Tabs := f_s.Tabs_n
 have nl_s_Tabs := f_s.Tabs.len
 have nb_s_Back := f_s.Back_n
 have nl_s_Back := f_s.Back.sl.len
 have hsmB : smScr 549755813888 s.dat := by first | assumption | exact smScr_mono hsm (by decide)
 refine enter 15 Tryz.func74 rfl Tryz.ntmps74 rfl rfl ?_
 have hs1 := St.init w
 refine WC.sr ?_
 refine WL.bx hs1 rfl (fun b2 _ hs3 => ?_)
 refine WL.al hs3 Tryz.zeroValue33 rfl rfl (fun b4 _ hs5 => ?_)
 refine WL.nil ?_
 refine WC.seq (fun K6 hK6 => ?_)
 refine WC.sr ?_
 refine WL.r 1 hs5 [1] rfl ?_
 refine WL.cl Tryz.call29 rfl (c_impl_ScrOk s _ (okScrR.st0 f_s hs5)) ?_
 rintro _ whs7 ⟨rfl, hs7⟩
 replace hs7 := hs5.call0 hs7
 refine ⟨_, rfl, ?_⟩
 refine WL.r 1 hs7 [] rfl ?_
 refine WL.nil ?_
 refine WC.cq rfl (fun h8 qh8 => ?_) (fun h8 qh8 => ?_)
 ·have hk : scrOk s.dat = false := by have h9 := h8; simpa using h9
  refine WC.sr ?_
  refine WL.val rfl rfl rfl (Run.build rfl rfl rfl rfl (built_33)) ?_
  refine WL.st tbk hs7 0 rfl rfl (fun _ hs9 => ?_)
  refine WL.nil ?_
  refine WC.ret ?_
  refine tkR ?_
  clear hK6
  refine retV1 rfl (resV.cellA tbk hs9 0 rfl rfl rfl rfl) ?_
  obtain ⟨L15, hs14, ho16⟩ := ownScrR.fl ((((hs9.fr ([] : Hp)).fr ([] : Hp)).fr ([] : Hp)).fr ([] : Hp)) (OwnF.nil _ _) (OwnF.nil _ _) (OwnF.nil _ _) (OwnN.nil _ _ _)
  have hs17 := ((hs14.fb b2).fb b4)
  refine ⟨⟨0, 0, ⟨0, 0, ⟨none, 0, 0, []⟩⟩, ⟨0, 0, ⟨none, 0, 0, []⟩⟩, false, 0, 0, false, ⟨0, 0, false, false, false⟩, 0, 0, false, false, 0, 0, ⟨0, 0, false, false, false⟩, ⟨none, 0, 0, []⟩, 0, ⟨none, 0, 0, []⟩⟩, _, rfl, (St.keep1 (hs17.fr L15)), ?_, ?_⟩
  · exact (by exact ho16)
  · unfold scrSeqRes; rw [hk]; rfl
 ·have hk : scrOk s.dat = true := by have h9 := h8; simpa using h9
  have hf := ScrFine.of hk
  refine WC.skip ?_
  refine hK6 _ _ ?_
  refine WC.sr ?_
  refine WL.r 1 hs7 [1] rfl ?_
  refine WL.cl Tryz.call150 rfl (c_impl_copyScr s _ (okScrR.st0 f_s hs7) ?_) ?_
  · first | (first | assumption | rfl | omega) | (first | assumption | omega)
  rintro _ whs18 ⟨r19, L1_20, rfl, hs18, ho21, hd22⟩
  replace hs18 := hs7.callF hs18
  refine ⟨_, rfl, ?_⟩
  replace hs18 := St.back [_, _] hs18
  have hcp := hd22
  have hfc : ScrFine (ScrR.dat _) := hcp.symm ▸ hf
  have hsmc : smScr 1048576 (ScrR.dat _) := hcp.symm ▸ hsm
  refine WL.al hs18 Tryz.zeroValue33 rfl rfl (fun b23 _ hs24 => ?_)
  refine WL.st tbk hs24 0 rfl rfl (fun _ hs25 => ?_)
  refine WL.nil ?_
  refine WC.sr ?_
  refine WL.r 1 hs25 [] rfl ?_
  have hF26 : St _ _ ((_, _) :: (L1_20 ++ _)) _ := ((hs25.fr L1_20).fb b23)
  refine WL.call rfl rfl rfl (Run.callC Tryz.call102 rfl rfl rfl) (c_impl_ScrCsi_1 _ r19 _ _ _ _ args _ _ _ (St.headP hF26) ho21 (St.ownP hF26) (SlF.st0 f_mark hs25) (St.sepP hF26 f_mark) (SlF.st0 f_args hs25) (St.sepP hF26 f_args) (SlF.st0 g_args hs25) (St.sepP hF26 g_args) (SlF.st0 f_b hs25) (St.sepP hF26 f_b) (St.nodupP hF26) ?_ ?_ ?_ ?_) ?_
  · first | (first | assumption | rfl | omega) | (first | assumption | omega)
  · first | (first | assumption | rfl | omega) | (first | assumption | omega)
  · first | (first | assumption | rfl | omega) | (first | assumption | omega)
  · first | (first | assumption | rfl | omega) | (first | assumption | omega)
  rintro _ whs27 ⟨r28, L29, rfl, hs27, ho30, hd31⟩
  replace hs27 := St.lendP hF26 hs27
  refine ⟨_, rfl, ?_⟩
  have hs32 := (((hs27.fb b2).fb b4).fb b23)
  refine WL.nil ?_
  refine WC.sr ?_
  refine WL.r 1 hs32 [0] rfl ?_
  refine WL.st tbk hs32 1 rfl rfl (fun _ hs33 => ?_)
  refine WL.nil ?_
  refine WC.ret ?_
  refine retV1 rfl (resV.cellA tbk hs33 1 rfl rfl rfl rfl) ?_
  refine ⟨r28, _, rfl, (St.keep1 (hs33.fr L29)), ?_, ?_⟩
  · exact ho30
  · unfold scrSeqRes; rw [hk]; exact hd31.trans (by rw [hcp]; rfl)
theorem c_impl_ScrCsi (s : ScrR) (mark : Bool) (A_l : Option Addr) (n_l c_l : Nat) (l : List Int) (b : Int) (w : World) (f_s : okScrR 549755813888 w s) (f_l : SlF encI w A_l n_l l) (hsm : smScr 1048576 s.dat) (hll : n_l ≤ 549755813888) :
    Calls Tryz.prog 32 #[.agg (cScr s).toArray, .bool mark, .slice A_l n_l c_l, i64 b] w fun e w' => ∃ r L1, e = .returned (.agg (cScr r).toArray) ∧ St w [] L1 w' ∧ ownScrR r L1 ∧ r.dat = scrCsiRes s.dat mark l b := by
 have nb_s_Main_Cells := f_s.Main.Cells_n
 have nl_s_Main_Cells := f_s.Main.Cells.len
 have nb_s_Alt_Cells := f_s.Alt.Cells_n
 have nl_s_Alt_Cells := f_s.Alt.Cells.len
 have nb_s_Tabs := f_s.Tabs_n
 have nl_s_Tabs := f_s.Tabs.len
 have nb_s_Back := f_s.Back_n
 have nl_s_Back := f_s.Back.sl.len
 have hsmB : smScr 549755813888 s.dat := by first | assumption | exact smScr_mono hsm (by decide)
 refine enter 16 Tryz.func32 rfl Tryz.ntmps32 rfl rfl ?_
 have hs1 := St.init w
 refine WC.sr ?_
 refine WL.bx hs1 rfl (fun b2 _ hs3 => ?_)
 refine WL.bx hs3 rfl (fun b4 _ hs5 => ?_)
 refine WL.bx hs5 rfl (fun b6 _ hs7 => ?_)
 refine WL.bx hs7 rfl (fun b8 _ hs9 => ?_)
 refine WL.al hs9 Tryz.zeroValue33 rfl rfl (fun b10 _ hs11 => ?_)
 refine WL.nil ?_
 refine WC.seq (fun K12 hK12 => ?_)
 refine WC.sr ?_
 refine WL.r 1 hs11 [2] rfl ?_
 refine WL.cl Tryz.call101 rfl (c_impl_areArgs _ _ _ _ _ (SlF.st0 f_l hs11) ?_) ?_
 · first | (first | assumption | rfl | omega) | (first | assumption | omega)
 rintro _ whs13 ⟨rfl, hs13⟩
 replace hs13 := hs11.call0 hs13
 refine ⟨_, rfl, ?_⟩
 refine WL.r 1 hs13 [] rfl ?_
 refine WL.nil ?_
 refine WC.cq rfl (fun h14 qh14 => ?_) (fun h14 qh14 => ?_)
 ·have hl : areArgs l = false := by have h9 := h14; simpa using h9
  refine WC.sr ?_
  refine WL.val rfl rfl rfl (Run.build rfl rfl rfl rfl (built_33)) ?_
  refine WL.st tbk hs13 0 rfl rfl (fun _ hs15 => ?_)
  refine WL.nil ?_
  refine WC.ret ?_
  refine tkR ?_
  clear hK12
  refine retV1 rfl (resV.cellA tbk hs15 0 rfl rfl rfl rfl) ?_
  obtain ⟨L21, hs20, ho22⟩ := ownScrR.fl ((((hs15.fr ([] : Hp)).fr ([] : Hp)).fr ([] : Hp)).fr ([] : Hp)) (OwnF.nil _ _) (OwnF.nil _ _) (OwnF.nil _ _) (OwnN.nil _ _ _)
  have hs23 := (((((hs20.fb b2).fb b4).fb b6).fb b8).fb b10)
  refine ⟨⟨0, 0, ⟨0, 0, ⟨none, 0, 0, []⟩⟩, ⟨0, 0, ⟨none, 0, 0, []⟩⟩, false, 0, 0, false, ⟨0, 0, false, false, false⟩, 0, 0, false, false, 0, 0, ⟨0, 0, false, false, false⟩, ⟨none, 0, 0, []⟩, 0, ⟨none, 0, 0, []⟩⟩, _, rfl, (St.keep1 (hs23.fr L21)), ?_, ?_⟩
  · exact (by exact ho22)
  · rw [scrCsi_no hl]; rfl
 ·have hl : areArgs l = true := by have h9 := h14; simpa using h9
  refine WC.skip ?_
  refine hK12 _ _ ?_
  refine WC.sr ?_
  refine WL.r 1 hs13 [4] rfl ?_
  refine WL.val rfl rfl rfl (Run.makeFunc rfl rfl) ?_
  refine WL.cl Tryz.call74 rfl (c_impl_Scr_changed_csi s _ _ _ (⟨A_l, n_l, c_l, l⟩ : SlD Int) _ _ _ (okScrR.st0 f_s hs13) (SlF.own1 (hs13.own _ (nthL_mem (i := 3) rfl)).1) (SlF.own1 (hs13.own _ (nthL_mem (i := 2) rfl)).1) (SlF.st0 f_l hs13) (SlF.own1 (hs13.own _ (nthL_mem (i := 1) rfl)).1) ?_ ?_ ?_) ?_
  · first | (first | assumption | omega) | (first | assumption | omega)
  · first | (first | assumption | omega) | (first | assumption | omega)
  · first | (first | assumption | omega) | (first | assumption | omega)
  rintro _ whs24 ⟨r25, L1_26, rfl, hs24, ho27, hd28⟩
  replace hs24 := hs13.callF hs24
  refine ⟨_, rfl, ?_⟩
  replace hs24 := St.back [_, _, _, _, _] hs24
  refine WL.st tbk hs24 0 rfl rfl (fun _ hs29 => ?_)
  refine WL.nil ?_
  refine WC.ret ?_
  refine retV1 rfl (resV.cellA tbk hs29 0 rfl rfl rfl rfl) ?_
  refine ⟨r25, _, rfl, (St.keep1 (hs29.fr L1_26)), ?_, ?_⟩
  · exact ho27
  · rw [scrCsi_yes hl]; exact hd28
end Go.Proofs.YtjmegoiclgancaaGreat
namespace Go.Proofs.YtjmegoiclgancaaGreat
open Go Go.RowKit
set_option linter.unusedVariables false
set_option linter.unusedSimpArgs false
theorem c_spec_GridRoll (g : GridR) (top : Int) (bot : Int) (n : Int) (w : World) (f_g : okGridR 549755813888 w g) (hg : gridOk g.dat = true) (ht : 0 ≤ top ∧ top ≤ bot ∧ bot < g.H) (hn : -100000 ≤ n ∧ n ≤ 100000) :
    Calls Tryz.prog 144 #[.agg #[i64 g.W, i64 g.H, .slice g.Cells.A g.Cells.n g.Cells.c], i64 top, i64 bot, i64 n] w fun e w' => ∃ r L1, e = .returned (.agg #[i64 r.W, i64 r.H, .slice r.Cells.A r.Cells.n r.Cells.c]) ∧ St w [] L1 w' ∧ ownGridR r L1 ∧ r.dat = gRoll g.dat top bot n := by
 have nb_g_Cells := f_g.Cells_n
 have nl_g_Cells := f_g.Cells.len
 have hgb : (1 ≤ g.W ∧ g.W ≤ 120) ∧ (1 ≤ g.H ∧ g.H ≤ 120) ∧ 1 ≤ g.W * g.H ∧ g.W * g.H ≤ 4000 := gridOk_bnd hg
 have hgl : (g.Cells.xs.length : Int) = g.W * g.H := grid_len hg
 have hsmg : smGrid 1048576 g.dat := by show g.Cells.xs.length ≤ 1048576; omega
 refine enter 103 Tryz.func144 rfl Tryz.ntmps144 rfl rfl ?_
 have hs1 := St.init w
 refine WC.sr ?_
 refine WL.bx hs1 rfl (fun b2 _ hs3 => ?_)
 refine WL.al hs3 Tryz.zeroValue28 rfl rfl (fun b4 _ hs5 => ?_)
 refine WL.nil ?_
 refine WC.seq (fun K6 hK6 => ?_)
 refine WC.sr ?_
 refine WL.r 1 hs5 [1] rfl ?_
 refine WL.cl Tryz.call138 rfl (c_spec_GridOk g _ (okGridR.st0 f_g hs5)) ?_
 rintro _ whs7 ⟨rfl, hs7⟩
 replace hs7 := hs5.call0 hs7
 refine ⟨_, rfl, ?_⟩
 refine WL.r 2 hs7 [] rfl ?_
 refine WL.pO tbk 2 Acts.nil hs7 [] rfl rfl rfl rfl (fun g_ => trivial) ?_
 refine WL.r 1 hs7 [] rfl ?_
 refine WL.pO tbk 3 Acts.nil hs7 [] rfl rfl rfl rfl (fun g_ => trivial) ?_
 refine WL.r 1 hs7 [] rfl ?_
 refine WL.pO tbk 4 Acts.nil hs7 [1] rfl rfl rfl rfl (fun g_ => ⟨rfl, trivial⟩) ?_
 refine WL.nil ?_
 refine WC.cq rfl (fun h8 qh8 => ?_) (fun h8 qh8 => ?_)
 ·exfalso; have h9 := h8; simp [hg] at h9; omega
 ·refine WC.skip ?_
  refine hK6 _ _ ?_
  refine WC.seq (fun K9 hK9 => ?_)
  refine WC.r1 hs7 [1] rfl ?_
  refine WC.mergeK [(1, _), (2, _), (4, _), (8, _), (29, _), (34, _)] 3 (i64 (min n g.H)) hs7 ⟨rfl, rfl, rfl, rfl, rfl, rfl, trivial⟩ (fun f whs11 hF12 hs11 => ?_) (fun hJ10 => ?_)
  ·refine hK9 _ _ ?_
   refine WC.sub _ hF12 ?_
   clear hF12
   refine WC.seq (fun K13 hK13 => ?_)
   refine WC.r1 hs11 [1] rfl ?_
   refine WC.mergeK [(1, _), (2, _), (4, _), (8, _), (29, _), (34, _), (41, _)] 3 (i64 (max (min n g.H) (-g.H))) hs11 ⟨rfl, rfl, rfl, rfl, rfl, rfl, rfl, trivial⟩ (fun f whs15 hF16 hs15 => ?_) (fun hJ14 => ?_)
   ·refine hK13 _ _ ?_
    refine WC.sub _ hF16 ?_
    clear hF16
    refine WC.sr ?_
    refine WL.r 1 hs15 [1] rfl ?_
    refine WL.cl Tryz.call141 rfl (c_spec_l07Copy g _ (okGridR.st0 f_g hs15) ?_) ?_
    · first | (first | assumption | rfl | omega) | (first | assumption | omega | (exact Nat.le_trans hsmg (by decide)))
    rintro _ whs17 ⟨r18, L1_19, rfl, hs17, ho20, hd21⟩
    replace hs17 := hs15.callF hs17
    refine ⟨_, rfl, ?_⟩
    replace hs17 := St.back [_, _] hs17
    skip
    refine WL.al hs17 Tryz.zeroValue28 rfl rfl (fun b22 _ hs23 => ?_)
    refine WL.st tbk hs23 0 rfl rfl (fun _ hs24 => ?_)
    refine WL.nil ?_
    refine WC.seq (fun K25 hK25 => ?_)
    refine WC.r1 hs24 [] rfl ?_
    refine WC.block ?_
    have hM30 := (St.grp1 (L1 := L1_19) [_] ((((hs24.fb b2).fb b4).fr L1_19).fb b22))
    refine WC.lV [1, 2, 3, 4, 8, 9, 29, 34, 41] rfl hM30 (fun k_ (a_ : Hp) f => ∃ (a : Nat) (r : GridR) (L28 : Hp), k_ = (bot - top + 1).toNat - a ∧ a_ = [(b22, .cells (List.toArray [i64 r.W, i64 r.H, .slice r.Cells.A r.Cells.n r.Cells.c]) 28 (0, 0))] ++ L28 ∧ (top + (a : Int) ≤ bot + 1) ∧ (r.W = g.W ∧ r.H = g.H ∧ r.Cells.xs.length = g.Cells.xs.length) ∧ (∀ k, k < g.Cells.xs.length → cat r.Cells.xs k = partF g.dat (rollF g.dat top bot (max (min n g.H) (-g.H))) (top.toNat * g.W.toNat) (a * g.W.toNat) k) ∧ ownGridR r L28 ∧ Sub [(10, .int .i64 (top + a))] f) (((fun (a : Nat) => (bot - top + 1).toNat - a) (0))) ?_ ?_
    ·refine ⟨0, r18, L1_19, rfl, rfl, ?_, ?_, ?_, ho20, ⟨?_, trivial⟩⟩
     · omega
     · exact ⟨congrArg GridD.W hd21, congrArg GridD.H hd21, congrArg (fun d : GridD => d.Cells.length) hd21⟩
     · intro k hk; rw [Nat.zero_mul, partF_zero]; exact congrArg (fun d : GridD => cat d.Cells k) hd21
     · (refine congrArg some (congrArg (Value.int _) ?_); omega)
    ·rintro _ _ f w ⟨a, r, L28, rfl, rfl, p0, p1, p2, ho29, hG⟩ hF hs31
     refine WC.sub _ (hG.app hF) ?_
     clear hG hF
     replace hs31 := St.ungrp1 [_] hs31
     have hs32 := (((hs31.fb b2).fb b4).fb b22)
     have hsmr : smGrid 549755813888 r.dat := by show r.Cells.xs.length ≤ 549755813888; omega
     refine WC.seq (fun K33 hK33 => ?_)
     refine WC.r1 hs32 [] rfl ?_
     refine WC.cq rfl (fun h34 qh34 => ?_) (fun h34 qh34 => ?_)
     ·refine WC.skip ?_
      refine hK33 _ _ ?_
      refine WC.seq (fun K35 hK35 => ?_)
      refine WC.block ?_
      refine WC.r1 hs32 [] rfl ?_
      refine WC.block ?_
      have hM40 := (St.grp1 (L1 := L28) [_] ((((hs32.fb b2).fb b4).fr L28).fb b22))
      refine WC.lV [1, 2, 3, 4, 8, 9, 10, 29, 34, 41, 48, 49, 50] rfl hM40 (fun k_ (a_ : Hp) f => ∃ (c : Nat) (r : GridR) (L38 : Hp), k_ = g.W.toNat - c ∧ a_ = [(b22, .cells (List.toArray [i64 r.W, i64 r.H, .slice r.Cells.A r.Cells.n r.Cells.c]) 28 (0, 0))] ++ L38 ∧ ((c : Int) ≤ g.W) ∧ (r.W = g.W ∧ r.H = g.H ∧ r.Cells.xs.length = g.Cells.xs.length) ∧ (∀ k, k < g.Cells.xs.length → cat r.Cells.xs k = partF g.dat (rollF g.dat top bot (max (min n g.H) (-g.H))) (top.toNat * g.W.toNat) (a * g.W.toNat + c) k) ∧ ownGridR r L38 ∧ Sub [(11, .int .i64 c)] f) (((fun (c : Nat) => g.W.toNat - c) (0))) ?_ ?_
      ·refine ⟨0, r, L28, rfl, rfl, ?_, ?_, ?_, ho29, ⟨rfl, trivial⟩⟩
       · omega
       · exact p1
       · rw [Nat.add_zero]; exact p2
      ·rintro _ _ f w ⟨c, r, L38, rfl, rfl, q0, q1, q2, ho39, hG⟩ hF hs41
       refine WC.sub _ (hG.app hF) ?_
       clear hG hF
       replace hs41 := St.ungrp1 [_] hs41
       have hs42 := (((hs41.fb b2).fb b4).fb b22)
       have hsmr : smGrid 549755813888 r.dat := by show r.Cells.xs.length ≤ 549755813888; omega
       have hnr := ownGridR.len ‹ownGridR r _›
       refine WC.seq (fun K43 hK43 => ?_)
       refine WC.r1 hs42 [2] rfl ?_
       refine WC.cq rfl (fun h44 qh44 => ?_) (fun h44 qh44 => ?_)
       ·have hcw : (c : Int) < g.W := by omega
        have hab : top + (a : Int) ≤ bot := by omega
        have hv0 : 0 ≤ (top + (a : Int)) * g.W := Int.mul_nonneg (by omega) (by omega)
        have hv1 : (top + (a : Int) + 1) * g.W ≤ g.H * g.W := Int.mul_le_mul_of_nonneg_right (by omega) (by omega)
        rw [Int.add_mul _ 1, Int.one_mul, Int.mul_comm g.H g.W] at hv1
        refine WC.skip ?_
        refine hK43 _ _ ?_
        refine WC.seq (fun K45 hK45 => ?_)
        refine WC.block ?_
        refine WC.seq (fun K46 hK46 => ?_)
        refine WC.rG 10 (hs42.rm L38) hs42 hs42 (fun _ hs47 => ?_)
        refine WG.rn [0, 1, 2, 3, 4, 5, 6, 7] hs47 [0, 2] rfl rfl ?_
        refine WG.o1 8 rfl rfl ?_
        refine WL.cl Tryz.call180 rfl (c_spec_l07Blank _) ?_
        rintro _ whs48 ⟨rfl, hs48⟩
        replace hs48 := hs47.call0 hs48
        refine ⟨_, rfl, ?_⟩
        refine WL.nil ⟨hs48, ?_⟩
        refine WG.tk 9 rfl (by kernel_rfl) rfl rfl rfl hs48 (fun w_ hs_ => (Run.idx Tryz.runUnderlying26 Tryz.sizeOf75 rfl rfl rfl ?_ ?_ ?_)) ?_
        · exact SlF.some_ (ownGridR.ok (B := 549755813888) ho39 ((hs_ : St _ _ _ _).ow L38) hsmr).Cells
        · first | omega | (simp only [List.length_set]; omega)
        · first | omega | (simp only [List.length_set]; omega)
        refine WG.oK rfl ?_
        refine WL.storeF1 (x' := blankC) (hs48.fr L38) ho39 Tryz.sizeOf75 rfl rfl rfl rfl rfl rfl rfl rfl rfl ?_ rfl (fun L49 whs50 hs50 ho51 _ => ?_)
        · first | omega | (simp only [List.length_set]; omega)
        replace hs50 := St.back [_, _, _] hs50
        refine WL.nil ⟨(hs50.rm L49), ?_⟩
        refine WH.dn ?_
        refine hK46 _ _ ?_
        refine WC.sr ?_
        refine WL.r 6 hs50 [] rfl ?_
        refine WL.pA tbk 5 Acts.nil hs50 [] rfl rfl rfl rfl (fun g_ => by (try simp only [bf, within_iff, within_not] at g_); exact ⟨by omega, trivial⟩) ?_
        refine WL.nil ?_
        refine WC.cq rfl (fun h52 qh52 => ?_) (fun h52 qh52 => ?_)
        ·have hin : top ≤ top + (a : Int) + (max (min n g.H) (-g.H)) ∧ top + (a : Int) + (max (min n g.H) (-g.H)) ≤ bot := by have h9 := h52; simp at h9; omega
         have hu0 : 0 ≤ (top + (a : Int) + (max (min n g.H) (-g.H))) * g.W := Int.mul_nonneg (by omega) (by omega)
         have hu1 : (top + (a : Int) + (max (min n g.H) (-g.H)) + 1) * g.W ≤ g.H * g.W := Int.mul_le_mul_of_nonneg_right (by omega) (by omega)
         rw [Int.add_mul _ 1, Int.one_mul, Int.mul_comm g.H g.W] at hu1
         refine WC.rG 21 (hs50.rm L49) hs50 hs50 (fun _ hs53 => ?_)
         refine WG.rn [0, 1, 2, 3, 4, 5, 6, 7, 8, 9, 10, 11, 12, 13, 14, 15, 16, 17] hs53 [0, 2, 2, 2] rfl rfl ?_
         refine WG.tk 18 rfl (by kernel_rfl) rfl rfl rfl hs53 (fun w_ hs_ => (Run.idx Tryz.runUnderlying26 Tryz.sizeOf75 rfl rfl rfl ?_ ?_ ?_)) ?_
         · exact SlF.some_ (SlF.st0 f_g.Cells (hs_ : St _ _ _ _))
         · first | omega | (simp only [List.length_set]; omega)
         · first | omega | (simp only [List.length_set]; omega)
         refine WG.tk 19 rfl (by kernel_rfl) rfl rfl rfl hs53 (fun w_ hs_ => (Run.loadA Tryz.isAgg75 Tryz.sizeOf75 rfl rfl (SlF.whole (SlF.st0 f_g.Cells (hs_ : St _ _ _ _)) ?_))) ?_
         · first | omega | (simp only [List.length_set]; omega)
         refine WG.tk 20 rfl (by kernel_rfl) rfl rfl rfl hs53 (fun w_ hs_ => (Run.idx Tryz.runUnderlying26 Tryz.sizeOf75 rfl rfl rfl ?_ ?_ ?_)) ?_
         · exact SlF.some_ (SlF.ofOwn ho51 ((hs_ : St _ _ _ _).ow L49))
         · first | omega | (simp only [List.length_set]; omega)
         · first | omega | (simp only [List.length_set]; omega)
         refine WG.oK rfl ?_
         refine WL.storeF1 (x' := _) (hs53.fr L49) ho51 Tryz.sizeOf75 rfl rfl rfl rfl rfl rfl rfl rfl rfl ?_ rfl (fun L54 whs55 hs55 ho56 _ => ?_)
         · first | omega | (simp only [List.length_set]; omega)
         replace hs55 := St.back [_, _, _] hs55
         refine WL.nil ⟨(hs55.rm L54), ?_⟩
         refine WH.dn ?_
         refine hK45 _ _ ?_
         refine WC.region ?_
         refine WL.r 3 hs55 [] rfl ?_
         refine WL.nil ?_
         refine tkN ?_
         have hF57 := (St.grp1 (L1 := L54) [_] ((((hs55.fb b2).fb b4).fr L54).fb b22))
         refine ⟨sbF rfl, _, hF57, _, ?_, c + 1, ⟨r.W, r.H, SlD.of ho56⟩, L54, rfl, rfl, ?_, ?_, ?_, ho56, ⟨rfl, trivial⟩⟩
         · omega
         · omega
         · exact ⟨q1.1, q1.2.1, by simp only [List.length_set]; exact q1.2.2⟩
         · intro k hk; first | (show gat encCell ((r.Cells.xs.set _ _).set _ _) k = _; rw [List.set_set]; exact roll_next (g := g.dat) (i := (top + a) * g.W + c) (by omega) rfl (by show 0 ≤ g.W; omega) (by omega) hcw hab (by rw [if_pos (by have h9 := h52; simp at h9; omega)]; rfl) (q2 k hk)) | exact roll_next (g := g.dat) (i := (top + a) * g.W + c) (by omega) rfl (by show 0 ≤ g.W; omega) (by omega) hcw hab (by rw [if_neg (by have h9 := h52; simp at h9; omega)]) (q2 k hk)
        ·refine WC.skip ?_
         refine hK45 _ _ ?_
         refine WC.region ?_
         refine WL.r 3 hs50 [] rfl ?_
         refine WL.nil ?_
         refine tkN ?_
         have hF58 := (St.grp1 (L1 := L49) [_] ((((hs50.fb b2).fb b4).fr L49).fb b22))
         refine ⟨sbF rfl, _, hF58, _, ?_, c + 1, ⟨r.W, r.H, SlD.of ho51⟩, L49, rfl, rfl, ?_, ?_, ?_, ho51, ⟨rfl, trivial⟩⟩
         · omega
         · omega
         · exact ⟨q1.1, q1.2.1, by simp only [List.length_set]; exact q1.2.2⟩
         · intro k hk; first | (show gat encCell ((r.Cells.xs.set _ _).set _ _) k = _; rw [List.set_set]; exact roll_next (g := g.dat) (i := (top + a) * g.W + c) (by omega) rfl (by show 0 ≤ g.W; omega) (by omega) hcw hab (by rw [if_pos (by have h9 := h52; simp at h9; omega)]; rfl) (q2 k hk)) | exact roll_next (g := g.dat) (i := (top + a) * g.W + c) (by omega) rfl (by show 0 ≤ g.W; omega) (by omega) hcw hab (by rw [if_neg (by have h9 := h52; simp at h9; omega)]) (q2 k hk)
       ·refine WC.exit ?_
        refine hK35 _ _ ?_
        refine WC.region ?_
        refine WL.r 3 hs42 [] rfl ?_
        refine WL.nil ?_
        refine tkN ?_
        have hF59 := (St.grp1 (L1 := L38) [_] ((((hs42.fb b2).fb b4).fr L38).fb b22))
        refine ⟨sbF rfl, _, hF59, _, ?_, a + 1, r, L38, rfl, rfl, ?_, ?_, ?_, ho39, ⟨?_, trivial⟩⟩
        · omega
        · omega
        · exact q1
        · intro k hk; rw [q2 k hk, show c = g.W.toNat by omega, Nat.add_mul, Nat.one_mul]
        · (refine congrArg some (congrArg (Value.int _) ?_); omega)
     ·refine WC.exit ?_
      refine hK25 _ _ ?_
      refine WC.sr ?_
      refine WL.r 1 hs32 [0] rfl ?_
      refine WL.st tbk hs32 1 rfl rfl (fun _ hs60 => ?_)
      refine WL.nil ?_
      refine WC.ret ?_
      refine retV1 rfl (resV.cellA tbk hs60 1 rfl rfl rfl rfl) ?_
      refine ⟨r, _, rfl, (St.keep1 (hs60.fr L28)), ?_, ?_⟩
      · exact ho29
      · exact roll_done hg ht.1 ht.2.1 ht.2.2 (m := (max (min n g.H) (-g.H))) (by omega) p1.1 p1.2.1 p1.2.2 (by show n = _ ∨ (g.H ≤ n ∧ g.H ≤ _ ∨ n ≤ -g.H ∧ _ ≤ -g.H); omega) p2
   refine WC.cq rfl (fun h61 qh61 => ?_) (fun h61 qh61 => ?_)
   ·refine WC.region ?_
    refine WL.r 4 hs11 [1] rfl ?_
    refine WL.nil ?_
    exact hJ14 _ _ ⟨(congrArg some (congrArg (Value.int .i64) (by omega))), rfl, rfl, rfl, rfl, rfl, rfl, rfl, trivial⟩ hs11
   ·refine WC.skip ?_
    exact hJ14 _ _ ⟨(congrArg some (congrArg (Value.int .i64) (by omega))), rfl, rfl, rfl, rfl, rfl, rfl, rfl, trivial⟩ hs11
  refine WC.cq rfl (fun h62 qh62 => ?_) (fun h62 qh62 => ?_)
  ·refine WC.region ?_
   refine WL.r 3 hs7 [1] rfl ?_
   refine WL.nil ?_
   exact hJ10 _ _ ⟨(congrArg some (congrArg (Value.int .i64) (by omega))), rfl, rfl, rfl, rfl, rfl, rfl, trivial⟩ hs7
  ·refine WC.skip ?_
   exact hJ10 _ _ ⟨(congrArg some (congrArg (Value.int .i64) (by omega))), rfl, rfl, rfl, rfl, rfl, rfl, trivial⟩ hs7
end Go.Proofs.YtjmegoiclgancaaGreat
namespace Go.Proofs.YtjmegoiclgancaaGreat
open Go Go.RowKit
set_option linter.unusedVariables false
set_option linter.unusedSimpArgs false
theorem c_spec_l09Keep (s : ScrR) (L_s : Hp) (y : Nat) (w : World) (o_s : ownScrR s L_s) (h_s : ∀ p, p ∈ L_s → w.heap[p.1]? = some p.2) (hd_ : ((L_s).map (·.1)).Nodup) (hm : gridOk s.Main.dat = true) (hW : s.W = s.Main.W) (hlim : 0 ≤ s.Limit ∧ s.Limit ≤ 1048576) (hb : (s.Back.xs.length : Int) ≤ s.Limit) (hn : (y : Int) < s.Main.H) (hsmB : smScr 549755813888 s.dat) :
    Calls Tryz.prog 231 #[.agg (cScr s).toArray, .int .i64 y] w fun e w' => ∃ r L1, e = .returned (.agg (cScr r).toArray) ∧ St w ((L_s).map (·.1)) L1 w' ∧ ownScrR r L1 ∧ r.dat = keepOne s.dat y := by
 have hgb : (1 ≤ s.Main.W ∧ s.Main.W ≤ 120) ∧ (1 ≤ s.Main.H ∧ s.Main.H ≤ 120) ∧ 1 ≤ s.Main.W * s.Main.H ∧ s.Main.W * s.Main.H ≤ 4000 := gridOk_bnd hm
 have hgl : (s.Main.Cells.xs.length : Int) = s.Main.W * s.Main.H := by have h_ := hm; unfold gridOk at h_; rw [Bool.and_eq_true, Bool.and_eq_true, decide_eq_true_eq] at h_; exact h_.1.2
 obtain ⟨⟨hrn1, hrn2⟩, _, _, hrn3, hrn4⟩ := ownScrR.lens o_s
 have hv0 : 0 ≤ (y : Int) * s.W := Int.mul_nonneg (by omega) (by omega)
 have hv1 : ((y : Int) + 1) * s.W = (y : Int) * s.W + s.W := by rw [Int.add_mul, Int.one_mul]
 have hv2 : ((y : Int) + 1) * s.W ≤ s.Main.H * s.Main.W := by rw [hW]; exact Int.mul_le_mul_of_nonneg_right (by omega) (by omega)
 rw [Int.mul_comm s.Main.H] at hv2
 have hrow : (RowD.mk ((s.Main.Cells.xs.drop ((y : Int) * s.W).toNat).take ((((y : Int) * s.W) + s.W).toNat - ((y : Int) * s.W).toNat))) = rowAt s.dat.Main y := by
   have e1 : ((y : Int) * s.W).toNat = y * s.Main.W.toNat := by rw [hW]; exact toNat_mul_nat (by omega)
   have e2 : (((y : Int) * s.W) + s.W).toNat - y * s.Main.W.toNat = s.Main.W.toNat := by rw [← e1]; omega
   rw [e1, e2]; rfl
 refine enter 45 Tryz.func231 rfl Tryz.ntmps231 rfl rfl ?_
 have hs1 := St.takes1 w L_s h_s hd_
 refine WC.sr ?_
 refine WL.bx hs1 rfl (fun b2 _ hs3 => ?_)
 refine WL.al hs3 Tryz.zeroValue33 rfl rfl (fun b4 _ hs5 => ?_)
 refine WL.nil ?_
 refine WC.seq (fun K6 hK6 => ?_)
 refine WC.rG 23 ((hs5.fb b2).d1.rm L_s) (hs5.rm L_s) hs5 (fun _ hs7 => ?_)
 refine WG.rn [0, 1, 3, 4, 5, 6, 7, 8, 9, 10, 11, 12, 13, 14, 15, 16] (hs7.rm L_s) [1, 1, 1, 1, 1] rfl rfl ?_ (hS := ⟨by (first | omega | (simp only [List.length_append, List.length_singleton] at *; omega)), rfl, by (first | omega | (simp only [List.length_append, List.length_singleton] at *; omega)), rfl, by (first | omega | (simp only [List.length_append, List.length_singleton] at *; omega)), rfl, rfl, rfl, trivial⟩)
 refine WG.tk 17 rfl (by kernel_rfl) rfl rfl rfl (hs7.rm L_s) (fun w_ hs_ => (Run.sliceLH (((y : Int) * s.W).toNat) (((y : Int) * s.W + s.W).toNat) Tryz.runUnderlying26 Tryz.sizeOf75 rfl rfl rfl rfl ?_ ?_ ?_)) ?_
 · first | rfl | (first | omega | (simp only [List.length_append, List.length_singleton] at *; omega))
 · first | rfl | (first | omega | (simp only [List.length_append, List.length_singleton] at *; omega))
 · refine ⟨?_, ?_, ?_⟩ <;> (first | omega | (simp only [List.length_append, List.length_singleton] at *; omega))
 refine WG.o1 2 rfl rfl ?_
 refine WL.buildF (F := encCell) hs7 ([]) Tryz.runUnderlying26 Tryz.sizeOf75 Tryz.zeroValue75 rfl rfl rfl rfl rfl rfl rfl rfl rfl rfl rfl rfl (fun A11 c12 L8 whs9 hs9 ho10 => ?_)
 replace hs9 := St.back [_, _] hs9
 refine WL.nil ⟨((hs9.rm L8).rm L_s), ?_⟩
 refine WG.o1 18 rfl rfl ?_
 refine WL.appendG (hs9.fr L8) ho10 (SlF.src (SlF.cutC (lo := ((y : Int) * s.W).toNat) (hi := ((y : Int) * s.W + s.W).toNat) (ownScrR.ok (B := 549755813888) o_s (hs9.ow L_s) (by assumption)).Main.Cells (by refine ⟨?_, ?_, ?_⟩ <;> (first | omega | (simp only [List.length_append, List.length_singleton] at *; omega)))) Tryz.underlying26) Tryz.underlying26 info_75 rfl rfl rfl rfl rfl rfl rfl rfl rfl rfl ?_ (fun A16 c17 L13 whs14 hs14 ho15 => ?_)
 · (try simp only [List.length_append, List.length_take, List.length_drop, List.length_nil, List.nil_append, List.length_singleton]); omega
 replace hs14 := St.back [_, _] hs14
 refine WL.nil ⟨((hs14.rm L13).rm L_s), ?_⟩
 refine WG.tk 19 rfl (by kernel_rfl) rfl rfl rfl ((hs14.rm L13).rm L_s) (fun w_ hs_ => (Run.build rfl rfl rfl rfl (built_98_0 _ _ _))) ?_
 refine WG.o1 20 rfl rfl ?_
 refine WL.buildSlice hs14 Tryz.runUnderlying31 Tryz.sizeOf98 Tryz.zeroValue98 rfl rfl rfl rfl rfl rfl rfl rfl rfl rfl (fun b18 whs19 hs19 => ?_)
 refine WL.nil ⟨((hs19.d1.rm L13).rm L_s), ?_⟩
 refine WG.o1 21 rfl rfl ?_
 obtain ⟨L20, L21, L22, L23, hs28, ho24, ho25, ho26, ho27⟩ := ownScrR.open_ (hs19.fr L_s) o_s
 have hs29 := (((hs28.fb b2).fb b4).fb b18)
 obtain ⟨L30, L31, hs34, ho32, ho33⟩ := OwnN.open_ (hs29.fr L23) ho27
 have hs35 := (((hs34.fb b2).fb b4).fb b18)
 refine WL.appendG (hs35.fr L30) ho32 (srcF (F := encRowR) (ys := [(⟨SlD.of ho15⟩ : RowR)]) Tryz.underlying31 rfl rfl (hs35.own _ (nthL_mem (i := 0) rfl)).1) Tryz.underlying31 info_98 rfl rfl rfl rfl rfl rfl rfl rfl rfl rfl ?_ (fun A39 c40 L36 whs37 hs37 ho38 => ?_)
 · (try simp only [List.length_append, List.length_take, List.length_drop, List.length_nil, List.nil_append, List.length_singleton]); omega
 replace hs37 := St.back [_, _, _] hs37
 obtain ⟨L41, hs42, hb43⟩ := Bag.put (x := (⟨SlD.of ho15⟩ : RowR)) ((hs37.fr L13).fr L31) ho33 ho15
 have hs44 := (((hs42.fb b2).fb b4).fb b18)
 obtain ⟨L46, hs45, ho47⟩ := OwnN.fold ((hs44.fr L41).fr L36) ho38 hb43
 have hs48 := (((hs45.fb b2).fb b4).fb b18)
 refine WL.nil ⟨((((hs48.d1.rm L46).rm L20).rm L21).rm L22), ?_⟩
 refine WG.rn [22] ((((hs48.d1.rm L46).rm L20).rm L21).rm L22) [] rfl rfl ?_
 refine WG.oK rfl ?_
 refine WL.st tbk hs48 2 rfl rfl (fun _ hs49 => ?_)
 refine WL.nil ⟨(((((hs49.d1.fb b2).d1.rm L46).rm L20).rm L21).rm L22), ?_⟩
 refine WH.dn ?_
 refine hK6 _ _ ?_
 refine WC.seq (fun K50 hK50 => ?_)
 refine WC.r1 hs49 [2, 2] rfl ?_
 refine WC.cD rfl (fun qh51 => ?_) (fun qh51 => ?_)
 ·refine WC.region ?_
  refine WL.run tbk 8 hs49 [2, 2, 2] rfl ⟨by first | omega | (simp only [List.length_append, List.length_singleton] at *; omega), rfl, rfl, rfl, trivial⟩ ?_
  have hcN := OwnN.cap ho47
  have hlN := OwnN.len_ ho47
  refine WL.val rfl rfl rfl (Run.sliceL (s.Back.xs.length + 1 - s.Limit.toNat) Tryz.runUnderlying31 Tryz.sizeOf98 rfl rfl rfl ?_ ?_) ?_
  · first | omega | (simp only [List.length_append, List.length_singleton] at *; omega)
  · refine ⟨?_, ?_, ?_⟩ <;> (first | omega | (simp only [List.length_append, List.length_singleton] at *; omega))
  obtain ⟨L52, hs53, ho54⟩ := OwnN.dropE (k := s.Back.xs.length + 1 - s.Limit.toNat) ho47 (by first | omega | (simp only [List.length_append, List.length_singleton] at *; omega)) (hs49.fr L46)
  have hs55 := (((hs53.fb b2).fb b4).fb b18)
  refine WL.r 1 hs55 [] rfl ?_
  refine WL.st tbk hs55 2 rfl rfl (fun _ hs56 => ?_)
  refine WL.nil ?_
  refine hK50 _ _ ?_
  refine WC.sr ?_
  refine WL.r 1 hs56 [2] rfl ?_
  refine WL.st tbk hs56 1 rfl rfl (fun _ hs57 => ?_)
  refine WL.nil ?_
  refine WC.ret ?_
  refine retV1 rfl (resV.cellA tbk hs57 1 rfl rfl rfl rfl) ?_
  obtain ⟨L59, hs58, ho60⟩ := ownScrR.fl ((((hs57.fr L52).fr L22).fr L21).fr L20) ho24 ho25 ho26 ho54
  have hs61 := (((hs58.fb b2).fb b4).fb b18)
  refine ⟨⟨s.W, s.H, ⟨s.Main.W, s.Main.H, SlD.of ho24⟩, ⟨s.Alt.W, s.Alt.H, SlD.of ho25⟩, s.OnAlt, s.X, s.Y, s.Wrap, ⟨s.A.Fg, s.A.Bg, s.A.Bold, s.A.Under, s.A.Turn⟩, s.Top, s.Bot, s.NoWrap, s.Hide, s.SaveX, s.SaveY, ⟨s.SaveA.Fg, s.SaveA.Bg, s.SaveA.Bold, s.SaveA.Under, s.SaveA.Turn⟩, SlD.of ho26, s.Limit, SlD.ofN ho54⟩, _, rfl, (St.keep1 (hs61.fr L59)), ?_, ?_⟩
  · exact (by exact ho60)
  · rw [← keepOne_drop (k := s.Back.xs.length + 1 - s.Limit.toNat) (by show _ = (s.Back.xs.map RowR.dat).length + 1 - s.Limit.toNat; rw [List.length_map]), ← hrow]; simp only [ScrR.dat, List.map_drop, List.map_append]; rfl
 ·refine WC.skip ?_
  refine hK50 _ _ ?_
  refine WC.sr ?_
  refine WL.r 1 hs49 [2] rfl ?_
  refine WL.st tbk hs49 1 rfl rfl (fun _ hs62 => ?_)
  refine WL.nil ?_
  refine WC.ret ?_
  refine retV1 rfl (resV.cellA tbk hs62 1 rfl rfl rfl rfl) ?_
  obtain ⟨L64, hs63, ho65⟩ := ownScrR.fl ((((hs62.fr L46).fr L22).fr L21).fr L20) ho24 ho25 ho26 ho47
  have hs66 := (((hs63.fb b2).fb b4).fb b18)
  refine ⟨⟨s.W, s.H, ⟨s.Main.W, s.Main.H, SlD.of ho24⟩, ⟨s.Alt.W, s.Alt.H, SlD.of ho25⟩, s.OnAlt, s.X, s.Y, s.Wrap, ⟨s.A.Fg, s.A.Bg, s.A.Bold, s.A.Under, s.A.Turn⟩, s.Top, s.Bot, s.NoWrap, s.Hide, s.SaveX, s.SaveY, ⟨s.SaveA.Fg, s.SaveA.Bg, s.SaveA.Bold, s.SaveA.Under, s.SaveA.Turn⟩, SlD.of ho26, s.Limit, SlD.ofN ho47⟩, _, rfl, (St.keep1 (hs66.fr L64)), ?_, ?_⟩
  · exact (by exact ho65)
  · rw [← keepOne_all (by have h9 := qh51; simp only [List.length_append, List.length_singleton] at h9; show (s.Back.xs.map RowR.dat).length + 1 ≤ s.Limit.toNat; rw [List.length_map]; omega), ← hrow]; simp only [ScrR.dat, List.map_append]; rfl
end Go.Proofs.YtjmegoiclgancaaGreat
namespace Go.Proofs.YtjmegoiclgancaaGreat
open Go Go.RowKit
set_option linter.unusedVariables false
set_option linter.unusedSimpArgs false
theorem c_spec_l09Roll (s : ScrR) (L_s : Hp) (n : Int) (w : World) (o_s : ownScrR s L_s) (h_s : ∀ p, p ∈ L_s → w.heap[p.1]? = some p.2) (hd_ : ((L_s).map (·.1)).Nodup) (hf : ScrFine s.dat) (hn : 0 ≤ n ∧ n ≤ 100000) (hsmB : smScr 549755813888 s.dat) :
    Calls Tryz.prog 183 #[.agg (cScr s).toArray, i64 n] w fun e w' => ∃ r L1, e = .returned (.agg (cScr r).toArray) ∧ St w ((L_s).map (·.1)) L1 w' ∧ ownScrR r L1 ∧ r.dat = rollUpD s.dat n := by
 have hok9 := hf.ok
 obtain ⟨hb1, hb2, hb3, hb4, hb5, hb6⟩ := scrOk_bnd hok9
 obtain ⟨hm, hma⟩ := scrOk_main hok9
 simp only [ScrR.dat, GridR.dat, List.length_map] at hb1 hb2 hb3 hb4 hb5 hb6
 refine enter 43 Tryz.func183 rfl Tryz.ntmps183 rfl rfl ?_
 have hs1 := St.takes1 w L_s h_s hd_
 refine WC.sr ?_
 refine WL.bx hs1 rfl (fun b2 _ hs3 => ?_)
 refine WL.al hs3 Tryz.zeroValue33 rfl rfl (fun b4 _ hs5 => ?_)
 refine WL.nil ?_
 refine WC.seq (fun K6 hK6 => ?_)
 refine WC.r1 hs5 [] rfl ?_
 refine WC.block ?_
 have hM11 := (St.grp1 (L1 := L_s) [_] ((hs5.fr L_s).fb b2))
 refine WC.lV [1, 2, 4] rfl hM11 (fun k_ (a_ : Hp) f => ∃ (i : Nat) (r : ScrR) (L9 : Hp), k_ = (min n (s.Bot + 1)).toNat - i ∧ a_ = [(b2, .cells (List.toArray (cScr r)) 33 (0, 0))] ++ L9 ∧ ((i : Int) ≤ min n (s.Bot + 1)) ∧ (r.dat = keepRows s.dat i) ∧ (¬ (s.OnAlt = false ∧ s.Top = 0) → i = 0) ∧ ownScrR r L9 ∧ Sub [(5, .int .i64 i)] f) (((fun (i : Nat) => (min n (s.Bot + 1)).toNat - i) (0))) ?_ ?_
 ·refine ⟨0, s, L_s, rfl, rfl, ?_, ?_, ?_, o_s, ⟨rfl, trivial⟩⟩
  · omega
  · rw [keepRows_zero (by show ((s.Back.xs.map RowR.dat).length : Int) ≤ s.Limit; rw [List.length_map]; omega)]
  · exact fun _ => rfl
 ·rintro _ _ f w ⟨i, r, L9, rfl, rfl, p0, p1, p2, ho10, hG⟩ hF hs12
  refine WC.sub _ (hG.app hF) ?_
  clear hG hF
  replace hs12 := St.ungrp1 [_] hs12
  have hs13 := ((hs12.fb b4).fb b2)
  have hsmr : smScr 549755813888 r.dat := by rw [p1]; exact keepRows_sm hsmB hm (by decide) (by show s.Limit.toNat ≤ _; omega)
  have hrM : r.Main.dat = s.Main.dat := congrArg ScrD.Main p1
  have hrW : r.W = s.W := congrArg ScrD.W p1
  have hrL : r.Limit = s.Limit := congrArg ScrD.Limit p1
  have hrH : r.Main.H = s.Main.H := congrArg GridD.H hrM
  have hrV : r.Main.W = s.Main.W := congrArg GridD.W hrM
  have hrT : r.Top = s.Top := congrArg ScrD.Top p1
  have hrb : r.Bot = s.Bot := congrArg ScrD.Bot p1
  have hrO : r.OnAlt = s.OnAlt := congrArg ScrD.OnAlt p1
  have hrB : (r.Back.xs.length : Int) ≤ s.Limit := by have h9 := congrArg (fun d : ScrD => d.Back.length) p1; simp only [ScrR.dat, keepRows, lastN_len, List.length_map] at h9; omega
  refine WC.seq (fun K14 hK14 => ?_)
  refine WC.sr ?_
  refine WL.r 4 hs13 [] rfl ?_
  refine WL.pA tbk 7 Acts.nil hs13 [0, 0] rfl rfl rfl rfl (fun g_ => by (try simp only [bf, within_iff, within_not] at g_); exact ⟨by omega, rfl, rfl, trivial⟩) ?_
  refine WL.r 1 hs13 [] rfl ?_
  refine WL.pA tbk 3 Acts.nil hs13 [0] rfl rfl rfl rfl (fun g_ => ⟨rfl, trivial⟩) ?_
  refine WL.r 1 hs13 [] rfl ?_
  refine WL.pA tbk 3 Acts.nil hs13 [0] rfl rfl rfl rfl (fun g_ => ⟨rfl, trivial⟩) ?_
  refine WL.nil ?_
  refine WC.cq rfl (fun h15 qh15 => ?_) (fun h15 qh15 => ?_)
  ·have hc : s.OnAlt = false ∧ s.Top = 0 := by have h9 := h15; rw [hrO, hrT, hrb] at h9; simp at h9; exact ⟨h9.1.2, h9.2⟩
   have hlt : (i : Int) < min n (s.Bot + 1) := by have h9 := h15; rw [hrO, hrT, hrb] at h9; simp at h9; omega
   refine WC.skip ?_
   refine hK14 _ _ ?_
   refine WC.seq (fun K16 hK16 => ?_)
   refine WC.block ?_
   refine WC.region ?_
   refine WL.r 2 hs13 [0] rfl ?_
   refine WL.cl Tryz.call231 rfl (c_spec_l09Keep r _ _ _ ho10 (hs13.ow L9) (St.nodupL (hs13.fr L9)) ?_ ?_ ?_ ?_ ?_ ?_) ?_
   · first | (first | assumption | rfl | omega) | (first | assumption | omega | (rw [hrM]; assumption))
   · first | (first | assumption | rfl | omega) | (first | assumption | omega | (rw [hrM]; assumption))
   · first | (first | assumption | rfl | omega) | (first | assumption | omega | (rw [hrM]; assumption))
   · first | (first | assumption | rfl | omega) | (first | assumption | omega | (rw [hrM]; assumption))
   · first | (first | assumption | rfl | omega) | (first | assumption | omega | (rw [hrM]; assumption))
   · first | (first | assumption | rfl | omega) | (first | assumption | omega | (rw [hrM]; assumption))
   rintro _ whs17 ⟨r18, L1_19, rfl, hs17, ho20, hd21⟩
   replace hs17 := St.lend (hs13.fr L9) hs17
   refine ⟨_, rfl, ?_⟩
   replace hs17 := St.back [_, _] hs17
   refine WL.st tbk hs17 0 rfl rfl (fun _ hs22 => ?_)
   refine WL.nil ?_
   refine hK16 _ _ ?_
   refine WC.region ?_
   refine WL.r 3 hs22 [] rfl ?_
   refine WL.nil ?_
   refine tkN ?_
   have hF23 := (St.grp1 (L1 := L1_19) [_] (((hs22.fb b4).fr L1_19).fb b2))
   refine ⟨sbF rfl, _, hF23, _, ?_, i + 1, r18, L1_19, rfl, rfl, ?_, ?_, ?_, ho20, ⟨rfl, trivial⟩⟩
   · omega
   · omega
   · rw [hd21, p1]; exact keepOne_succ
   · intro h9; exact absurd hc h9
  ·have h1 : r.dat = keepD s.dat n := by
     unfold keepD
     by_cases hc : s.OnAlt = false ∧ s.Top = 0
     · rw [if_pos (show s.dat.OnAlt = false ∧ s.dat.Top = 0 from hc), p1]
       have h9 := h15
       rw [hrO, hrT, hrb, hc.1, hc.2] at h9
       simp at h9
       have e9 : i = (min n (s.dat.Bot + 1)).toNat := by show i = (min n (s.Bot + 1)).toNat; omega
       rw [e9]
     · rw [if_neg (show ¬ (s.dat.OnAlt = false ∧ s.dat.Top = 0) from hc), p1, p2 hc]
       exact keepRows_zero (by show ((s.Back.xs.map RowR.dat).length : Int) ≤ s.Limit; rw [List.length_map]; omega)
   have hfr : ScrFine r.dat := by rw [h1]; exact hf.keep
   have hgs : gridOk (shownR r).dat = true := by rw [shownR_dat]; exact hfr.shown.1
   have hts : 0 ≤ r.Top ∧ r.Top ≤ r.Bot ∧ r.Bot < (shownR r).H := by have h9 : (shownR r).H = (shownD r.dat).H := congrArg GridD.H shownR_dat; rw [h9, hfr.shown.2.2]; exact ⟨hfr.reg.1.1, hfr.reg.1.2, hfr.reg.2.1⟩
   refine WC.exit ?_
   refine hK6 _ _ ?_
   refine WC.seq (fun K24 hK24 => ?_)
   refine WC.rG 10 ((hs13.fb b4).d1.rm L9) (hs13.rm L9) hs13 (fun _ hs25 => ?_)
   refine WG.rn [0, 1, 3, 4, 5, 6, 7] (hs25.rm L9) [0, 0, 0, 0] rfl rfl ?_
   refine WG.o1 2 rfl rfl ?_
   refine WL.cl Tryz.call145 rfl (c_spec_l09Shown r _ (ownScrR.ok (B := 549755813888) ho10 (hs25.ow L9) hsmr)) ?_
   rintro _ whs26 ⟨rfl, hs26⟩
   replace hs26 := hs25.call0 hs26
   refine ⟨_, rfl, ?_⟩
   refine WL.nil ⟨(hs26.rm L9), ?_⟩
   refine WG.o1 8 rfl rfl ?_
   refine WL.cl Tryz.call144 rfl (c_spec_GridRoll (shownR r) _ _ _ _ (okScrR.shown (ownScrR.ok (B := 549755813888) ho10 (hs26.ow L9) hsmr)) ?_ ?_ ?_) ?_
   · first | (first | assumption | rfl | omega) | (first | assumption | omega | (rw [hrM]; assumption))
   · first | (first | assumption | rfl | omega) | (first | assumption | omega | (rw [hrM]; assumption))
   · first | (first | assumption | rfl | omega) | (first | assumption | omega | (rw [hrM]; assumption))
   rintro _ whs27 ⟨r28, L1_29, rfl, hs27, ho30, hd31⟩
   replace hs27 := hs26.callF hs27
   refine ⟨_, rfl, ?_⟩
   replace hs27 := St.back [_, _] hs27
   have hgr := hd31
   refine WL.nil ⟨((hs27.rm L1_29).rm L9), ?_⟩
   refine WG.o1 9 rfl rfl ?_
   refine WL.cl Tryz.call143 rfl (c_spec_l09Put r _ r28 _ _ ho10 (hs27.ow L9) ho30 (hs27.ow L1_29) (St.nodupL (St.grp2 (L1 := L9) (L2 := L1_29) [] ((hs27.fr L1_29).fr L9)))) ?_
   rintro _ whs32 ⟨r33, L1_34, rfl, hs32, ho35, hd36⟩
   replace hs32 := St.lend (St.grp2 (L1 := L9) (L2 := L1_29) [] ((hs27.fr L1_29).fr L9)) hs32
   refine ⟨_, rfl, ?_⟩
   replace hs32 := St.back [_, _] hs32
   refine WL.nil ⟨(hs32.rm L1_34), ?_⟩
   refine WG.oK rfl ?_
   refine WL.st tbk hs32 1 rfl rfl (fun _ hs37 => ?_)
   refine WL.nil ⟨((hs37.fb b4).d1.rm L1_34), ?_⟩
   refine WH.dn ?_
   refine hK24 _ _ ?_
   refine WC.ret ?_
   refine retV1 rfl (resV.cellA tbk hs37 1 rfl rfl rfl rfl) ?_
   refine ⟨r33, _, rfl, (St.keep1 (hs37.fr L1_34)), ?_, ?_⟩
   · exact ho35
   · refine hd36.trans ?_; rw [hgr, shownR_dat]; show putD r.dat (gRoll (shownD r.dat) r.Top r.Bot n) = _; rw [hrT, hrb, h1]; rfl
theorem c_spec_l10Save (s : ScrR) (L_s : Hp) (w : World) (o_s : ownScrR s L_s) (h_s : ∀ p, p ∈ L_s → w.heap[p.1]? = some p.2) (hd_ : ((L_s).map (·.1)).Nodup) :
    Calls Tryz.prog 67 #[.agg (cScr s).toArray] w fun e w' => ∃ r L1, e = .returned (.agg (cScr r).toArray) ∧ St w ((L_s).map (·.1)) L1 w' ∧ ownScrR r L1 ∧ r.dat = saveD s.dat := by
 refine enter 13 Tryz.func67 rfl Tryz.ntmps67 rfl rfl ?_
 have hs1 := St.takes1 w L_s h_s hd_
 refine WC.sr ?_
 refine WL.bx hs1 rfl (fun b2 _ hs3 => ?_)
 refine WL.al hs3 Tryz.zeroValue33 rfl rfl (fun b4 _ hs5 => ?_)
 refine WL.nil ?_
 refine WC.sr ?_
 refine WL.r 3 hs5 [1] rfl ?_
 refine WL.st tbk hs5 1 rfl rfl (fun _ hs6 => ?_)
 refine WL.nil ?_
 refine WC.sr ?_
 refine WL.r 3 hs6 [1] rfl ?_
 refine WL.st tbk hs6 1 rfl rfl (fun _ hs7 => ?_)
 refine WL.nil ?_
 refine WC.sr ?_
 refine WL.r 3 hs7 [1] rfl ?_
 refine WL.st tbk hs7 1 rfl rfl (fun _ hs8 => ?_)
 refine WL.nil ?_
 refine WC.sr ?_
 refine WL.r 1 hs8 [1] rfl ?_
 refine WL.st tbk hs8 0 rfl rfl (fun _ hs9 => ?_)
 refine WL.nil ?_
 refine WC.ret ?_
 refine retV1 rfl (resV.cellA tbk hs9 0 rfl rfl rfl rfl) ?_
 obtain ⟨L10, L11, L12, L13, hs18, ho14, ho15, ho16, ho17⟩ := ownScrR.open_ (hs9.fr L_s) o_s
 have hs19 := ((hs18.fb b2).fb b4)
 obtain ⟨L21, hs20, ho22⟩ := ownScrR.fl ((((hs19.fr L13).fr L12).fr L11).fr L10) ho14 ho15 ho16 ho17
 have hs23 := ((hs20.fb b2).fb b4)
 refine ⟨⟨s.W, s.H, ⟨s.Main.W, s.Main.H, SlD.of ho14⟩, ⟨s.Alt.W, s.Alt.H, SlD.of ho15⟩, s.OnAlt, s.X, s.Y, s.Wrap, ⟨s.A.Fg, s.A.Bg, s.A.Bold, s.A.Under, s.A.Turn⟩, s.Top, s.Bot, s.NoWrap, s.Hide, s.X, s.Y, ⟨s.A.Fg, s.A.Bg, s.A.Bold, s.A.Under, s.A.Turn⟩, SlD.of ho16, s.Limit, SlD.ofN ho17⟩, _, rfl, (St.keep1 (hs23.fr L21)), ?_, ?_⟩
 · exact (by exact ho22)
 · rfl
theorem c_spec_l10Back (s : ScrR) (L_s : Hp) (w : World) (o_s : ownScrR s L_s) (h_s : ∀ p, p ∈ L_s → w.heap[p.1]? = some p.2) (hd_ : ((L_s).map (·.1)).Nodup) :
    Calls Tryz.prog 68 #[.agg (cScr s).toArray] w fun e w' => ∃ r L1, e = .returned (.agg (cScr r).toArray) ∧ St w ((L_s).map (·.1)) L1 w' ∧ ownScrR r L1 ∧ r.dat = backD s.dat := by
 refine enter 14 Tryz.func68 rfl Tryz.ntmps68 rfl rfl ?_
 have hs1 := St.takes1 w L_s h_s hd_
 refine WC.sr ?_
 refine WL.bx hs1 rfl (fun b2 _ hs3 => ?_)
 refine WL.al hs3 Tryz.zeroValue33 rfl rfl (fun b4 _ hs5 => ?_)
 refine WL.nil ?_
 refine WC.sr ?_
 refine WL.r 3 hs5 [1] rfl ?_
 refine WL.st tbk hs5 1 rfl rfl (fun _ hs6 => ?_)
 refine WL.nil ?_
 refine WC.sr ?_
 refine WL.r 3 hs6 [1] rfl ?_
 refine WL.st tbk hs6 1 rfl rfl (fun _ hs7 => ?_)
 refine WL.nil ?_
 refine WC.sr ?_
 refine WL.r 3 hs7 [1] rfl ?_
 refine WL.st tbk hs7 1 rfl rfl (fun _ hs8 => ?_)
 refine WL.nil ?_
 refine WC.sr ?_
 refine WL.r 1 hs8 [] rfl ?_
 refine WL.st tbk hs8 1 rfl rfl (fun _ hs9 => ?_)
 refine WL.nil ?_
 refine WC.sr ?_
 refine WL.r 1 hs9 [1] rfl ?_
 refine WL.st tbk hs9 0 rfl rfl (fun _ hs10 => ?_)
 refine WL.nil ?_
 refine WC.ret ?_
 refine retV1 rfl (resV.cellA tbk hs10 0 rfl rfl rfl rfl) ?_
 obtain ⟨L11, L12, L13, L14, hs19, ho15, ho16, ho17, ho18⟩ := ownScrR.open_ (hs10.fr L_s) o_s
 have hs20 := ((hs19.fb b2).fb b4)
 obtain ⟨L22, hs21, ho23⟩ := ownScrR.fl ((((hs20.fr L14).fr L13).fr L12).fr L11) ho15 ho16 ho17 ho18
 have hs24 := ((hs21.fb b2).fb b4)
 refine ⟨⟨s.W, s.H, ⟨s.Main.W, s.Main.H, SlD.of ho15⟩, ⟨s.Alt.W, s.Alt.H, SlD.of ho16⟩, s.OnAlt, s.SaveX, s.SaveY, false, ⟨s.SaveA.Fg, s.SaveA.Bg, s.SaveA.Bold, s.SaveA.Under, s.SaveA.Turn⟩, s.Top, s.Bot, s.NoWrap, s.Hide, s.SaveX, s.SaveY, ⟨s.SaveA.Fg, s.SaveA.Bg, s.SaveA.Bold, s.SaveA.Under, s.SaveA.Turn⟩, SlD.of ho17, s.Limit, SlD.ofN ho18⟩, _, rfl, (St.keep1 (hs24.fr L22)), ?_, ?_⟩
 · exact (by exact ho23)
 · rfl
end Go.Proofs.YtjmegoiclgancaaGreat
namespace Go.Proofs.YtjmegoiclgancaaGreat
open Go Go.RowKit
set_option linter.unusedVariables false
set_option linter.unusedSimpArgs false
theorem clamp_eq {x h : Int} (h0 : 0 ≤ h) : clampI x h = if x < 0 then 0 else min x h := by unfold clampI; split <;> omega
theorem ScrFine.reg2 {s : ScrD} {l : List Int} (h : ScrFine s) (hl : areArgs l = true) (hr : argI l 0 1 - 1 < argI l 1 s.H - 1 ∧ argI l 1 s.H - 1 < s.H) : ScrFine { s with Top := argI l 0 1 - 1, Bot := argI l 1 s.H - 1 } := by
  have b := gridOk_bnd h.gM
  obtain ⟨d1, d2, _⟩ := h.dim
  have h1 := argI_pos (k := 0) hl (d := 1) (by omega)
  exact ⟨h.gM, h.gA, h.dim, h.pos, h.sav, h.wrp, h.aA, h.aS, ⟨by constructor <;> (simp only; omega), hr.2, fun he => by simp only at he; omega⟩, h.lim, h.tab, h.row⟩
theorem filt_in {p : Int → Bool} {l : List Int} {i : Nat} (h : i < l.length) (hp : p (iat l i) = true) : (l.take (i + 1)).filter p = (l.take i).filter p ++ [iat l i] := by
  rw [List.take_add_one, gat_get (F := encI) h, List.filter_append]
  congr 1
  show List.filter p [iat l i] = _
  rw [List.filter_cons, if_pos hp]; rfl
theorem filt_out {p : Int → Bool} {l : List Int} {i : Nat} (h : i < l.length) (hp : ¬ p (iat l i) = true) : (l.take (i + 1)).filter p = (l.take i).filter p := by
  rw [List.take_add_one, gat_get (F := encI) h, List.filter_append]
  show _ ++ List.filter p [iat l i] = _
  rw [List.filter_cons, if_neg hp]
  exact List.append_nil _
def tabP (s : ScrD) (k : Int) (x : Int) : Bool := (decide (k = 0) && !decide (x = s.X)) || (!decide (k = 0) && !decide (k = 3))
theorem tabsD_P {s : ScrD} {k : Int} : tabsD s k = { s with Tabs := s.Tabs.filter (tabP s k) } := rfl
theorem tabP_iff {s : ScrD} {k x : Int} : tabP s k x = true ↔ (k = 0 ∧ ¬ x = s.X) ∨ (¬ k = 0 ∧ ¬ k = 3) := by
  unfold tabP
  simp only [Bool.or_eq_true, Bool.and_eq_true, decide_eq_true_eq, Bool.not_eq_true', decide_eq_false_iff_not]
def modeTo (s : ScrD) (l : List Int) (b : Int) (i : Nat) : ScrD := if b = 104 ∨ b = 108 then modesD s (l.take i) (decide (b = 104)) else s
theorem modeTo_zero {s : ScrD} {l : List Int} {b : Int} : modeTo s l b 0 = s := by unfold modeTo; split <;> rfl
theorem modeTo_next {s : ScrD} {l : List Int} {b : Int} {i : Nat} (hb : b = 104 ∨ b = 108) (h : i < l.length) : modeTo s l b (i + 1) = modeD (modeTo s l b i) (iat l i) (decide (b = 104)) := by
  unfold modeTo; rw [if_pos hb, if_pos hb]; exact modesD_take h
theorem modeTo_same {s : ScrD} {l : List Int} {b : Int} {i : Nat} (hb : ¬ (b = 104 ∨ b = 108)) : modeTo s l b (i + 1) = modeTo s l b i := by
  unfold modeTo; rw [if_neg hb, if_neg hb]
theorem ScrFine.modeT {s : ScrD} {l : List Int} {b : Int} {i : Nat} (h : ScrFine s) : ScrFine (modeTo s l b i) := by
  show ScrFine (if _ then _ else _)
  split
  · exact h.modes
  · exact h
theorem modeTo_all {s : ScrD} {l : List Int} {b : Int} {i : Nat} (hi : l.length ≤ i) : modeTo s l b i = seqD s true l b := by
  unfold modeTo seqD
  rw [List.take_of_length_le hi, if_neg (show ¬ true = false by decide)]; rfl
theorem scrGo_eq {s : ScrD} {x y : Int} (h : ScrFine s) : scrGoRes s x y = moveD s x y := by unfold scrGoRes; rw [if_pos h.ok]
theorem gridRes_eq {w h : Int} (hs : isSize w h = true) : gridRes w h = gridNew w h := by unfold gridRes; rw [hs]; rfl
theorem csi_not {s : ScrD} {mark : Bool} {l : List Int} {b : Int} (h : ¬ (scrOk s = true ∧ areArgs l = true)) : scrCsiRes s mark l b = scr0 := by
  unfold scrCsiRes csiOk
  rw [if_neg]
  rw [Bool.and_eq_true]
  exact fun h9 => h ⟨h9.2, h9.1⟩
theorem csi_yes {s : ScrD} {mark : Bool} {l : List Int} {b : Int} (h : scrOk s = true) (hl : areArgs l = true) : scrCsiRes s mark l b = seqD s mark l b := by
  unfold scrCsiRes csiOk
  rw [if_pos (by rw [Bool.and_eq_true]; exact ⟨hl, h⟩)]
end Go.Proofs.YtjmegoiclgancaaGreat
namespace Go.Proofs.YtjmegoiclgancaaGreat
open Go Go.RowKit
set_option linter.unusedVariables false
set_option linter.unusedSimpArgs false
theorem c_spec_l10Arg_0 (A_l : Option Addr) (n_l c_l : Nat) (l : List Int) (d : Int) (w : World) (f_l : SlF encI w A_l n_l l) (hn : n_l ≤ 549755813888) :
    Calls Tryz.prog 177 #[.slice A_l n_l c_l, i64 0, i64 d] w fun e w' => e = .returned (i64 (argI l 0 d)) ∧ St w [] [] w' := by
 have hl := f_l.len
 refine enter 22 Tryz.func177 rfl Tryz.ntmps177 rfl rfl ?_
 have hs1 := St.init w
 refine WC.r1 hs1 [] rfl ?_
 refine WC.seq (fun K2 hK2 => ?_)
 refine WC.r1 hs1 [] rfl ?_
 refine WC.cq rfl (fun h3 qh3 => ?_) (fun h3 qh3 => ?_)
 ·have hp : ¬ 0 < l.length := by have h9 := h3; simp at h9; omega
  refine WC.r1 hs1 [] rfl ?_
  refine WC.ret ?_
  refine tkR ?_
  clear hK2
  refine retV1 rfl (resV.tmp rfl) ?_
  refine ⟨congrArg Ending.returned ?_, hs1.nil⟩
  rw [show argI l 0 d = d from by unfold argI; rw [if_neg (by exact fun h => hp h.1)]]
 ·have hp : 0 < l.length := by have h9 := h3; simp at h9; omega
  refine WC.skip ?_
  refine hK2 _ _ ?_
  refine WC.seq (fun K4 hK4 => ?_)
  refine WC.sr ?_
  refine WL.r 2 hs1 [] rfl ?_
  refine WL.val rfl rfl rfl (Run.idx Tryz.runUnderlying23 Tryz.sizeOf3 rfl rfl rfl ?_ ?_ ?_) ?_
  · exact SlF.some_ (SlF.st0 f_l hs1)
  · omega
  · omega
  refine WL.val rfl rfl rfl (Run.load Tryz.isAgg3 rfl rfl (SlF.one1 (SlF.st0 f_l hs1) ?_ rfl)) ?_
  · omega
  refine WL.r 1 hs1 [] rfl ?_
  refine WL.nil ?_
  refine WC.cq rfl (fun h5 qh5 => ?_) (fun h5 qh5 => ?_)
  ·have hz : iat l 0 = 0 := by have h9 := h5; simpa using h9
   refine WC.r1 hs1 [] rfl ?_
   refine WC.ret ?_
   refine tkR ?_
   clear hK4
   refine retV1 rfl (resV.tmp rfl) ?_
   refine ⟨congrArg Ending.returned ?_, hs1.nil⟩
   rw [show argI l 0 d = d from by unfold argI; rw [if_neg (by exact fun h => h.2 hz)]]
  ·have hz : ¬ iat l 0 = 0 := by have h9 := h5; simpa using h9
   refine WC.skip ?_
   refine hK4 _ _ ?_
   refine WC.sr ?_
   refine WL.r 2 hs1 [] rfl ?_
   refine WL.val rfl rfl rfl (Run.idx Tryz.runUnderlying23 Tryz.sizeOf3 rfl rfl rfl ?_ ?_ ?_) ?_
   · exact SlF.some_ (SlF.st0 f_l hs1)
   · omega
   · omega
   refine WL.val rfl rfl rfl (Run.load Tryz.isAgg3 rfl rfl (SlF.one1 (SlF.st0 f_l hs1) ?_ rfl)) ?_
   · omega
   refine WL.r 1 hs1 [] rfl ?_
   refine WL.nil ?_
   refine WC.ret ?_
   refine retV1 rfl (resV.tmp rfl) ?_
   refine ⟨congrArg Ending.returned ?_, hs1.nil⟩
   rw [show argI l 0 d = iat l 0 from by unfold argI; rw [if_pos ⟨hp, hz⟩]]; rfl
theorem c_spec_l10Arg_1 (A_l : Option Addr) (n_l c_l : Nat) (l : List Int) (d : Int) (w : World) (f_l : SlF encI w A_l n_l l) (hn : n_l ≤ 549755813888) :
    Calls Tryz.prog 177 #[.slice A_l n_l c_l, i64 1, i64 d] w fun e w' => e = .returned (i64 (argI l 1 d)) ∧ St w [] [] w' := by
 have hl := f_l.len
 refine enter 22 Tryz.func177 rfl Tryz.ntmps177 rfl rfl ?_
 have hs1 := St.init w
 refine WC.r1 hs1 [] rfl ?_
 refine WC.seq (fun K2 hK2 => ?_)
 refine WC.r1 hs1 [] rfl ?_
 refine WC.cq rfl (fun h3 qh3 => ?_) (fun h3 qh3 => ?_)
 ·have hp : ¬ 1 < l.length := by have h9 := h3; simp at h9; omega
  refine WC.r1 hs1 [] rfl ?_
  refine WC.ret ?_
  refine tkR ?_
  clear hK2
  refine retV1 rfl (resV.tmp rfl) ?_
  refine ⟨congrArg Ending.returned ?_, hs1.nil⟩
  rw [show argI l 1 d = d from by unfold argI; rw [if_neg (by exact fun h => hp h.1)]]
 ·have hp : 1 < l.length := by have h9 := h3; simp at h9; omega
  refine WC.skip ?_
  refine hK2 _ _ ?_
  refine WC.seq (fun K4 hK4 => ?_)
  refine WC.sr ?_
  refine WL.r 2 hs1 [] rfl ?_
  refine WL.val rfl rfl rfl (Run.idx Tryz.runUnderlying23 Tryz.sizeOf3 rfl rfl rfl ?_ ?_ ?_) ?_
  · exact SlF.some_ (SlF.st0 f_l hs1)
  · omega
  · omega
  refine WL.val rfl rfl rfl (Run.load Tryz.isAgg3 rfl rfl (SlF.one1 (SlF.st0 f_l hs1) ?_ rfl)) ?_
  · omega
  refine WL.r 1 hs1 [] rfl ?_
  refine WL.nil ?_
  refine WC.cq rfl (fun h5 qh5 => ?_) (fun h5 qh5 => ?_)
  ·have hz : iat l 1 = 0 := by have h9 := h5; simpa using h9
   refine WC.r1 hs1 [] rfl ?_
   refine WC.ret ?_
   refine tkR ?_
   clear hK4
   refine retV1 rfl (resV.tmp rfl) ?_
   refine ⟨congrArg Ending.returned ?_, hs1.nil⟩
   rw [show argI l 1 d = d from by unfold argI; rw [if_neg (by exact fun h => h.2 hz)]]
  ·have hz : ¬ iat l 1 = 0 := by have h9 := h5; simpa using h9
   refine WC.skip ?_
   refine hK4 _ _ ?_
   refine WC.sr ?_
   refine WL.r 2 hs1 [] rfl ?_
   refine WL.val rfl rfl rfl (Run.idx Tryz.runUnderlying23 Tryz.sizeOf3 rfl rfl rfl ?_ ?_ ?_) ?_
   · exact SlF.some_ (SlF.st0 f_l hs1)
   · omega
   · omega
   refine WL.val rfl rfl rfl (Run.load Tryz.isAgg3 rfl rfl (SlF.one1 (SlF.st0 f_l hs1) ?_ rfl)) ?_
   · omega
   refine WL.r 1 hs1 [] rfl ?_
   refine WL.nil ?_
   refine WC.ret ?_
   refine retV1 rfl (resV.tmp rfl) ?_
   refine ⟨congrArg Ending.returned ?_, hs1.nil⟩
   rw [show argI l 1 d = iat l 1 from by unfold argI; rw [if_pos ⟨hp, hz⟩]]; rfl
theorem c_spec_ScrGo (s : ScrR) (x : Int) (y : Int) (w : World) (f_s : okScrR 549755813888 w s) (hsm : smScr 1048576 s.dat) :
    Calls Tryz.prog 163 #[.agg (cScr s).toArray, i64 x, i64 y] w fun e w' => ∃ r L1, e = .returned (.agg (cScr r).toArray) ∧ St w [] L1 w' ∧ ownScrR r L1 ∧ r.dat = scrGoRes s.dat x y := by
 have nb_s_Main_Cells := f_s.Main.Cells_n
 have nl_s_Main_Cells := f_s.Main.Cells.len
 have nb_s_Alt_Cells := f_s.Alt.Cells_n
 have nl_s_Alt_Cells := f_s.Alt.Cells.len
 have nb_s_Tabs := f_s.Tabs_n
 have nl_s_Tabs := f_s.Tabs.len
 have nb_s_Back := f_s.Back_n
 have nl_s_Back := f_s.Back.sl.len
 have hsmB : smScr 549755813888 s.dat := by first | assumption | exact smScr_mono hsm (by decide)
 refine enter 28 Tryz.func163 rfl Tryz.ntmps163 rfl rfl ?_
 have hs1 := St.init w
 refine WC.sr ?_
 refine WL.bx hs1 rfl (fun b2 _ hs3 => ?_)
 refine WL.al hs3 Tryz.zeroValue33 rfl rfl (fun b4 _ hs5 => ?_)
 refine WL.nil ?_
 refine WC.seq (fun K6 hK6 => ?_)
 refine WC.sr ?_
 refine WL.r 1 hs5 [1] rfl ?_
 refine WL.cl Tryz.call63 rfl (c_spec_ScrOk s _ (okScrR.st0 f_s hs5)) ?_
 rintro _ whs7 ⟨rfl, hs7⟩
 replace hs7 := hs5.call0 hs7
 refine ⟨_, rfl, ?_⟩
 refine WL.r 1 hs7 [] rfl ?_
 refine WL.nil ?_
 refine WC.cq rfl (fun h8 qh8 => ?_) (fun h8 qh8 => ?_)
 ·have hk : scrOk s.dat = false := by have h9 := h8; simpa using h9
  refine WC.sr ?_
  refine WL.val rfl rfl rfl (Run.build rfl rfl rfl rfl (built_33)) ?_
  refine WL.st tbk hs7 0 rfl rfl (fun _ hs9 => ?_)
  refine WL.nil ?_
  refine WC.ret ?_
  refine tkR ?_
  clear hK6
  refine retV1 rfl (resV.cellA tbk hs9 0 rfl rfl rfl rfl) ?_
  obtain ⟨L15, hs14, ho16⟩ := ownScrR.fl ((((hs9.fr ([] : Hp)).fr ([] : Hp)).fr ([] : Hp)).fr ([] : Hp)) (OwnF.nil _ _) (OwnF.nil _ _) (OwnF.nil _ _) (OwnN.nil _ _ _)
  have hs17 := ((hs14.fb b2).fb b4)
  refine ⟨⟨0, 0, ⟨0, 0, ⟨none, 0, 0, []⟩⟩, ⟨0, 0, ⟨none, 0, 0, []⟩⟩, false, 0, 0, false, ⟨0, 0, false, false, false⟩, 0, 0, false, false, 0, 0, ⟨0, 0, false, false, false⟩, ⟨none, 0, 0, []⟩, 0, ⟨none, 0, 0, []⟩⟩, _, rfl, (St.keep1 (hs17.fr L15)), ?_, ?_⟩
  · exact (by exact ho16)
  · unfold scrGoRes; rw [hk]; rfl
 ·have hk : scrOk s.dat = true := by have h9 := h8; simpa using h9
  have hf := ScrFine.of hk
  have hwh : (1 ≤ s.W ∧ s.W ≤ 120) ∧ 1 ≤ s.H ∧ s.H ≤ 120 := ⟨(isSize_bnd hf.size).1, (isSize_bnd hf.size).2.1⟩
  refine WC.skip ?_
  refine hK6 _ _ ?_
  refine WC.sr ?_
  refine WL.r 1 hs7 [1] rfl ?_
  refine WL.cl Tryz.call64 rfl (c_spec_l09Copy s _ (okScrR.st0 f_s hs7) ?_) ?_
  · first | (first | assumption | rfl | omega) | (first | assumption | omega)
  rintro _ whs18 ⟨r19, L1_20, rfl, hs18, ho21, hd22⟩
  replace hs18 := hs7.callF hs18
  refine ⟨_, rfl, ?_⟩
  replace hs18 := St.back [_, _] hs18
  have hcp := hd22
  refine WL.al hs18 Tryz.zeroValue33 rfl rfl (fun b23 _ hs24 => ?_)
  refine WL.st tbk hs24 0 rfl rfl (fun _ hs25 => ?_)
  refine WL.nil ?_
  refine WC.sr ?_
  refine WL.r 4 hs25 [2] rfl ?_
  refine WL.cl Tryz.call218 rfl (c_spec_l02Clamp _ _ _) ?_
  rintro _ whs26 ⟨rfl, hs26⟩
  replace hs26 := hs25.call0 hs26
  refine ⟨_, rfl, ?_⟩
  refine WL.r 1 hs26 [] rfl ?_
  refine WL.st tbk hs26 0 rfl rfl (fun _ hs27 => ?_)
  refine WL.nil ?_
  refine WC.sr ?_
  refine WL.r 4 hs27 [2] rfl ?_
  refine WL.cl Tryz.call218 rfl (c_spec_l02Clamp _ _ _) ?_
  rintro _ whs28 ⟨rfl, hs28⟩
  replace hs28 := hs27.call0 hs28
  refine ⟨_, rfl, ?_⟩
  refine WL.r 1 hs28 [] rfl ?_
  refine WL.st tbk hs28 0 rfl rfl (fun _ hs29 => ?_)
  refine WL.nil ?_
  refine WC.sr ?_
  refine WL.r 1 hs29 [] rfl ?_
  refine WL.st tbk hs29 0 rfl rfl (fun _ hs30 => ?_)
  refine WL.nil ?_
  refine WC.sr ?_
  refine WL.r 1 hs30 [0] rfl ?_
  refine WL.st tbk hs30 1 rfl rfl (fun _ hs31 => ?_)
  refine WL.nil ?_
  refine WC.ret ?_
  refine retV1 rfl (resV.cellA tbk hs31 1 rfl rfl rfl rfl) ?_
  obtain ⟨L32, L33, L34, L35, hs40, ho36, ho37, ho38, ho39⟩ := ownScrR.open_ (hs31.fr L1_20) ho21
  have hs41 := (((hs40.fb b2).fb b4).fb b23)
  obtain ⟨L43, hs42, ho44⟩ := ownScrR.fl ((((hs41.fr L35).fr L34).fr L33).fr L32) ho36 ho37 ho38 ho39
  have hs45 := (((hs42.fb b2).fb b4).fb b23)
  refine ⟨⟨r19.W, r19.H, ⟨r19.Main.W, r19.Main.H, SlD.of ho36⟩, ⟨r19.Alt.W, r19.Alt.H, SlD.of ho37⟩, r19.OnAlt, _, _, false, ⟨r19.A.Fg, r19.A.Bg, r19.A.Bold, r19.A.Under, r19.A.Turn⟩, r19.Top, r19.Bot, r19.NoWrap, r19.Hide, r19.SaveX, r19.SaveY, ⟨r19.SaveA.Fg, r19.SaveA.Bg, r19.SaveA.Bold, r19.SaveA.Under, r19.SaveA.Turn⟩, SlD.of ho38, r19.Limit, SlD.ofN ho39⟩, _, rfl, (St.keep1 (hs45.fr L43)), ?_, ?_⟩
  · exact (by exact ho44)
  · unfold scrGoRes; rw [if_pos hk, show moveD s.dat x y = { s.dat with X := if x < 0 then 0 else min x (s.W - 1), Y := if y < 0 then 0 else min y (s.H - 1), Wrap := false } from by unfold moveD; rw [clamp_eq (by show 0 ≤ s.W - 1; omega), clamp_eq (by show 0 ≤ s.H - 1; omega)]; rfl, ← hcp]; rfl
theorem c_spec_l10Blank (s : ScrR) (L_s : Hp) (a : Int) (b : Int) (w : World) (o_s : ownScrR s L_s) (h_s : ∀ p, p ∈ L_s → w.heap[p.1]? = some p.2) (hd_ : ((L_s).map (·.1)).Nodup) (hf : ScrFine s.dat) (hsmB : smScr 549755813888 s.dat) :
    Calls Tryz.prog 229 #[.agg (cScr s).toArray, i64 a, i64 b] w fun e w' => ∃ r L1, e = .returned (.agg (cScr r).toArray) ∧ St w ((L_s).map (·.1)) L1 w' ∧ ownScrR r L1 ∧ r.dat = clearD s.dat a b := by
 have hgs := hf.shown.1
 have hgb := gridOk_bnd hgs
 have hgl := grid_len hgs
 have hsS : smGrid 1099511627 (shownR s).dat := by rw [shownR_dat]; show (shownD s.dat).Cells.length ≤ _; omega
 have hsS2 : smGrid 549755813888 (shownR s).dat := Nat.le_trans hsS (by decide)
 refine enter 35 Tryz.func229 rfl Tryz.ntmps229 rfl rfl ?_
 have hs1 := St.takes1 w L_s h_s hd_
 refine WC.sr ?_
 refine WL.bx hs1 rfl (fun b2 _ hs3 => ?_)
 refine WL.al hs3 Tryz.zeroValue33 rfl rfl (fun b4 _ hs5 => ?_)
 refine WL.nil ?_
 refine WC.sr ?_
 refine WL.r 1 hs5 [1] rfl ?_
 refine WL.cl Tryz.call145 rfl (c_spec_l09Shown s _ (ownScrR.ok (B := 549755813888) o_s (hs5.ow L_s) (by assumption))) ?_
 rintro _ whs6 ⟨rfl, hs6⟩
 replace hs6 := hs5.call0 hs6
 refine ⟨_, rfl, ?_⟩
 refine WL.cl Tryz.call141 rfl (c_spec_l07Copy (shownR s) _ (okScrR.shown (ownScrR.ok (B := 549755813888) o_s (hs6.ow L_s) (by assumption))) ?_) ?_
 · first | (first | assumption | rfl | omega) | (first | assumption | omega)
 rintro _ whs7 ⟨r8, L1_9, rfl, hs7, ho10, hd11⟩
 replace hs7 := hs6.callF hs7
 refine ⟨_, rfl, ?_⟩
 replace hs7 := St.back [_, _] hs7
 have hd0 := hd11.trans shownR_dat
 have hn0 := ownGridR.len ‹ownGridR r8 _›
 have hl0 : r8.Cells.xs.length = (shownD s.dat).Cells.length := congrArg (fun d : GridD => d.Cells.length) hd0
 refine WL.al hs7 Tryz.zeroValue28 rfl rfl (fun b12 _ hs13 => ?_)
 refine WL.st tbk hs13 0 rfl rfl (fun _ hs14 => ?_)
 refine WL.nil ?_
 refine WC.seq (fun K15 hK15 => ?_)
 refine WC.r1 hs14 [0] rfl ?_
 refine WC.block ?_
 have hM20 := (St.grp1 (L1 := L1_9) [_] (((((hs14.fr L_s).fb b2).fb b4).fr L1_9).fb b12))
 refine WC.lV [1, 2, 3, 6, 7, 14] rfl hM20 (fun k_ (a_ : Hp) f => ∃ (i : Nat) (r : GridR) (L18 : Hp), k_ = r8.Cells.n - i ∧ a_ = [(b12, .cells (List.toArray [i64 r.W, i64 r.H, .slice r.Cells.A r.Cells.n r.Cells.c]) 28 (0, 0))] ++ L18 ∧ (i ≤ r8.Cells.n) ∧ (r.W = (shownD s.dat).W ∧ r.H = (shownD s.dat).H ∧ r.Cells.xs.length = (shownD s.dat).Cells.length) ∧ (∀ k, k < (shownD s.dat).Cells.length → cat r.Cells.xs k = partF (shownD s.dat) (clearF (shownD s.dat) a b) 0 i k) ∧ ownGridR r L18 ∧ Sub [(15, .int .i64 i)] f) (((fun (i : Nat) => r8.Cells.n - i) (0))) ?_ ?_
 ·refine ⟨0, r8, L1_9, rfl, rfl, ?_, ?_, ?_, ho10, ⟨rfl, trivial⟩⟩
  · omega
  · exact ⟨congrArg GridD.W hd0, congrArg GridD.H hd0, hl0⟩
  · intro k hk; rw [partF_zero]; exact congrArg (fun d : GridD => cat d.Cells k) hd0
 ·rintro _ _ f w ⟨i, r, L18, rfl, rfl, p0, p1, p2, ho19, hG⟩ hF hs21
  refine WC.sub _ (hG.app hF) ?_
  clear hG hF
  replace hs21 := St.ungrp1 [_] hs21
  have hs22 := (((hs21.fb b2).fb b4).fb b12)
  have hsmr : smGrid 549755813888 r.dat := by show r.Cells.xs.length ≤ 549755813888; rw [p1.2.2]; omega
  have hnr := ownGridR.len ‹ownGridR r _›
  refine WC.r1 hs22 [] rfl ?_
  refine WC.seq (fun K23 hK23 => ?_)
  refine WC.cq rfl (fun h24 qh24 => ?_) (fun h24 qh24 => ?_)
  ·refine WC.skip ?_
   refine hK23 _ _ ?_
   refine WC.seq (fun K25 hK25 => ?_)
   refine WC.block ?_
   refine WC.r1 hs22 [] rfl ?_
   refine WC.sr ?_
   refine WL.r 4 hs22 [] rfl ?_
   refine WL.pA tbk 3 Acts.nil hs22 [] rfl rfl rfl rfl (fun g_ => trivial) ?_
   refine WL.nil ?_
   refine WC.cq rfl (fun h26 qh26 => ?_) (fun h26 qh26 => ?_)
   ·have hin : a ≤ (i : Int) ∧ (i : Int) < b := by have h9 := h26; simp at h9; exact h9
    refine WC.rG 5 ((hs22.rm L18).rm L_s) hs22 hs22 (fun _ hs27 => ?_)
    refine WG.rn [0, 1, 2] hs27 [0] rfl rfl ?_
    refine WG.o1 3 rfl rfl ?_
    refine WL.cl Tryz.call180 rfl (c_spec_l07Blank _) ?_
    rintro _ whs28 ⟨rfl, hs28⟩
    replace hs28 := hs27.call0 hs28
    refine ⟨_, rfl, ?_⟩
    refine WL.nil ⟨hs28, ?_⟩
    refine WG.tk 4 rfl (by kernel_rfl) rfl rfl rfl hs28 (fun w_ hs_ => (Run.idxN Tryz.runUnderlying26 Tryz.sizeOf75 rfl rfl rfl ?_ ?_ ?_)) ?_
    · exact SlF.some_ (ownGridR.ok (B := 549755813888) ho19 ((hs_ : St _ _ _ _).ow L18) hsmr).Cells
    · first | omega | (rw [p1.2.2] at *; omega)
    · first | omega | (rw [p1.2.2] at *; omega)
    refine WG.oK rfl ?_
    refine WL.storeF1 (x' := blankC) (hs28.fr L18) ho19 Tryz.sizeOf75 rfl rfl rfl rfl rfl rfl rfl rfl rfl ?_ rfl (fun L29 whs30 hs30 ho31 _ => ?_)
    · first | omega | (rw [p1.2.2] at *; omega)
    replace hs30 := St.back [_, _, _] hs30
    refine WL.nil ⟨((hs30.rm L29).rm L_s), ?_⟩
    refine WH.dn ?_
    refine hK25 _ _ ?_
    refine WC.region ?_
    refine WL.r 2 hs30 [] rfl ?_
    refine WL.nil ?_
    refine tkN ?_
    have hF32 := (St.grp1 (L1 := L29) [_] (((((hs30.fr L_s).fb b2).fb b4).fr L29).fb b12))
    refine ⟨sbF rfl, _, hF32, _, ?_, i + 1, ⟨r.W, r.H, SlD.of ho31⟩, L29, rfl, rfl, ?_, ?_, ?_, ho31, ⟨rfl, trivial⟩⟩
    · omega
    · omega
    · first | exact p1 | exact ⟨p1.1, p1.2.1, by simp only [List.length_set]; exact p1.2.2⟩
    · intro k hk; show cat _ k = _; first | exact part_next (g := (shownD s.dat)) (by omega) (by rw [p1.2.2]; omega) (clearF_in ⟨by omega, by omega⟩).symm (p2 k hk) | exact part_skip (g := (shownD s.dat)) (clearF_out hout) (p2 k hk)
   ·have hout : ¬ (a ≤ (i : Int) ∧ (i : Int) < b) := by rintro ⟨z1, z2⟩; have h9 := h26; simp at h9; have := h9 z1; omega
    refine WC.skip ?_
    refine hK25 _ _ ?_
    refine WC.region ?_
    refine WL.r 2 hs22 [] rfl ?_
    refine WL.nil ?_
    refine tkN ?_
    have hF33 := (St.grp1 (L1 := L18) [_] (((((hs22.fr L_s).fb b2).fb b4).fr L18).fb b12))
    refine ⟨sbF rfl, _, hF33, _, ?_, i + 1, r, L18, rfl, rfl, ?_, ?_, ?_, ho19, ⟨rfl, trivial⟩⟩
    · omega
    · omega
    · first | exact p1 | exact ⟨p1.1, p1.2.1, by simp only [List.length_set]; exact p1.2.2⟩
    · intro k hk; show cat _ k = _; first | exact part_next (g := (shownD s.dat)) (by omega) (by rw [p1.2.2]; omega) (clearF_in ⟨by omega, by omega⟩).symm (p2 k hk) | exact part_skip (g := (shownD s.dat)) (clearF_out hout) (p2 k hk)
  ·refine WC.exit ?_
   refine hK15 _ _ ?_
   refine WC.sr ?_
   refine WL.r 2 hs22 [2, 0] rfl ?_
   refine WL.cl Tryz.call143 rfl (c_spec_l09Put s _ r _ _ o_s (hs22.ow L_s) ho19 (hs22.ow L18) (St.nodupL (St.grp2 (L1 := L_s) (L2 := L18) [] ((hs22.fr L18).fr L_s)))) ?_
   rintro _ whs34 ⟨r35, L1_36, rfl, hs34, ho37, hd38⟩
   replace hs34 := St.lend (St.grp2 (L1 := L_s) (L2 := L18) [] ((hs22.fr L18).fr L_s)) hs34
   refine ⟨_, rfl, ?_⟩
   replace hs34 := St.back [_, _, _] hs34
   refine WL.st tbk hs34 1 rfl rfl (fun _ hs39 => ?_)
   refine WL.nil ?_
   refine WC.ret ?_
   refine retV1 rfl (resV.cellA tbk hs39 1 rfl rfl rfl rfl) ?_
   refine ⟨r35, _, rfl, (St.keep1 (hs39.fr L1_36)), ?_, ?_⟩
   · exact ho37
   · refine hd38.trans ?_; unfold clearD; congr 1; exact part_done (g := (shownD s.dat)) (lo := 0) (a := i) p1.1 p1.2.1 p1.2.2 (fun k hk h9 => absurd (show 0 ≤ k ∧ k < 0 + i by omega) h9) p2
theorem c_spec_l10Erase (s : ScrR) (L_s : Hp) (a : Int) (b : Int) (k : Int) (w : World) (o_s : ownScrR s L_s) (h_s : ∀ p, p ∈ L_s → w.heap[p.1]? = some p.2) (hd_ : ((L_s).map (·.1)).Nodup) (hf : ScrFine s.dat) (hsmB : smScr 549755813888 s.dat) :
    Calls Tryz.prog 178 #[.agg (cScr s).toArray, i64 a, i64 b, i64 k] w fun e w' => ∃ r L1, e = .returned (.agg (cScr r).toArray) ∧ St w ((L_s).map (·.1)) L1 w' ∧ ownScrR r L1 ∧ r.dat = eraseD s.dat a b k := by
 have hwh : (1 ≤ s.W ∧ s.W ≤ 120) ∧ 1 ≤ s.H ∧ s.H ≤ 120 := ⟨(isSize_bnd hf.size).1, (isSize_bnd hf.size).2.1⟩
 have hxy := hf.pos
 simp only [ScrR.dat, GridR.dat] at hxy
 have hz := isSize_bnd hf.size
 simp only [ScrR.dat] at hz
 have hv0 : 0 ≤ s.Y * s.W := Int.mul_nonneg (by omega) (by omega)
 have hv1 : (s.Y + 1) * s.W = s.Y * s.W + s.W := by rw [Int.add_mul, Int.one_mul]
 have hv2 : (s.Y + 1) * s.W ≤ s.H * s.W := Int.mul_le_mul_of_nonneg_right (by omega) (by omega)
 rw [Int.mul_comm s.H s.W] at hv2
 refine enter 39 Tryz.func178 rfl Tryz.ntmps178 rfl rfl ?_
 have hs1 := St.takes1 w L_s h_s hd_
 refine WC.sr ?_
 refine WL.bx hs1 rfl (fun b2 _ hs3 => ?_)
 refine WL.al hs3 Tryz.zeroValue33 rfl rfl (fun b4 _ hs5 => ?_)
 refine WL.nil ?_
 refine WC.r1 hs5 [1, 1, 1] rfl ?_
 refine WC.seq (fun K6 hK6 => ?_)
 refine WC.r1 hs5 [] rfl ?_
 refine WC.block ?_
 refine WC.r1 hs5 [] rfl ?_
 refine WC.cq rfl (fun h7 qh7 => ?_) (fun h7 qh7 => ?_)
 ·have e0 : k = 0 := by have h9 := h7; simpa using h9
  refine WC.sr ?_
  refine WL.r 3 hs5 [1] rfl ?_
  refine WL.cl Tryz.call229 rfl (c_spec_l10Blank s _ _ _ _ o_s (hs5.ow L_s) (St.nodupL (hs5.fr L_s)) ?_ ?_) ?_
  · first | (first | assumption | rfl | omega) | (first | assumption | omega)
  · first | (first | assumption | rfl | omega) | (first | assumption | omega)
  rintro _ whs8 ⟨r9, L1_10, rfl, hs8, ho11, hd12⟩
  replace hs8 := St.lend (hs5.fr L_s) hs8
  refine ⟨_, rfl, ?_⟩
  replace hs8 := St.back [_, _] hs8
  refine WL.st tbk hs8 0 rfl rfl (fun _ hs13 => ?_)
  refine WL.nil ?_
  refine WC.ret ?_
  refine ibR (tkR ?_)
  clear hK6
  refine retV1 rfl (resV.cellA tbk hs13 0 rfl rfl rfl rfl) ?_
  refine ⟨r9, _, rfl, (St.keep1 (hs13.fr L1_10)), ?_, ?_⟩
  · exact ho11
  · unfold eraseD; rw [if_pos e0]; exact hd12
 ·have e0 : ¬ k = 0 := by have h9 := h7; simpa using h9
  refine WC.r1 hs5 [] rfl ?_
  refine WC.cq rfl (fun h14 qh14 => ?_) (fun h14 qh14 => ?_)
  ·have e1 : k = 1 := by have h9 := h14; simpa using h9
   refine WC.sr ?_
   refine WL.r 4 hs5 [1] rfl ?_
   refine WL.cl Tryz.call229 rfl (c_spec_l10Blank s _ _ _ _ o_s (hs5.ow L_s) (St.nodupL (hs5.fr L_s)) ?_ ?_) ?_
   · first | (first | assumption | rfl | omega) | (first | assumption | omega)
   · first | (first | assumption | rfl | omega) | (first | assumption | omega)
   rintro _ whs15 ⟨r16, L1_17, rfl, hs15, ho18, hd19⟩
   replace hs15 := St.lend (hs5.fr L_s) hs15
   refine ⟨_, rfl, ?_⟩
   replace hs15 := St.back [_, _] hs15
   refine WL.st tbk hs15 0 rfl rfl (fun _ hs20 => ?_)
   refine WL.nil ?_
   refine WC.ret ?_
   refine ibR (tkR ?_)
   clear hK6
   refine retV1 rfl (resV.cellA tbk hs20 0 rfl rfl rfl rfl) ?_
   refine ⟨r16, _, rfl, (St.keep1 (hs20.fr L1_17)), ?_, ?_⟩
   · exact ho18
   · unfold eraseD; rw [if_neg e0, if_pos e1]; exact hd19
  ·have e1 : ¬ k = 1 := by have h9 := h14; simpa using h9
   refine WC.r1 hs5 [] rfl ?_
   refine WC.cq rfl (fun h21 qh21 => ?_) (fun h21 qh21 => ?_)
   ·have e2 : k = 2 := by have h9 := h21; simpa using h9
    refine WC.sr ?_
    refine WL.r 3 hs5 [1] rfl ?_
    refine WL.cl Tryz.call229 rfl (c_spec_l10Blank s _ _ _ _ o_s (hs5.ow L_s) (St.nodupL (hs5.fr L_s)) ?_ ?_) ?_
    · first | (first | assumption | rfl | omega) | (first | assumption | omega)
    · first | (first | assumption | rfl | omega) | (first | assumption | omega)
    rintro _ whs22 ⟨r23, L1_24, rfl, hs22, ho25, hd26⟩
    replace hs22 := St.lend (hs5.fr L_s) hs22
    refine ⟨_, rfl, ?_⟩
    replace hs22 := St.back [_, _] hs22
    refine WL.st tbk hs22 0 rfl rfl (fun _ hs27 => ?_)
    refine WL.nil ?_
    refine WC.ret ?_
    refine ibR (tkR ?_)
    clear hK6
    refine retV1 rfl (resV.cellA tbk hs27 0 rfl rfl rfl rfl) ?_
    refine ⟨r23, _, rfl, (St.keep1 (hs27.fr L1_24)), ?_, ?_⟩
    · exact ho25
    · unfold eraseD; rw [if_neg e0, if_neg e1, if_pos e2]; exact hd26
   ·have e2 : ¬ k = 2 := by have h9 := h21; simpa using h9
    refine WC.skip ?_
    refine hK6 _ _ ?_
    refine WC.sr ?_
    refine WL.r 1 hs5 [1] rfl ?_
    refine WL.st tbk hs5 0 rfl rfl (fun _ hs28 => ?_)
    refine WL.nil ?_
    refine WC.ret ?_
    refine retV1 rfl (resV.cellA tbk hs28 0 rfl rfl rfl rfl) ?_
    refine ⟨s, _, rfl, (St.keep1 (hs28.fr L_s)), ?_, ?_⟩
    · exact o_s
    · unfold eraseD; rw [if_neg e0, if_neg e1, if_neg e2]
theorem c_spec_l10Region (s : ScrR) (L_s : Hp) (A_l : Option Addr) (n_l c_l : Nat) (l : List Int) (w : World) (o_s : ownScrR s L_s) (h_s : ∀ p, p ∈ L_s → w.heap[p.1]? = some p.2) (f_l : SlF encI w A_l n_l l) (hd_ : ((L_s).map (·.1)).Nodup) (s_l : 0 < n_l → (adr A_l).block ∉ ((L_s).map (·.1))) (hf : ScrFine s.dat) (hsmB : smScr 549755813888 s.dat) (hl : areArgs l = true) (hll : n_l ≤ 549755813888) :
    Calls Tryz.prog 185 #[.agg (cScr s).toArray, .slice A_l n_l c_l] w fun e w' => ∃ r L1, e = .returned (.agg (cScr r).toArray) ∧ St w ((L_s).map (·.1)) L1 w' ∧ ownScrR r L1 ∧ r.dat = regionD s.dat l := by
 have hwh : (1 ≤ s.W ∧ s.W ≤ 120) ∧ 1 ≤ s.H ∧ s.H ≤ 120 := ⟨(isSize_bnd hf.size).1, (isSize_bnd hf.size).2.1⟩
 have hxy := hf.pos
 simp only [ScrR.dat, GridR.dat] at hxy
 have ha0 := argI_bnd (k := 0) (d := 1) hl (by omega)
 have ha1 : 0 ≤ argI l 1 s.H ∧ argI l 1 s.H ≤ 9999 := argI_bnd hl (by omega)
 refine enter 31 Tryz.func185 rfl Tryz.ntmps185 rfl rfl ?_
 have hs1 := St.takes1 w L_s h_s hd_
 refine WC.sr ?_
 refine WL.bx hs1 rfl (fun b2 _ hs3 => ?_)
 refine WL.al hs3 Tryz.zeroValue33 rfl rfl (fun b4 _ hs5 => ?_)
 refine WL.nil ?_
 refine WC.sr ?_
 refine WL.r 1 hs5 [] rfl ?_
 refine WL.cl Tryz.call177 rfl (c_spec_l10Arg_0 _ _ _ _ _ _ (SlF.st f_l hs5 s_l) ?_) ?_
 · first | (first | assumption | rfl | omega) | (first | assumption | omega | exact hsm2 | exact hsB2)
 rintro _ whs6 ⟨rfl, hs6⟩
 replace hs6 := hs5.call0 hs6
 refine ⟨_, rfl, ?_⟩
 refine WL.r 2 hs6 [] rfl ?_
 refine WL.nil ?_
 refine WC.sr ?_
 refine WL.r 3 hs6 [1] rfl ?_
 refine WL.cl Tryz.call177 rfl (c_spec_l10Arg_1 _ _ _ _ _ _ (SlF.st f_l hs6 s_l) ?_) ?_
 · first | (first | assumption | rfl | omega) | (first | assumption | omega | exact hsm2 | exact hsB2)
 rintro _ whs7 ⟨rfl, hs7⟩
 replace hs7 := hs6.call0 hs7
 refine ⟨_, rfl, ?_⟩
 refine WL.r 2 hs7 [] rfl ?_
 refine WL.nil ?_
 refine WC.seq (fun K8 hK8 => ?_)
 refine WC.sr ?_
 refine WL.r 4 hs7 [] rfl ?_
 refine WL.pO tbk 4 Acts.nil hs7 [1] rfl rfl rfl rfl (fun g_ => ⟨rfl, trivial⟩) ?_
 refine WL.nil ?_
 refine WC.cq rfl (fun h9 qh9 => ?_) (fun h9 qh9 => ?_)
 ·have hr : ¬ (argI l 0 1 - 1 < argI l 1 s.H - 1 ∧ argI l 1 s.H - 1 < s.H) := by rintro ⟨z1, z2⟩; have h9 := h9; simp at h9; omega
  refine WC.sr ?_
  refine WL.r 1 hs7 [1] rfl ?_
  refine WL.st tbk hs7 0 rfl rfl (fun _ hs10 => ?_)
  refine WL.nil ?_
  refine WC.ret ?_
  refine tkR ?_
  clear hK8
  refine retV1 rfl (resV.cellA tbk hs10 0 rfl rfl rfl rfl) ?_
  refine ⟨s, _, rfl, (St.keep1 (hs10.fr L_s)), ?_, ?_⟩
  · exact o_s
  · unfold regionD; rw [if_neg (show ¬ (argI l 0 1 - 1 < argI l 1 s.dat.H - 1 ∧ argI l 1 s.dat.H - 1 < s.dat.H) from hr)]
 ·have hr : argI l 0 1 - 1 < argI l 1 s.H - 1 ∧ argI l 1 s.H - 1 < s.H := by have h9 := h9; simp at h9; omega
  have hf2 := hf.reg2 hl hr
  have hsm2 := fine_smB (B := 1048576) hf2 (by decide)
  have hsB2 := fine_smB (B := 549755813888) hf2 (by decide)
  refine WC.skip ?_
  refine hK8 _ _ ?_
  refine WC.sr ?_
  refine WL.r 2 hs7 [] rfl ?_
  refine WL.st tbk hs7 1 rfl rfl (fun _ hs11 => ?_)
  refine WL.nil ?_
  refine WC.sr ?_
  refine WL.r 2 hs11 [] rfl ?_
  refine WL.st tbk hs11 1 rfl rfl (fun _ hs12 => ?_)
  refine WL.nil ?_
  refine WC.sr ?_
  refine WL.r 1 hs12 [1] rfl ?_
  have hk14 := (ownScrR.ok (B := 549755813888) o_s (hs12.ow L_s) (by assumption))
  have hk15 := (ownScrR.ok (B := 549755813888) o_s (hs12.ow L_s) (by assumption))
  refine WL.cl Tryz.call163 rfl (c_spec_ScrGo (⟨s.W, s.H, ⟨s.Main.W, s.Main.H, s.Main.Cells⟩, ⟨s.Alt.W, s.Alt.H, s.Alt.Cells⟩, s.OnAlt, s.X, s.Y, s.Wrap, ⟨s.A.Fg, s.A.Bg, s.A.Bold, s.A.Under, s.A.Turn⟩, ((argI l 0 (1)) - (1)), ((argI l 1 s.H) - (1)), s.NoWrap, s.Hide, s.SaveX, s.SaveY, ⟨s.SaveA.Fg, s.SaveA.Bg, s.SaveA.Bold, s.SaveA.Under, s.SaveA.Turn⟩, s.Tabs, s.Limit, s.Back⟩ : ScrR) _ _ _ ⟨⟨hk14.Main.Cells, hk14.Main.Cells_c, hk14.Main.Cells_n⟩, ⟨hk14.Alt.Cells, hk14.Alt.Cells_c, hk14.Alt.Cells_n⟩, hk14.Tabs, hk14.Tabs_c, hk14.Tabs_n, hk14.Back, hk14.Back_c, hk14.Back_n⟩ ?_) ?_
  · first | (first | assumption | rfl | omega) | (first | assumption | omega | exact hsm2 | exact hsB2)
  rintro _ whs13 ⟨r16, L1_17, rfl, hs13, ho18, hd19⟩
  replace hs13 := hs12.callF hs13
  refine ⟨_, rfl, ?_⟩
  replace hs13 := St.back [_, _] hs13
  refine WL.st tbk hs13 0 rfl rfl (fun _ hs20 => ?_)
  refine WL.nil ?_
  refine WC.ret ?_
  refine retV1 rfl (resV.cellA tbk hs20 0 rfl rfl rfl rfl) ?_
  refine ⟨r16, _, rfl, (St.keep1 (hs20.fr L1_17)), ?_, ?_⟩
  · exact ho18
  · unfold regionD; rw [if_pos (show argI l 0 1 - 1 < argI l 1 s.dat.H - 1 ∧ argI l 1 s.dat.H - 1 < s.dat.H from hr)]; exact hd19.trans (scrGo_eq hf2)
theorem c_spec_l10Tabs (s : ScrR) (L_s : Hp) (k : Int) (w : World) (o_s : ownScrR s L_s) (h_s : ∀ p, p ∈ L_s → w.heap[p.1]? = some p.2) (hd_ : ((L_s).map (·.1)).Nodup) (hf : ScrFine s.dat) (hsmB : smScr 549755813888 s.dat) :
    Calls Tryz.prog 186 #[.agg (cScr s).toArray, i64 k] w fun e w' => ∃ r L1, e = .returned (.agg (cScr r).toArray) ∧ St w ((L_s).map (·.1)) L1 w' ∧ ownScrR r L1 ∧ r.dat = tabsD s.dat k := by
 obtain ⟨_, _, hTl, _⟩ := ownScrR.len o_s
 have hTs : s.Tabs.xs.length ≤ 1048576 := (fine_smB (B := 1048576) hf (by decide)).2.2.1
 refine enter 40 Tryz.func186 rfl Tryz.ntmps186 rfl rfl ?_
 have hs1 := St.takes1 w L_s h_s hd_
 refine WC.sr ?_
 refine WL.bx hs1 rfl (fun b2 _ hs3 => ?_)
 refine WL.al hs3 Tryz.zeroValue33 rfl rfl (fun b4 _ hs5 => ?_)
 refine WL.nil ?_
 refine WC.sr ?_
 refine WL.buildF (F := encI) hs5 ([]) Tryz.runUnderlying23 Tryz.sizeOf3 Tryz.zeroValue3 rfl rfl rfl rfl rfl rfl rfl rfl rfl rfl rfl rfl (fun A9 c10 L6 whs7 hs7 ho8 => ?_)
 replace hs7 := St.back [_, _] hs7
 refine WL.r 1 hs7 [] rfl ?_
 refine WL.nil ?_
 refine WC.seq (fun K11 hK11 => ?_)
 refine WC.r1 hs7 [1] rfl ?_
 refine WC.block ?_
 have hM16 := (St.grp1 (L1 := L6) [] ((((hs7.fr L_s).fb b2).fb b4).fr L6))
 refine WC.lV [1, 2, 4, 10, 11] rfl hM16 (fun k_ (a_ : Hp) f => ∃ (i : Nat) (zs : List Int) (A12 : Option Addr) (c13 : Nat) (L14 : Hp), k_ = s.Tabs.n - i ∧ a_ = L14 ∧ (i ≤ s.Tabs.n) ∧ (zs = (s.Tabs.xs.take i).filter (tabP s.dat k)) ∧ (zs.length ≤ i) ∧ OwnF encI 3 (.slice A12 (zs).length c13) (zs) L14 ∧ Sub [(5, .slice A12 (zs).length c13), (12, .int .i64 i)] f) (((fun (i : Nat) (zs : List Int) => s.Tabs.n - i) (0) ([]))) ?_ ?_
 ·refine ⟨0, [], A9, c10, L6, rfl, rfl, ?_, ?_, ?_, ho8, ⟨rfl, rfl, trivial⟩⟩
  · omega
  · rfl
  · exact Nat.le_refl _
 ·rintro _ L14 f w ⟨i, zs, A12, c13, _, rfl, rfl, p0, p1, p2, ho15, hG⟩ hF hs17
  refine WC.sub _ (hG.app hF) ?_
  clear hG hF
  replace hs17 := St.ungrp1 [] hs17
  have hs18 := ((hs17.fb b2).fb b4)
  refine WC.r1 hs18 [] rfl ?_
  refine WC.seq (fun K19 hK19 => ?_)
  refine WC.cq rfl (fun h20 qh20 => ?_) (fun h20 qh20 => ?_)
  ·refine WC.skip ?_
   refine hK19 _ _ ?_
   refine WC.seq (fun K21 hK21 => ?_)
   refine WC.block ?_
   refine WC.sr ?_
   refine WL.val rfl rfl rfl (Run.idxN Tryz.runUnderlying23 Tryz.sizeOf3 rfl rfl rfl ?_ ?_ ?_) ?_
   · exact SlF.some_ (ownScrR.ok (B := 549755813888) o_s (hs18.ow L_s) (by assumption)).Tabs
   · omega
   · omega
   refine WL.val rfl rfl rfl (Run.load Tryz.isAgg3 rfl rfl (SlF.one1 (ownScrR.ok (B := 549755813888) o_s (hs18.ow L_s) (by assumption)).Tabs ?_ rfl)) ?_
   · omega
   refine WL.r 1 hs18 [] rfl ?_
   refine WL.nil ?_
   refine WC.sr ?_
   refine WL.r 3 hs18 [] rfl ?_
   refine WL.pA tbk 4 Acts.nil hs18 [1] rfl rfl rfl rfl (fun g_ => ⟨rfl, trivial⟩) ?_
   refine WL.r 1 hs18 [] rfl ?_
   apply WL.gO 6 Acts.nil hs18 rfl
   ·intro g22 J23
    have qg22 := g22
    try simp only [bf, within_iff, within_not] at qg22
    refine WL.runA tbk 3 (Acts.nil.cons (j := 8) rfl g22) hs18 [] rfl trivial ?_
    refine WL.pA tbk 2 (Acts.nil.cons (j := 8) rfl g22) hs18 [] rfl rfl rfl rfl (fun g_ => trivial) ?_
    exact WL.eO 4 Acts.nil J23 hs18 g22 rfl rfl
   ·intro _ hs24
    refine WL.nil ?_
    refine WC.cq rfl (fun h25 qh25 => ?_) (fun h25 qh25 => ?_)
    ·have hin : tabP s.dat k (iat s.Tabs.xs i) = true := by rw [tabP_iff]; show (k = 0 ∧ ¬ iat s.Tabs.xs i = s.X) ∨ (¬ k = 0 ∧ ¬ k = 3); have h9 := h25; simp at h9; first | exact h9 | omega
     refine WC.region ?_
     refine WL.r 2 hs24 [] rfl ?_
     refine WL.buildSlice hs24 Tryz.runUnderlying23 Tryz.sizeOf3 Tryz.zeroValue3 rfl rfl rfl rfl rfl rfl rfl rfl rfl rfl (fun b26 whs27 hs27 => ?_)
     refine WL.appendG (hs27.fr L14) ho15 (srcI1 Tryz.underlying23 (hs27.own _ (nthL_mem (i := 0) rfl)).1) Tryz.underlying23 info_3 rfl rfl rfl rfl rfl rfl rfl rfl rfl rfl ?_ (fun A31 c32 L28 whs29 hs29 ho30 => ?_)
     · simp; omega
     replace hs29 := St.back [_, _, _] hs29
     refine WL.r 1 hs29 [] rfl ?_
     refine WL.nil ?_
     refine hK21 _ _ ?_
     refine WC.region ?_
     refine WL.r 2 hs29 [] rfl ?_
     refine WL.nil ?_
     refine tkN ?_
     replace hs29 := hs29.d1
     have hF33 := (St.grp1 (L1 := L28) [] ((((hs29.fr L_s).fb b2).fb b4).fr L28))
     refine ⟨sbF rfl, _, hF33, _, ?_, i + 1, _, A31, c32, L28, rfl, rfl, ?_, ?_, ?_, ho30, ⟨rfl, rfl, trivial⟩⟩
     · omega
     · omega
     · rw [p1]; first | exact (filt_in (by omega) hin).symm | exact (filt_out (by omega) hout).symm
     · (try simp only [List.length_append, List.length_singleton]); omega
    ·have hout : ¬ tabP s.dat k (iat s.Tabs.xs i) = true := by rw [tabP_iff]; show ¬ ((k = 0 ∧ ¬ iat s.Tabs.xs i = s.X) ∨ (¬ k = 0 ∧ ¬ k = 3)); intro z9; have h9 := h25; simp at h9; rcases z9 with z9 | z9; exact z9.2 (h9.1 z9.1); exact z9.2 (h9.2 z9.1)
     refine WC.skip ?_
     refine hK21 _ _ ?_
     refine WC.region ?_
     refine WL.r 2 hs24 [] rfl ?_
     refine WL.nil ?_
     refine tkN ?_
     have hF34 := (St.grp1 (L1 := L14) [] ((((hs24.fr L_s).fb b2).fb b4).fr L14))
     refine ⟨sbF rfl, _, hF34, _, ?_, i + 1, _, A12, c13, L14, rfl, rfl, ?_, ?_, ?_, ho15, ⟨rfl, rfl, trivial⟩⟩
     · omega
     · omega
     · rw [p1]; first | exact (filt_in (by omega) hin).symm | exact (filt_out (by omega) hout).symm
     · (try simp only [List.length_append, List.length_singleton]); omega
  ·refine WC.exit ?_
   refine hK11 _ _ ?_
   refine WC.sr ?_
   refine WL.r 2 hs18 [] rfl ?_
   refine WL.st tbk hs18 1 rfl rfl (fun _ hs35 => ?_)
   refine WL.nil ?_
   refine WC.sr ?_
   refine WL.r 1 hs35 [1] rfl ?_
   refine WL.st tbk hs35 0 rfl rfl (fun _ hs36 => ?_)
   refine WL.nil ?_
   refine WC.ret ?_
   refine retV1 rfl (resV.cellA tbk hs36 0 rfl rfl rfl rfl) ?_
   obtain ⟨L37, L38, L39, L40, hs45, ho41, ho42, ho43, ho44⟩ := ownScrR.open_ (hs36.fr L_s) o_s
   have hs46 := ((hs45.fb b2).fb b4)
   obtain ⟨L48, hs47, ho49⟩ := ownScrR.fl ((((hs46.fr L40).fr L14).fr L38).fr L37) ho41 ho42 ho15 ho44
   have hs50 := ((hs47.fb b2).fb b4)
   refine ⟨⟨s.W, s.H, ⟨s.Main.W, s.Main.H, SlD.of ho41⟩, ⟨s.Alt.W, s.Alt.H, SlD.of ho42⟩, s.OnAlt, s.X, s.Y, s.Wrap, ⟨s.A.Fg, s.A.Bg, s.A.Bold, s.A.Under, s.A.Turn⟩, s.Top, s.Bot, s.NoWrap, s.Hide, s.SaveX, s.SaveY, ⟨s.SaveA.Fg, s.SaveA.Bg, s.SaveA.Bold, s.SaveA.Under, s.SaveA.Turn⟩, SlD.of ho15, s.Limit, SlD.ofN ho44⟩, _, rfl, (St.keep1 (hs50.fr L48)), ?_, ?_⟩
   · exact (by exact ho49)
   · rw [tabsD_P]; refine Eq.trans ?_ (show ({ s.dat with Tabs := zs } : ScrD) = { s.dat with Tabs := s.dat.Tabs.filter (tabP s.dat k) } from by rw [p1, List.take_of_length_le (by omega)]; rfl); rfl
end Go.Proofs.YtjmegoiclgancaaGreat
namespace Go.Proofs.YtjmegoiclgancaaGreat
open Go Go.RowKit
set_option linter.unusedVariables false
set_option linter.unusedSimpArgs false
theorem c_spec_l10Lines (s : ScrR) (L_s : Hp) (n : Int) (w : World) (o_s : ownScrR s L_s) (h_s : ∀ p, p ∈ L_s → w.heap[p.1]? = some p.2) (hd_ : ((L_s).map (·.1)).Nodup) (hf : ScrFine s.dat) (hsmB : smScr 549755813888 s.dat) (hn : -100000 ≤ n ∧ n ≤ 100000) :
    Calls Tryz.prog 182 #[.agg (cScr s).toArray, i64 n] w fun e w' => ∃ r L1, e = .returned (.agg (cScr r).toArray) ∧ St w ((L_s).map (·.1)) L1 w' ∧ ownScrR r L1 ∧ r.dat = linesD s.dat n := by
 have hwh : (1 ≤ s.W ∧ s.W ≤ 120) ∧ 1 ≤ s.H ∧ s.H ≤ 120 := ⟨(isSize_bnd hf.size).1, (isSize_bnd hf.size).2.1⟩
 have hxy := hf.pos
 simp only [ScrR.dat, GridR.dat] at hxy
 have hrg : (0 ≤ s.Top ∧ s.Top ≤ s.Bot) ∧ s.Bot < s.H := ⟨hf.reg.1, hf.reg.2.1⟩
 have hgs : gridOk (shownR s).dat = true := by rw [shownR_dat]; exact hf.shown.1
 have hHs : (shownR s).H = s.H := by have h9 : (shownR s).H = (shownD s.dat).H := congrArg GridD.H shownR_dat; rw [h9]; exact hf.shown.2.2
 refine enter 31 Tryz.func182 rfl Tryz.ntmps182 rfl rfl ?_
 have hs1 := St.takes1 w L_s h_s hd_
 refine WC.sr ?_
 refine WL.bx hs1 rfl (fun b2 _ hs3 => ?_)
 refine WL.al hs3 Tryz.zeroValue33 rfl rfl (fun b4 _ hs5 => ?_)
 refine WL.nil ?_
 refine WC.seq (fun K6 hK6 => ?_)
 refine WC.sr ?_
 refine WL.r 6 hs5 [1, 1] rfl ?_
 refine WL.pO tbk 5 Acts.nil hs5 [1, 1] rfl rfl rfl rfl (fun g_ => ⟨rfl, rfl, trivial⟩) ?_
 refine WL.nil ?_
 refine WC.cq rfl (fun h7 qh7 => ?_) (fun h7 qh7 => ?_)
 ·have hwi : ¬ within s.dat.Y s.dat.Top s.dat.Bot = true := by rw [within_iff]; show ¬ (s.Top ≤ s.Y ∧ s.Y ≤ s.Bot); have h9 := h7; simp at h9; omega
  refine WC.sr ?_
  refine WL.r 1 hs5 [1] rfl ?_
  refine WL.st tbk hs5 0 rfl rfl (fun _ hs8 => ?_)
  refine WL.nil ?_
  refine WC.ret ?_
  refine tkR ?_
  clear hK6
  refine retV1 rfl (resV.cellA tbk hs8 0 rfl rfl rfl rfl) ?_
  refine ⟨s, _, rfl, (St.keep1 (hs8.fr L_s)), ?_, ?_⟩
  · exact o_s
  · unfold linesD; rw [if_neg hwi]
 ·have hwi : within s.dat.Y s.dat.Top s.dat.Bot = true := by rw [within_iff]; show s.Top ≤ s.Y ∧ s.Y ≤ s.Bot; have h9 := h7; simp at h9; omega
  have hwj : s.Top ≤ s.Y ∧ s.Y ≤ s.Bot := within_iff.1 hwi
  refine WC.skip ?_
  refine hK6 _ _ ?_
  refine WC.seq (fun K9 hK9 => ?_)
  refine WC.rG 10 ((hs5.fb b2).d1.rm L_s) (hs5.rm L_s) hs5 (fun _ hs10 => ?_)
  refine WG.rn [0, 1, 3, 4, 5, 6, 7] (hs10.rm L_s) [1, 1, 1, 1] rfl rfl ?_
  refine WG.o1 2 rfl rfl ?_
  refine WL.cl Tryz.call145 rfl (c_spec_l09Shown s _ (ownScrR.ok (B := 549755813888) o_s (hs10.ow L_s) (by assumption))) ?_
  rintro _ whs11 ⟨rfl, hs11⟩
  replace hs11 := hs10.call0 hs11
  refine ⟨_, rfl, ?_⟩
  refine WL.nil ⟨(hs11.rm L_s), ?_⟩
  refine WG.o1 8 rfl rfl ?_
  refine WL.cl Tryz.call144 rfl (c_spec_GridRoll (shownR s) _ _ _ _ (okScrR.shown (ownScrR.ok (B := 549755813888) o_s (hs11.ow L_s) (by assumption))) ?_ ?_ ?_) ?_
  · first | (first | assumption | rfl | omega) | (first | assumption | omega)
  · first | (first | assumption | rfl | omega) | (first | assumption | omega)
  · first | (first | assumption | rfl | omega) | (first | assumption | omega)
  rintro _ whs12 ⟨r13, L1_14, rfl, hs12, ho15, hd16⟩
  replace hs12 := hs11.callF hs12
  refine ⟨_, rfl, ?_⟩
  replace hs12 := St.back [_, _] hs12
  have hgr := hd16
  refine WL.nil ⟨((hs12.rm L1_14).rm L_s), ?_⟩
  refine WG.o1 9 rfl rfl ?_
  refine WL.cl Tryz.call143 rfl (c_spec_l09Put s _ r13 _ _ o_s (hs12.ow L_s) ho15 (hs12.ow L1_14) (St.nodupL (St.grp2 (L1 := L_s) (L2 := L1_14) [] ((hs12.fr L1_14).fr L_s)))) ?_
  rintro _ whs17 ⟨r18, L1_19, rfl, hs17, ho20, hd21⟩
  replace hs17 := St.lend (St.grp2 (L1 := L_s) (L2 := L1_14) [] ((hs12.fr L1_14).fr L_s)) hs17
  refine ⟨_, rfl, ?_⟩
  replace hs17 := St.back [_, _] hs17
  have hpt := hd21
  refine WL.nil ⟨(hs17.rm L1_19), ?_⟩
  refine WG.oK rfl ?_
  refine WL.st tbk hs17 1 rfl rfl (fun _ hs22 => ?_)
  refine WL.nil ⟨((hs22.fb b2).d1.rm L1_19), ?_⟩
  refine WH.dn ?_
  refine hK9 _ _ ?_
  refine WC.sr ?_
  refine WL.r 1 hs22 [] rfl ?_
  refine WL.st tbk hs22 1 rfl rfl (fun _ hs23 => ?_)
  refine WL.nil ?_
  refine WC.sr ?_
  refine WL.r 1 hs23 [] rfl ?_
  refine WL.st tbk hs23 1 rfl rfl (fun _ hs24 => ?_)
  refine WL.nil ?_
  refine WC.sr ?_
  refine WL.r 1 hs24 [1] rfl ?_
  refine WL.st tbk hs24 0 rfl rfl (fun _ hs25 => ?_)
  refine WL.nil ?_
  refine WC.ret ?_
  refine retV1 rfl (resV.cellA tbk hs25 0 rfl rfl rfl rfl) ?_
  obtain ⟨L26, L27, L28, L29, hs34, ho30, ho31, ho32, ho33⟩ := ownScrR.open_ (hs25.fr L1_19) ho20
  have hs35 := ((hs34.fb b2).fb b4)
  obtain ⟨L37, hs36, ho38⟩ := ownScrR.fl ((((hs35.fr L29).fr L28).fr L27).fr L26) ho30 ho31 ho32 ho33
  have hs39 := ((hs36.fb b2).fb b4)
  refine ⟨⟨r18.W, r18.H, ⟨r18.Main.W, r18.Main.H, SlD.of ho30⟩, ⟨r18.Alt.W, r18.Alt.H, SlD.of ho31⟩, r18.OnAlt, (0), r18.Y, false, ⟨r18.A.Fg, r18.A.Bg, r18.A.Bold, r18.A.Under, r18.A.Turn⟩, r18.Top, r18.Bot, r18.NoWrap, r18.Hide, r18.SaveX, r18.SaveY, ⟨r18.SaveA.Fg, r18.SaveA.Bg, r18.SaveA.Bold, r18.SaveA.Under, r18.SaveA.Turn⟩, SlD.of ho32, r18.Limit, SlD.ofN ho33⟩, _, rfl, (St.keep1 (hs39.fr L37)), ?_, ?_⟩
  · exact (by exact ho38)
  · unfold linesD; rw [if_pos hwi]; show _ = ({ rollD s.dat s.Y s.Bot n with X := 0, Wrap := false } : ScrD); rw [show rollD s.dat s.Y s.Bot n = putD s.dat (gRoll (shownD s.dat) s.Y s.Bot n) from rfl, ← shownR_dat, ← hgr, ← hpt]; rfl
theorem c_spec_l10Mode (s : ScrR) (L_s : Hp) (n : Int) (on : Bool) (w : World) (o_s : ownScrR s L_s) (h_s : ∀ p, p ∈ L_s → w.heap[p.1]? = some p.2) (hd_ : ((L_s).map (·.1)).Nodup) (hf : ScrFine s.dat) (hsmB : smScr 549755813888 s.dat) :
    Calls Tryz.prog 100 #[.agg (cScr s).toArray, i64 n, .bool on] w fun e w' => ∃ r L1, e = .returned (.agg (cScr r).toArray) ∧ St w ((L_s).map (·.1)) L1 w' ∧ ownScrR r L1 ∧ r.dat = modeD s.dat n on := by
 have hwh : (1 ≤ s.W ∧ s.W ≤ 120) ∧ 1 ≤ s.H ∧ s.H ≤ 120 := ⟨(isSize_bnd hf.size).1, (isSize_bnd hf.size).2.1⟩
 have hxy := hf.pos
 simp only [ScrR.dat, GridR.dat] at hxy
 have hsz : isSize s.W s.H = true := hf.size
 have hf3 : ScrFine { s.dat with OnAlt := false } := ⟨hf.gM, hf.gA, hf.dim, hf.pos, hf.sav, hf.wrp, hf.aA, hf.aS, hf.reg, hf.lim, hf.tab, hf.row⟩
 have hsB3 := fine_smB (B := 549755813888) hf3 (by decide)
 refine enter 54 Tryz.func100 rfl Tryz.ntmps100 rfl rfl ?_
 have hs1 := St.takes1 w L_s h_s hd_
 refine WC.sr ?_
 refine WL.bx hs1 rfl (fun b2 _ hs3 => ?_)
 refine WL.al hs3 Tryz.zeroValue33 rfl rfl (fun b4 _ hs5 => ?_)
 refine WL.nil ?_
 refine WC.seq (fun K6 hK6 => ?_)
 refine WC.r1 hs5 [] rfl ?_
 refine WC.block ?_
 refine WC.r1 hs5 [] rfl ?_
 refine WC.cq rfl (fun h7 qh7 => ?_) (fun h7 qh7 => ?_)
 ·have e7 : n = 7 := by have h9 := h7; simpa using h9
  refine WC.sr ?_
  refine WL.r 3 hs5 [] rfl ?_
  refine WL.st tbk hs5 1 rfl rfl (fun _ hs8 => ?_)
  refine WL.nil ?_
  refine WC.region ?_
  refine WL.r 3 hs8 [1] rfl ?_
  refine WL.pA tbk 1 Acts.nil hs8 [] rfl rfl rfl rfl (fun g_ => trivial) ?_
  refine WL.r 1 hs8 [] rfl ?_
  refine WL.st tbk hs8 1 rfl rfl (fun _ hs9 => ?_)
  refine WL.nil ?_
  refine hK6 _ _ ?_
  refine WC.sr ?_
  refine WL.r 1 hs9 [1] rfl ?_
  refine WL.st tbk hs9 0 rfl rfl (fun _ hs10 => ?_)
  refine WL.nil ?_
  refine WC.ret ?_
  refine retV1 rfl (resV.cellA tbk hs10 0 rfl rfl rfl rfl) ?_
  obtain ⟨L11, L12, L13, L14, hs19, ho15, ho16, ho17, ho18⟩ := ownScrR.open_ (hs10.fr L_s) o_s
  have hs20 := ((hs19.fb b2).fb b4)
  obtain ⟨L22, hs21, ho23⟩ := ownScrR.fl ((((hs20.fr L14).fr L13).fr L12).fr L11) ho15 ho16 ho17 ho18
  have hs24 := ((hs21.fb b2).fb b4)
  refine ⟨⟨s.W, s.H, ⟨s.Main.W, s.Main.H, SlD.of ho15⟩, ⟨s.Alt.W, s.Alt.H, SlD.of ho16⟩, s.OnAlt, s.X, s.Y, _, ⟨s.A.Fg, s.A.Bg, s.A.Bold, s.A.Under, s.A.Turn⟩, s.Top, s.Bot, (!on), s.Hide, s.SaveX, s.SaveY, ⟨s.SaveA.Fg, s.SaveA.Bg, s.SaveA.Bold, s.SaveA.Under, s.SaveA.Turn⟩, SlD.of ho17, s.Limit, SlD.ofN ho18⟩, _, rfl, (St.keep1 (hs24.fr L22)), ?_, ?_⟩
  · exact (by exact ho23)
  · unfold modeD; rw [if_pos e7]; rfl
 ·have e7 : ¬ n = 7 := by have h9 := h7; simpa using h9
  refine WC.r1 hs5 [] rfl ?_
  refine WC.cq rfl (fun h25 qh25 => ?_) (fun h25 qh25 => ?_)
  ·have e25 : n = 25 := by have h9 := h25; simpa using h9
   refine WC.region ?_
   refine WL.r 3 hs5 [] rfl ?_
   refine WL.st tbk hs5 1 rfl rfl (fun _ hs26 => ?_)
   refine WL.nil ?_
   refine hK6 _ _ ?_
   refine WC.sr ?_
   refine WL.r 1 hs26 [1] rfl ?_
   refine WL.st tbk hs26 0 rfl rfl (fun _ hs27 => ?_)
   refine WL.nil ?_
   refine WC.ret ?_
   refine retV1 rfl (resV.cellA tbk hs27 0 rfl rfl rfl rfl) ?_
   obtain ⟨L28, L29, L30, L31, hs36, ho32, ho33, ho34, ho35⟩ := ownScrR.open_ (hs27.fr L_s) o_s
   have hs37 := ((hs36.fb b2).fb b4)
   obtain ⟨L39, hs38, ho40⟩ := ownScrR.fl ((((hs37.fr L31).fr L30).fr L29).fr L28) ho32 ho33 ho34 ho35
   have hs41 := ((hs38.fb b2).fb b4)
   refine ⟨⟨s.W, s.H, ⟨s.Main.W, s.Main.H, SlD.of ho32⟩, ⟨s.Alt.W, s.Alt.H, SlD.of ho33⟩, s.OnAlt, s.X, s.Y, s.Wrap, ⟨s.A.Fg, s.A.Bg, s.A.Bold, s.A.Under, s.A.Turn⟩, s.Top, s.Bot, s.NoWrap, (!on), s.SaveX, s.SaveY, ⟨s.SaveA.Fg, s.SaveA.Bg, s.SaveA.Bold, s.SaveA.Under, s.SaveA.Turn⟩, SlD.of ho34, s.Limit, SlD.ofN ho35⟩, _, rfl, (St.keep1 (hs41.fr L39)), ?_, ?_⟩
   · exact (by exact ho40)
   · unfold modeD; rw [if_neg e7, if_pos e25]; rfl
  ·have e25 : ¬ n = 25 := by have h9 := h25; simpa using h9
   refine WC.r1 hs5 [] rfl ?_
   refine WC.cq rfl (fun h42 qh42 => ?_) (fun h42 qh42 => ?_)
   ·have e1049 : n = 1049 := by have h9 := h42; simpa using h9
    refine WC.sr ?_
    refine WL.r 2 hs5 [] rfl ?_
    refine WL.pA tbk 3 Acts.nil hs5 [1] rfl rfl rfl rfl (fun g_ => ⟨rfl, trivial⟩) ?_
    refine WL.nil ?_
    refine WC.cq rfl (fun h43 qh43 => ?_) (fun h43 qh43 => ?_)
    ·have a1 : (n = 1049 ∧ on = true) ∧ s.dat.OnAlt = false := by show (n = 1049 ∧ on = true) ∧ s.OnAlt = false; have h9 := h43; simp at h9; exact ⟨⟨e1049, h9.1⟩, h9.2⟩
     refine WC.sr ?_
     refine WL.r 1 hs5 [1] rfl ?_
     refine WL.cl Tryz.call67 rfl (c_spec_l10Save s _ _ o_s (hs5.ow L_s) (St.nodupL (hs5.fr L_s))) ?_
     rintro _ whs44 ⟨r45, L1_46, rfl, hs44, ho47, hd48⟩
     replace hs44 := St.lend (hs5.fr L_s) hs44
     refine ⟨_, rfl, ?_⟩
     replace hs44 := St.back [_, _] hs44
     have hsv := hd48
     have hrW : r45.W = s.W := congrArg ScrD.W hsv
     have hrH : r45.H = s.H := congrArg ScrD.H hsv
     refine WL.st tbk hs44 1 rfl rfl (fun _ hs49 => ?_)
     refine WL.nil ?_
     refine WC.sr ?_
     refine WL.r 4 hs49 [1, 1] rfl ?_
     refine WL.cl Tryz.call146 rfl (c_spec_GridNew _ _ _) ?_
     rintro _ whs50 ⟨r0_51, L0_52, rfl, hs50, ho53, hd0_54⟩
     replace hs50 := hs49.callF hs50
     refine ⟨_, rfl, ?_⟩
     replace hs50 := St.back [_, _] hs50
     refine WL.r 4 hs50 [] rfl ?_
     refine WL.st tbk hs50 1 rfl rfl (fun _ hs55 => ?_)
     refine WL.nil ?_
     refine WC.region ?_
     refine WL.r 1 hs55 [] rfl ?_
     refine WL.st tbk hs55 1 rfl rfl (fun _ hs56 => ?_)
     refine WL.nil ?_
     refine hK6 _ _ ?_
     refine WC.sr ?_
     refine WL.r 1 hs56 [1] rfl ?_
     refine WL.st tbk hs56 0 rfl rfl (fun _ hs57 => ?_)
     refine WL.nil ?_
     refine WC.ret ?_
     refine retV1 rfl (resV.cellA tbk hs57 0 rfl rfl rfl rfl) ?_
     obtain ⟨L58, L59, L60, L61, hs66, ho62, ho63, ho64, ho65⟩ := ownScrR.open_ (hs57.fr L1_46) ho47
     have hs67 := ((hs66.fb b2).fb b4)
     obtain ⟨L69, hs68, ho70⟩ := ownScrR.fl ((((hs67.fr L61).fr L60).fr L0_52).fr L58) ho62 ho53 ho64 ho65
     have hs71 := ((hs68.fb b2).fb b4)
     refine ⟨⟨r45.W, r45.H, ⟨r45.Main.W, r45.Main.H, SlD.of ho62⟩, ⟨r0_51.W, r0_51.H, SlD.of ho53⟩, true, r45.X, r45.Y, r45.Wrap, ⟨r45.A.Fg, r45.A.Bg, r45.A.Bold, r45.A.Under, r45.A.Turn⟩, r45.Top, r45.Bot, r45.NoWrap, r45.Hide, r45.SaveX, r45.SaveY, ⟨r45.SaveA.Fg, r45.SaveA.Bg, r45.SaveA.Bold, r45.SaveA.Under, r45.SaveA.Turn⟩, SlD.of ho64, r45.Limit, SlD.ofN ho65⟩, _, rfl, (St.keep1 (hs71.fr L69)), ?_, ?_⟩
     · exact (by exact ho70)
     · unfold modeD; rw [if_neg e7, if_neg e25, if_pos a1]; show _ = ({ saveD s.dat with Alt := gridNew s.W s.H, OnAlt := true } : ScrD); rw [← gridRes_eq hsz, ← hrW, ← hrH, ← hd0_54, ← hsv]; rfl
    ·have a1 : ¬ ((n = 1049 ∧ on = true) ∧ s.dat.OnAlt = false) := by show ¬ ((n = 1049 ∧ on = true) ∧ s.OnAlt = false); rintro ⟨⟨z1, z2⟩, z3⟩; have h9 := h43; simp [z2, z3] at h9
     refine WC.sr ?_
     refine WL.r 3 hs5 [] rfl ?_
     refine WL.pA tbk 2 Acts.nil hs5 [1] rfl rfl rfl rfl (fun g_ => ⟨rfl, trivial⟩) ?_
     refine WL.nil ?_
     refine WC.cq rfl (fun h72 qh72 => ?_) (fun h72 qh72 => ?_)
     ·have a2 : (n = 1049 ∧ on = false) ∧ s.dat.OnAlt = true := by show (n = 1049 ∧ on = false) ∧ s.OnAlt = true; have h9 := h72; simp at h9; exact ⟨⟨e1049, h9.1⟩, h9.2⟩
      refine WC.sr ?_
      refine WL.r 1 hs5 [] rfl ?_
      refine WL.st tbk hs5 1 rfl rfl (fun _ hs73 => ?_)
      refine WL.nil ?_
      refine WC.region ?_
      refine WL.r 1 hs73 [1] rfl ?_
      obtain ⟨L74, L75, L76, L77, hs82, ho78, ho79, ho80, ho81⟩ := ownScrR.open_ (hs73.fr L_s) o_s
      have hs83 := ((hs82.fb b2).fb b4)
      obtain ⟨L85, hs84, ho86⟩ := ownScrR.fl ((((hs83.fr L77).fr L76).fr L75).fr L74) ho78 ho79 ho80 ho81
      have hs87 := ((hs84.fb b2).fb b4)
      refine WL.cl Tryz.call68 rfl (c_spec_l10Back ⟨s.W, s.H, ⟨s.Main.W, s.Main.H, SlD.of ho78⟩, ⟨s.Alt.W, s.Alt.H, SlD.of ho79⟩, false, s.X, s.Y, s.Wrap, ⟨s.A.Fg, s.A.Bg, s.A.Bold, s.A.Under, s.A.Turn⟩, s.Top, s.Bot, s.NoWrap, s.Hide, s.SaveX, s.SaveY, ⟨s.SaveA.Fg, s.SaveA.Bg, s.SaveA.Bold, s.SaveA.Under, s.SaveA.Turn⟩, SlD.of ho80, s.Limit, SlD.ofN ho81⟩ _ _ (by exact ho86) (hs87.ow L85) (St.nodupL (hs87.fr L85))) ?_
      rintro _ whs88 ⟨r89, L1_90, rfl, hs88, ho91, hd92⟩
      replace hs88 := St.lend (hs87.fr L85) hs88
      refine ⟨_, rfl, ?_⟩
      replace hs88 := St.back [_, _] hs88
      refine WL.st tbk hs88 1 rfl rfl (fun _ hs93 => ?_)
      refine WL.nil ?_
      refine hK6 _ _ ?_
      refine WC.sr ?_
      refine WL.r 1 hs93 [1] rfl ?_
      refine WL.st tbk hs93 0 rfl rfl (fun _ hs94 => ?_)
      refine WL.nil ?_
      refine WC.ret ?_
      refine retV1 rfl (resV.cellA tbk hs94 0 rfl rfl rfl rfl) ?_
      refine ⟨r89, _, rfl, (St.keep1 (hs94.fr L1_90)), ?_, ?_⟩
      · exact ho91
      · unfold modeD; rw [if_neg e7, if_neg e25, if_neg a1, if_pos a2]; exact hd92
     ·have a2 : ¬ ((n = 1049 ∧ on = false) ∧ s.dat.OnAlt = true) := by show ¬ ((n = 1049 ∧ on = false) ∧ s.OnAlt = true); rintro ⟨⟨z1, z2⟩, z3⟩; have h9 := h72; simp [z2, z3] at h9
      refine WC.skip ?_
      refine hK6 _ _ ?_
      refine WC.sr ?_
      refine WL.r 1 hs5 [1] rfl ?_
      refine WL.st tbk hs5 0 rfl rfl (fun _ hs95 => ?_)
      refine WL.nil ?_
      refine WC.ret ?_
      refine retV1 rfl (resV.cellA tbk hs95 0 rfl rfl rfl rfl) ?_
      refine ⟨s, _, rfl, (St.keep1 (hs95.fr L_s)), ?_, ?_⟩
      · exact o_s
      · unfold modeD; rw [if_neg e7, if_neg e25, if_neg a1, if_neg a2]
   ·have e1049 : ¬ n = 1049 := by have h9 := h42; simpa using h9
    refine WC.skip ?_
    refine hK6 _ _ ?_
    refine WC.sr ?_
    refine WL.r 1 hs5 [1] rfl ?_
    refine WL.st tbk hs5 0 rfl rfl (fun _ hs96 => ?_)
    refine WL.nil ?_
    refine WC.ret ?_
    refine retV1 rfl (resV.cellA tbk hs96 0 rfl rfl rfl rfl) ?_
    refine ⟨s, _, rfl, (St.keep1 (hs96.fr L_s)), ?_, ?_⟩
    · exact o_s
    · unfold modeD; rw [if_neg e7, if_neg e25, if_neg (fun h9 => e1049 h9.1.1), if_neg (fun h9 => e1049 h9.1.1)]
end Go.Proofs.YtjmegoiclgancaaGreat
namespace Go.Proofs.YtjmegoiclgancaaGreat
open Go Go.RowKit
set_option linter.unusedVariables false
set_option linter.unusedSimpArgs false
theorem c_spec_GridShift (g : GridR) (x : Int) (y : Int) (n : Int) (w : World) (f_g : okGridR 549755813888 w g) (hg : gridOk g.dat = true) (hx : 0 ≤ x ∧ x < g.W) (hy : 0 ≤ y ∧ y < g.H) (hn : -100000 ≤ n ∧ n ≤ 100000) :
    Calls Tryz.prog 181 #[.agg #[i64 g.W, i64 g.H, .slice g.Cells.A g.Cells.n g.Cells.c], i64 x, i64 y, i64 n] w fun e w' => ∃ r L1, e = .returned (.agg #[i64 r.W, i64 r.H, .slice r.Cells.A r.Cells.n r.Cells.c]) ∧ St w [] L1 w' ∧ ownGridR r L1 ∧ r.dat = gShift g.dat x y n := by
 have nb_g_Cells := f_g.Cells_n
 have nl_g_Cells := f_g.Cells.len
 have hgb : (1 ≤ g.W ∧ g.W ≤ 120) ∧ (1 ≤ g.H ∧ g.H ≤ 120) ∧ 1 ≤ g.W * g.H ∧ g.W * g.H ≤ 4000 := gridOk_bnd hg
 have hgl : (g.Cells.xs.length : Int) = g.W * g.H := grid_len hg
 have hsmg : smGrid 1048576 g.dat := by show g.Cells.xs.length ≤ 1048576; omega
 have hsmgB : smGrid 549755813888 g.dat := Nat.le_trans hsmg (by decide)
 have hv0 : 0 ≤ y * g.W := Int.mul_nonneg (by omega) (by omega)
 have hv1 : (y + 1) * g.W = y * g.W + g.W := by rw [Int.add_mul, Int.one_mul]
 have hv2 : (y + 1) * g.W ≤ g.H * g.W := Int.mul_le_mul_of_nonneg_right (by omega) (by omega)
 rw [Int.mul_comm g.H g.W] at hv2
 have hlo2 : (y * g.W).toNat = y.toNat * g.W.toNat := Int.toNat_mul (by omega) (by omega)
 have hnz : ((y.toNat * g.W.toNat : Nat) : Int) = y * g.W := by rw [← hlo2]; omega
 refine enter 103 Tryz.func181 rfl Tryz.ntmps181 rfl rfl ?_
 have hs1 := St.init w
 refine WC.sr ?_
 refine WL.bx hs1 rfl (fun b2 _ hs3 => ?_)
 refine WL.al hs3 Tryz.zeroValue28 rfl rfl (fun b4 _ hs5 => ?_)
 refine WL.nil ?_
 refine WC.seq (fun K6 hK6 => ?_)
 refine WC.sr ?_
 refine WL.r 1 hs5 [1] rfl ?_
 refine WL.cl Tryz.call138 rfl (c_spec_GridOk g _ (okGridR.st0 f_g hs5)) ?_
 rintro _ whs7 ⟨rfl, hs7⟩
 replace hs7 := hs5.call0 hs7
 refine ⟨_, rfl, ?_⟩
 refine WL.r 2 hs7 [] rfl ?_
 refine WL.pO tbk 2 Acts.nil hs7 [] rfl rfl rfl rfl (fun g_ => trivial) ?_
 refine WL.r 1 hs7 [] rfl ?_
 refine WL.pO tbk 4 Acts.nil hs7 [1] rfl rfl rfl rfl (fun g_ => ⟨rfl, trivial⟩) ?_
 refine WL.r 1 hs7 [] rfl ?_
 refine WL.pO tbk 2 Acts.nil hs7 [] rfl rfl rfl rfl (fun g_ => trivial) ?_
 refine WL.r 1 hs7 [] rfl ?_
 refine WL.pO tbk 4 Acts.nil hs7 [1] rfl rfl rfl rfl (fun g_ => ⟨rfl, trivial⟩) ?_
 refine WL.nil ?_
 refine WC.cq rfl (fun h8 qh8 => ?_) (fun h8 qh8 => ?_)
 ·exfalso; have h9 := h8; simp [hg] at h9; omega
 ·refine WC.skip ?_
  refine hK6 _ _ ?_
  refine WC.seq (fun K9 hK9 => ?_)
  refine WC.r1 hs7 [1] rfl ?_
  refine WC.mergeK [(1, _), (2, _), (4, _), (8, _), (33, _), (38, _)] 3 (i64 (min n g.W)) hs7 ⟨rfl, rfl, rfl, rfl, rfl, rfl, trivial⟩ (fun f whs11 hF12 hs11 => ?_) (fun hJ10 => ?_)
  ·refine hK9 _ _ ?_
   refine WC.sub _ hF12 ?_
   clear hF12
   refine WC.seq (fun K13 hK13 => ?_)
   refine WC.r1 hs11 [1] rfl ?_
   refine WC.mergeK [(1, _), (2, _), (4, _), (8, _), (33, _), (38, _), (45, _)] 3 (i64 (max (min n g.W) (-g.W))) hs11 ⟨rfl, rfl, rfl, rfl, rfl, rfl, rfl, trivial⟩ (fun f whs15 hF16 hs15 => ?_) (fun hJ14 => ?_)
   ·refine hK13 _ _ ?_
    refine WC.sub _ hF16 ?_
    clear hF16
    refine WC.sr ?_
    refine WL.r 1 hs15 [1] rfl ?_
    refine WL.cl Tryz.call141 rfl (c_spec_l07Copy g _ (okGridR.st0 f_g hs15) ?_) ?_
    · first | (first | assumption | rfl | omega) | (first | assumption | omega | (exact Nat.le_trans hsmg (by decide)))
    rintro _ whs17 ⟨r18, L1_19, rfl, hs17, ho20, hd21⟩
    replace hs17 := hs15.callF hs17
    refine ⟨_, rfl, ?_⟩
    replace hs17 := St.back [_, _] hs17
    have hd0 := hd21
    refine WL.al hs17 Tryz.zeroValue28 rfl rfl (fun b22 _ hs23 => ?_)
    refine WL.st tbk hs23 0 rfl rfl (fun _ hs24 => ?_)
    refine WL.nil ?_
    refine WC.seq (fun K25 hK25 => ?_)
    refine WC.r1 hs24 [] rfl ?_
    refine WC.block ?_
    have hM30 := (St.grp1 (L1 := L1_19) [_] ((((hs24.fb b2).fb b4).fr L1_19).fb b22))
    refine WC.lV [1, 2, 3, 4, 8, 9, 33, 38, 45] rfl hM30 (fun k_ (a_ : Hp) f => ∃ (a : Nat) (r : GridR) (L28 : Hp), k_ = (g.W - x).toNat - a ∧ a_ = [(b22, .cells (List.toArray [i64 r.W, i64 r.H, .slice r.Cells.A r.Cells.n r.Cells.c]) 28 (0, 0))] ++ L28 ∧ ((a : Int) ≤ g.W - x) ∧ (r.W = g.W ∧ r.H = g.H ∧ r.Cells.xs.length = g.Cells.xs.length) ∧ (∀ k, k < g.Cells.xs.length → cat r.Cells.xs k = partF g.dat (shiftF g.dat x y ((max (min n g.W) (-g.W)))) (y.toNat * g.dat.W.toNat + x.toNat) a k) ∧ ownGridR r L28 ∧ Sub [(10, .int .i64 (x + a))] f) (((fun (a : Nat) => (g.W - x).toNat - a) (0))) ?_ ?_
    ·refine ⟨0, r18, L1_19, rfl, rfl, ?_, ?_, ?_, ho20, ⟨?_, trivial⟩⟩
     · omega
     · exact ⟨congrArg GridD.W hd0, congrArg GridD.H hd0, congrArg (fun d : GridD => d.Cells.length) hd0⟩
     · intro k hk; rw [partF_zero]; exact congrArg (fun d : GridD => cat d.Cells k) hd0
     · (refine congrArg some (congrArg (Value.int _) ?_); omega)
    ·rintro _ _ f w ⟨a, r, L28, rfl, rfl, p0, p1, p2, ho29, hG⟩ hF hs31
     refine WC.sub _ (hG.app hF) ?_
     clear hG hF
     replace hs31 := St.ungrp1 [_] hs31
     have hs32 := (((hs31.fb b2).fb b4).fb b22)
     have hsmr : smGrid 549755813888 r.dat := by show r.Cells.xs.length ≤ 549755813888; omega
     have hnr := ownGridR.len ‹ownGridR r _›
     refine WC.seq (fun K33 hK33 => ?_)
     refine WC.r1 hs32 [2] rfl ?_
     refine WC.cq rfl (fun h34 qh34 => ?_) (fun h34 qh34 => ?_)
     ·refine WC.skip ?_
      refine hK33 _ _ ?_
      refine WC.seq (fun K35 hK35 => ?_)
      refine WC.block ?_
      refine WC.seq (fun K36 hK36 => ?_)
      refine WC.rG 10 (hs32.rm L28) hs32 hs32 (fun _ hs37 => ?_)
      refine WG.rn [0, 1, 2, 3, 4, 5, 6, 7] hs37 [0, 2] rfl rfl ?_
      refine WG.o1 8 rfl rfl ?_
      refine WL.cl Tryz.call180 rfl (c_spec_l07Blank _) ?_
      rintro _ whs38 ⟨rfl, hs38⟩
      replace hs38 := hs37.call0 hs38
      refine ⟨_, rfl, ?_⟩
      refine WL.nil ⟨hs38, ?_⟩
      refine WG.tk 9 rfl (by kernel_rfl) rfl rfl rfl hs38 (fun w_ hs_ => (Run.idx Tryz.runUnderlying26 Tryz.sizeOf75 rfl rfl rfl ?_ ?_ ?_)) ?_
      · exact SlF.some_ (ownGridR.ok (B := 549755813888) ho29 ((hs_ : St _ _ _ _).ow L28) hsmr).Cells
      · first | omega | (simp only [List.length_set]; omega)
      · first | omega | (simp only [List.length_set]; omega)
      refine WG.oK rfl ?_
      refine WL.storeF1 (x' := blankC) (hs38.fr L28) ho29 Tryz.sizeOf75 rfl rfl rfl rfl rfl rfl rfl rfl rfl ?_ rfl (fun L39 whs40 hs40 ho41 _ => ?_)
      · first | omega | (simp only [List.length_set]; omega)
      replace hs40 := St.back [_, _, _] hs40
      refine WL.nil ⟨(hs40.rm L39), ?_⟩
      refine WH.dn ?_
      refine hK36 _ _ ?_
      refine WC.sr ?_
      refine WL.r 6 hs40 [] rfl ?_
      refine WL.pA tbk 6 Acts.nil hs40 [2] rfl rfl rfl rfl (fun g_ => by (try simp only [bf, within_iff, within_not] at g_); exact ⟨rfl, by omega, trivial⟩) ?_
      refine WL.nil ?_
      refine WC.cq rfl (fun h42 qh42 => ?_) (fun h42 qh42 => ?_)
      ·refine WC.rG 21 (hs40.rm L39) hs40 hs40 (fun _ hs43 => ?_)
       refine WG.rn [0, 1, 2, 3, 4, 5, 6, 7, 8, 9, 10, 11, 12, 13, 14, 15, 16, 17] hs43 [0, 2, 2, 2] rfl rfl ?_
       refine WG.tk 18 rfl (by kernel_rfl) rfl rfl rfl hs43 (fun w_ hs_ => (Run.idx Tryz.runUnderlying26 Tryz.sizeOf75 rfl rfl rfl ?_ ?_ ?_)) ?_
       · exact SlF.some_ (SlF.st0 f_g.Cells (hs_ : St _ _ _ _))
       · first | omega | (simp only [List.length_set]; omega)
       · first | omega | (simp only [List.length_set]; omega)
       refine WG.tk 19 rfl (by kernel_rfl) rfl rfl rfl hs43 (fun w_ hs_ => (Run.loadA Tryz.isAgg75 Tryz.sizeOf75 rfl rfl (SlF.whole (SlF.st0 f_g.Cells (hs_ : St _ _ _ _)) ?_))) ?_
       · first | omega | (simp only [List.length_set]; omega)
       refine WG.tk 20 rfl (by kernel_rfl) rfl rfl rfl hs43 (fun w_ hs_ => (Run.idx Tryz.runUnderlying26 Tryz.sizeOf75 rfl rfl rfl ?_ ?_ ?_)) ?_
       · exact SlF.some_ (SlF.ofOwn ho41 ((hs_ : St _ _ _ _).ow L39))
       · first | omega | (simp only [List.length_set]; omega)
       · first | omega | (simp only [List.length_set]; omega)
       refine WG.oK rfl ?_
       refine WL.storeF1 (x' := _) (hs43.fr L39) ho41 Tryz.sizeOf75 rfl rfl rfl rfl rfl rfl rfl rfl rfl ?_ rfl (fun L44 whs45 hs45 ho46 _ => ?_)
       · first | omega | (simp only [List.length_set]; omega)
       replace hs45 := St.back [_, _, _] hs45
       refine WL.nil ⟨(hs45.rm L44), ?_⟩
       refine WH.dn ?_
       refine hK35 _ _ ?_
       refine WC.region ?_
       refine WL.r 3 hs45 [] rfl ?_
       refine WL.nil ?_
       refine tkN ?_
       have hF47 := (St.grp1 (L1 := L44) [_] ((((hs45.fb b2).fb b4).fr L44).fb b22))
       refine ⟨sbF rfl, _, hF47, _, ?_, a + 1, ⟨r.W, r.H, SlD.of ho46⟩, L44, rfl, rfl, ?_, ?_, ?_, ho46, ⟨?_, trivial⟩⟩
       · omega
       · omega
       · exact ⟨p1.1, p1.2.1, by simp only [List.length_set]; exact p1.2.2⟩
       · intro k hk; first | (show gat encCell ((r.Cells.xs.set _ _).set _ _) k = _; rw [List.set_set]; exact part_next (g := g.dat) (by rw [Int.toNat_add (by omega) (by omega), hlo2]; show _ = y.toNat * g.W.toNat + x.toNat + a; omega) (by rw [p1.2.2]; omega) (by rw [shiftF_at (g := g.dat) hx.1 hy.1 (by show x + (a : Int) < g.W; omega), if_pos (by have h9 := h42; simp at h9; show x ≤ x + (a : Int) - (max (min n g.W) (-g.W)) ∧ x + (a : Int) - (max (min n g.W) (-g.W)) < g.W; omega)]; show cat _ _ = cat _ _; congr 1; show _ = y.toNat * g.W.toNat + _; rw [← hlo2]; omega) (p2 k hk)) | (show gat encCell (r.Cells.xs.set _ _) k = _; exact part_next (g := g.dat) (by rw [Int.toNat_add (by omega) (by omega), hlo2]; show _ = y.toNat * g.W.toNat + x.toNat + a; omega) (by rw [p1.2.2]; omega) (by rw [shiftF_at (g := g.dat) hx.1 hy.1 (by show x + (a : Int) < g.W; omega), if_neg (by have h9 := h42; simp at h9; show ¬ (x ≤ x + (a : Int) - (max (min n g.W) (-g.W)) ∧ x + (a : Int) - (max (min n g.W) (-g.W)) < g.W); omega)]) (p2 k hk))
       · (refine congrArg some (congrArg (Value.int _) ?_); omega)
      ·refine WC.skip ?_
       refine hK35 _ _ ?_
       refine WC.region ?_
       refine WL.r 3 hs40 [] rfl ?_
       refine WL.nil ?_
       refine tkN ?_
       have hF48 := (St.grp1 (L1 := L39) [_] ((((hs40.fb b2).fb b4).fr L39).fb b22))
       refine ⟨sbF rfl, _, hF48, _, ?_, a + 1, ⟨r.W, r.H, SlD.of ho41⟩, L39, rfl, rfl, ?_, ?_, ?_, ho41, ⟨?_, trivial⟩⟩
       · omega
       · omega
       · exact ⟨p1.1, p1.2.1, by simp only [List.length_set]; exact p1.2.2⟩
       · intro k hk; first | (show gat encCell ((r.Cells.xs.set _ _).set _ _) k = _; rw [List.set_set]; exact part_next (g := g.dat) (by rw [Int.toNat_add (by omega) (by omega), hlo2]; show _ = y.toNat * g.W.toNat + x.toNat + a; omega) (by rw [p1.2.2]; omega) (by rw [shiftF_at (g := g.dat) hx.1 hy.1 (by show x + (a : Int) < g.W; omega), if_pos (by have h9 := h42; simp at h9; show x ≤ x + (a : Int) - (max (min n g.W) (-g.W)) ∧ x + (a : Int) - (max (min n g.W) (-g.W)) < g.W; omega)]; show cat _ _ = cat _ _; congr 1; show _ = y.toNat * g.W.toNat + _; rw [← hlo2]; omega) (p2 k hk)) | (show gat encCell (r.Cells.xs.set _ _) k = _; exact part_next (g := g.dat) (by rw [Int.toNat_add (by omega) (by omega), hlo2]; show _ = y.toNat * g.W.toNat + x.toNat + a; omega) (by rw [p1.2.2]; omega) (by rw [shiftF_at (g := g.dat) hx.1 hy.1 (by show x + (a : Int) < g.W; omega), if_neg (by have h9 := h42; simp at h9; show ¬ (x ≤ x + (a : Int) - (max (min n g.W) (-g.W)) ∧ x + (a : Int) - (max (min n g.W) (-g.W)) < g.W); omega)]) (p2 k hk))
       · (refine congrArg some (congrArg (Value.int _) ?_); omega)
     ·refine WC.exit ?_
      refine hK25 _ _ ?_
      refine WC.sr ?_
      refine WL.r 1 hs32 [0] rfl ?_
      refine WL.st tbk hs32 1 rfl rfl (fun _ hs49 => ?_)
      refine WL.nil ?_
      refine WC.ret ?_
      refine retV1 rfl (resV.cellA tbk hs49 1 rfl rfl rfl rfl) ?_
      refine ⟨r, _, rfl, (St.keep1 (hs49.fr L28)), ?_, ?_⟩
      · exact ho29
      · exact shift_done (g := g.dat) (m := (max (min n g.W) (-g.W))) hx hy.1 (by show (a : Int) = g.W - x; omega) p1.1 p1.2.1 p1.2.2 (by show n = _ ∨ (g.W ≤ n ∧ g.W ≤ _ ∨ n ≤ -g.W ∧ _ ≤ -g.W); omega) p2
   refine WC.cq rfl (fun h50 qh50 => ?_) (fun h50 qh50 => ?_)
   ·refine WC.region ?_
    refine WL.r 4 hs11 [1] rfl ?_
    refine WL.nil ?_
    exact hJ14 _ _ ⟨(congrArg some (congrArg (Value.int .i64) (by omega))), rfl, rfl, rfl, rfl, rfl, rfl, rfl, trivial⟩ hs11
   ·refine WC.skip ?_
    exact hJ14 _ _ ⟨(congrArg some (congrArg (Value.int .i64) (by omega))), rfl, rfl, rfl, rfl, rfl, rfl, rfl, trivial⟩ hs11
  refine WC.cq rfl (fun h51 qh51 => ?_) (fun h51 qh51 => ?_)
  ·refine WC.region ?_
   refine WL.r 3 hs7 [1] rfl ?_
   refine WL.nil ?_
   exact hJ10 _ _ ⟨(congrArg some (congrArg (Value.int .i64) (by omega))), rfl, rfl, rfl, rfl, rfl, rfl, trivial⟩ hs7
  ·refine WC.skip ?_
   exact hJ10 _ _ ⟨(congrArg some (congrArg (Value.int .i64) (by omega))), rfl, rfl, rfl, rfl, rfl, rfl, trivial⟩ hs7
end Go.Proofs.YtjmegoiclgancaaGreat
namespace Go.Proofs.YtjmegoiclgancaaGreat
open Go Go.RowKit
set_option linter.unusedVariables false
set_option linter.unusedSimpArgs false
theorem c_spec_GridFill (g : GridR) (x : Int) (y : Int) (w_ : Int) (h_ : Int) (c_R : Int) (c_A_Fg : Int) (c_A_Bg : Int) (c_A_Bold : Bool) (c_A_Under : Bool) (c_A_Turn : Bool) (w : World) (f_g : okGridR 549755813888 w g) (hg : gridOk g.dat = true) (hc : cellOk (⟨c_R, ⟨c_A_Fg, c_A_Bg, c_A_Bold, c_A_Under, c_A_Turn⟩⟩ : CellD) = true) (hx : -100000 ≤ x ∧ x ≤ 100000) (hy : -100000 ≤ y ∧ y ≤ 100000) (hw : -100000 ≤ w_ ∧ w_ ≤ 100000) (hh : -100000 ≤ h_ ∧ h_ ≤ 100000) :
    Calls Tryz.prog 179 #[.agg #[i64 g.W, i64 g.H, .slice g.Cells.A g.Cells.n g.Cells.c], i64 x, i64 y, i64 w_, i64 h_, .agg #[i64 c_R, i64 c_A_Fg, i64 c_A_Bg, .bool c_A_Bold, .bool c_A_Under, .bool c_A_Turn]] w fun e w' => ∃ r L1, e = .returned (.agg #[i64 r.W, i64 r.H, .slice r.Cells.A r.Cells.n r.Cells.c]) ∧ St w [] L1 w' ∧ ownGridR r L1 ∧ r.dat = gFill g.dat x y w_ h_ (⟨c_R, ⟨c_A_Fg, c_A_Bg, c_A_Bold, c_A_Under, c_A_Turn⟩⟩ : CellD) := by
 have nb_g_Cells := f_g.Cells_n
 have nl_g_Cells := f_g.Cells.len
 have hgb : (1 ≤ g.W ∧ g.W ≤ 120) ∧ (1 ≤ g.H ∧ g.H ≤ 120) ∧ 1 ≤ g.W * g.H ∧ g.W * g.H ≤ 4000 := gridOk_bnd hg
 have hgl : (g.Cells.xs.length : Int) = g.W * g.H := grid_len hg
 have hsmg : smGrid 1048576 g.dat := by show g.Cells.xs.length ≤ 1048576; omega
 have hng := f_g.Cells.len
 refine enter 91 Tryz.func179 rfl Tryz.ntmps179 rfl rfl ?_
 have hs1 := St.init w
 refine WC.sr ?_
 refine WL.bx hs1 rfl (fun b2 _ hs3 => ?_)
 refine WL.bx hs3 rfl (fun b4 _ hs5 => ?_)
 refine WL.al hs5 Tryz.zeroValue28 rfl rfl (fun b6 _ hs7 => ?_)
 refine WL.nil ?_
 refine WC.seq (fun K8 hK8 => ?_)
 refine WC.sr ?_
 refine WL.r 1 hs7 [2] rfl ?_
 refine WL.cl Tryz.call138 rfl (c_spec_GridOk g _ (okGridR.st0 f_g hs7)) ?_
 rintro _ whs9 ⟨rfl, hs9⟩
 replace hs9 := hs7.call0 hs9
 refine ⟨_, rfl, ?_⟩
 refine WL.r 2 hs9 [] rfl ?_
 apply WL.gO 3 Acts.nil hs9 rfl
 ·intro g10 J11
  have qg10 := g10
  try simp only [bf, within_iff, within_not] at qg10
  refine WL.runA tbk 1 (Acts.nil.cons (j := 3) rfl g10) hs9 [1] rfl ⟨rfl, trivial⟩ ?_
  refine WL.call (wantF rfl g10) rfl rfl (Run.call Tryz.call203 rfl rfl rfl) (c_spec_CellOk _ _ _ _ _ _ _) ?_
  rintro _ whs12 ⟨rfl, hs12⟩
  replace hs12 := hs9.call0 hs12
  refine ⟨_, rfl, ?_⟩
  refine WL.runA tbk 1 (Acts.nil.cons (j := 3) rfl g10) hs12 [] rfl trivial ?_
  exact WL.eO 3 Acts.nil J11 hs12 g10 rfl rfl
 ·intro _ hs13
  refine WL.r 1 hs13 [] rfl ?_
  apply WL.gO 3 Acts.nil hs13 rfl
  ·intro g14 J15
   have qg14 := g14
   try simp only [bf, within_iff, within_not] at qg14
   refine WL.runA tbk 1 (Acts.nil.cons (j := 8) rfl g14) hs13 [] rfl trivial ?_
   refine WL.call (wantF rfl g14) rfl rfl (Run.call Tryz.call230 rfl rfl rfl) (c_spec_l07Small _ _) ?_
   rintro _ whs16 ⟨rfl, hs16⟩
   replace hs16 := hs13.call0 hs16
   refine ⟨_, rfl, ?_⟩
   refine WL.runA tbk 1 (Acts.nil.cons (j := 8) rfl g14) hs16 [] rfl trivial ?_
   exact WL.eO 3 Acts.nil J15 hs16 g14 rfl rfl
  ·intro _ hs17
   refine WL.r 1 hs17 [] rfl ?_
   apply WL.gO 3 Acts.nil hs17 rfl
   ·intro g18 J19
    have qg18 := g18
    try simp only [bf, within_iff, within_not] at qg18
    refine WL.runA tbk 1 (Acts.nil.cons (j := 13) rfl g18) hs17 [] rfl trivial ?_
    refine WL.call (wantF rfl g18) rfl rfl (Run.call Tryz.call230 rfl rfl rfl) (c_spec_l07Small _ _) ?_
    rintro _ whs20 ⟨rfl, hs20⟩
    replace hs20 := hs17.call0 hs20
    refine ⟨_, rfl, ?_⟩
    refine WL.runA tbk 1 (Acts.nil.cons (j := 13) rfl g18) hs20 [] rfl trivial ?_
    exact WL.eO 3 Acts.nil J19 hs20 g18 rfl rfl
   ·intro _ hs21
    refine WL.r 1 hs21 [] rfl ?_
    apply WL.gO 3 Acts.nil hs21 rfl
    ·intro g22 J23
     have qg22 := g22
     try simp only [bf, within_iff, within_not] at qg22
     refine WL.runA tbk 1 (Acts.nil.cons (j := 18) rfl g22) hs21 [] rfl trivial ?_
     refine WL.call (wantF rfl g22) rfl rfl (Run.call Tryz.call230 rfl rfl rfl) (c_spec_l07Small _ _) ?_
     rintro _ whs24 ⟨rfl, hs24⟩
     replace hs24 := hs21.call0 hs24
     refine ⟨_, rfl, ?_⟩
     refine WL.runA tbk 1 (Acts.nil.cons (j := 18) rfl g22) hs24 [] rfl trivial ?_
     exact WL.eO 3 Acts.nil J23 hs24 g22 rfl rfl
    ·intro _ hs25
     refine WL.r 1 hs25 [] rfl ?_
     apply WL.gO 3 Acts.nil hs25 rfl
     ·intro g26 J27
      have qg26 := g26
      try simp only [bf, within_iff, within_not] at qg26
      refine WL.runA tbk 1 (Acts.nil.cons (j := 23) rfl g26) hs25 [] rfl trivial ?_
      refine WL.call (wantF rfl g26) rfl rfl (Run.call Tryz.call230 rfl rfl rfl) (c_spec_l07Small _ _) ?_
      rintro _ whs28 ⟨rfl, hs28⟩
      replace hs28 := hs25.call0 hs28
      refine ⟨_, rfl, ?_⟩
      refine WL.runA tbk 1 (Acts.nil.cons (j := 23) rfl g26) hs28 [] rfl trivial ?_
      exact WL.eO 3 Acts.nil J27 hs28 g26 rfl rfl
     ·intro _ hs29
      refine WL.nil ?_
      refine WC.cq rfl (fun h30 qh30 => ?_) (fun h30 qh30 => ?_)
      ·exfalso; have h9 := h30; simp [hg, hc, within] at h9; omega
      ·refine WC.skip ?_
       refine hK8 _ _ ?_
       refine WC.sr ?_
       refine WL.r 1 hs29 [2] rfl ?_
       refine WL.cl Tryz.call141 rfl (c_spec_l07Copy g _ (okGridR.st0 f_g hs29) ?_) ?_
       · first | (first | assumption | rfl | omega) | (first | assumption | omega | (exact Nat.le_trans hsmg (by decide)))
       rintro _ whs31 ⟨r32, L1_33, rfl, hs31, ho34, hd35⟩
       replace hs31 := hs29.callF hs31
       refine ⟨_, rfl, ?_⟩
       replace hs31 := St.back [_, _, _] hs31
       have hd0 := hd35
       have hn0 := ownGridR.len ‹ownGridR r32 _›
       have hl0 : r32.Cells.xs.length = g.Cells.xs.length := congrArg (fun d : GridD => d.Cells.length) hd0
       refine WL.al hs31 Tryz.zeroValue28 rfl rfl (fun b36 _ hs37 => ?_)
       refine WL.st tbk hs37 0 rfl rfl (fun _ hs38 => ?_)
       refine WL.nil ?_
       refine WC.seq (fun K39 hK39 => ?_)
       refine WC.r1 hs38 [0] rfl ?_
       refine WC.block ?_
       have hM44 := (St.grp1 (L1 := L1_33) [_] (((((hs38.fb b2).fb b4).fb b6).fr L1_33).fb b36))
       refine WC.lV [1, 2, 3, 4, 6, 11, 12, 13, 44, 50] rfl hM44 (fun k_ (a_ : Hp) f => ∃ (i : Nat) (r : GridR) (L42 : Hp), k_ = g.Cells.n - i ∧ a_ = [(b36, .cells (List.toArray [i64 r.W, i64 r.H, .slice r.Cells.A r.Cells.n r.Cells.c]) 28 (0, 0))] ++ L42 ∧ (i ≤ g.Cells.n) ∧ (r.W = g.W ∧ r.H = g.H ∧ r.Cells.xs.length = g.Cells.xs.length) ∧ (∀ k, k < g.Cells.xs.length → cat r.Cells.xs k = partF g.dat (fillFn g.dat x y w_ h_ (⟨c_R, ⟨c_A_Fg, c_A_Bg, c_A_Bold, c_A_Under, c_A_Turn⟩⟩ : CellD)) 0 i k) ∧ ownGridR r L42 ∧ Sub [(51, .int .i64 i)] f) (((fun (i : Nat) => g.Cells.n - i) (0))) ?_ ?_
       ·refine ⟨0, r32, L1_33, rfl, rfl, ?_, ?_, ?_, ho34, ⟨rfl, trivial⟩⟩
        · omega
        · exact ⟨congrArg GridD.W hd0, congrArg GridD.H hd0, congrArg (fun d : GridD => d.Cells.length) hd0⟩
        · intro k hk; rw [partF_zero]; exact congrArg (fun d : GridD => cat d.Cells k) hd0
       ·rintro _ _ f w ⟨i, r, L42, rfl, rfl, p0, p1, p2, ho43, hG⟩ hF hs45
        refine WC.sub _ (hG.app hF) ?_
        clear hG hF
        replace hs45 := St.ungrp1 [_] hs45
        have hs46 := ((((hs45.fb b2).fb b4).fb b6).fb b36)
        have hsmr : smGrid 549755813888 r.dat := by show r.Cells.xs.length ≤ 549755813888; omega
        have hnr := ownGridR.len ‹ownGridR r _›
        refine WC.r1 hs46 [] rfl ?_
        refine WC.seq (fun K47 hK47 => ?_)
        refine WC.cq rfl (fun h48 qh48 => ?_) (fun h48 qh48 => ?_)
        ·obtain ⟨q, m, hkd, hkm, hiq, hmw, hqh⟩ := divmod_ex (i := i) (w := g.W) (h := g.H) (by omega) (by omega) (by omega)
         obtain ⟨hdq, hmq⟩ := at_div (w := g.W.toNat) (y := q) (x := m) (by omega)
         rw [← hiq] at hdq hmq
         refine WC.skip ?_
         refine hK47 _ _ ?_
         refine WC.seq (fun K49 hK49 => ?_)
         refine WC.block ?_
         refine WC.r1 hs46 [] rfl ?_
         refine WC.sr ?_
         refine WL.r 3 hs46 [3] rfl ?_
         refine WL.val rfl rfl rfl (Run.rem rfl rfl rfl ?_ ?_) ?_
         · omega
         · omega
         refine WL.r 1 hs46 [] rfl ?_
         refine WL.nil ?_
         refine WC.sr ?_
         refine WL.r 3 hs46 [3] rfl ?_
         refine WL.val rfl rfl rfl (Run.quo rfl rfl rfl ?_ ?_ ?_) ?_
         · omega
         · omega
         · omega
         refine WL.r 1 hs46 [] rfl ?_
         refine WL.nil ?_
         refine WC.sr ?_
         refine WL.r 4 hs46 [] rfl ?_
         refine WL.pA tbk 5 Acts.nil hs46 [] rfl rfl rfl rfl (fun g_ => by (try simp only [bf, within_iff, within_not] at g_); exact ⟨by omega, trivial⟩) ?_
         refine WL.r 1 hs46 [] rfl ?_
         refine WL.pA tbk 3 Acts.nil hs46 [] rfl rfl rfl rfl (fun g_ => trivial) ?_
         refine WL.r 1 hs46 [] rfl ?_
         refine WL.pA tbk 5 Acts.nil hs46 [] rfl rfl rfl rfl (fun g_ => by (try simp only [bf, within_iff, within_not] at g_); exact ⟨by omega, trivial⟩) ?_
         refine WL.nil ?_
         refine WC.cq rfl (fun h50 qh50 => ?_) (fun h50 qh50 => ?_)
         ·have hin : ((x ≤ (m : Int) ∧ (m : Int) < x + w_) ∧ y ≤ (q : Int) ∧ (q : Int) < y + h_) := by have h9 := h50; simp [hkm, hkd] at h9; omega
          refine WC.region ?_
          refine WL.r 4 hs46 [0, 2] rfl ?_
          refine WL.val rfl rfl rfl (Run.idxN Tryz.runUnderlying26 Tryz.sizeOf75 rfl rfl rfl ?_ ?_ ?_) ?_
          · exact SlF.some_ (ownGridR.ok (B := 549755813888) ho43 (hs46.ow L42) hsmr).Cells
          · first | omega | (rw [hkd, hkm]; omega)
          · first | omega | (rw [hkd, hkm]; omega)
          refine WL.storeF1 (x' := (⟨c_R, ⟨c_A_Fg, c_A_Bg, c_A_Bold, c_A_Under, c_A_Turn⟩⟩ : CellD)) (hs46.fr L42) ho43 Tryz.sizeOf75 rfl rfl rfl rfl rfl rfl rfl rfl rfl ?_ rfl (fun L51 whs52 hs52 ho53 _ => ?_)
          · first | omega | (rw [hkd, hkm]; omega)
          replace hs52 := St.back [_, _, _, _] hs52
          refine WL.nil ?_
          refine hK49 _ _ ?_
          refine WC.region ?_
          refine WL.r 2 hs52 [] rfl ?_
          refine WL.nil ?_
          refine tkN ?_
          have hF54 := (St.grp1 (L1 := L51) [_] (((((hs52.fb b2).fb b4).fb b6).fr L51).fb b36))
          refine ⟨sbF rfl, _, hF54, _, ?_, i + 1, ⟨r.W, r.H, SlD.of ho53⟩, L51, rfl, rfl, ?_, ?_, ?_, ho53, ⟨rfl, trivial⟩⟩
          · omega
          · omega
          · first | exact p1 | exact ⟨p1.1, p1.2.1, by simp only [List.length_set]; exact p1.2.2⟩
          · intro k hk; show cat _ k = _; first | exact part_next (g := g.dat) (by omega) (by rw [p1.2.2]; omega) (by rw [Nat.zero_add]; symm; unfold fillFn; rw [show i / g.dat.W.toNat = q from hdq, show i % g.dat.W.toNat = m from hmq,  if_pos hin]) (p2 k hk) | exact part_skip (g := g.dat) (by unfold fillFn; rw [show i / g.dat.W.toNat = q from hdq, show i % g.dat.W.toNat = m from hmq,  if_neg hout]) (p2 k hk)
         ·have hout : ¬ ((x ≤ (m : Int) ∧ (m : Int) < x + w_) ∧ y ≤ (q : Int) ∧ (q : Int) < y + h_) := by have h9 := h50; simp [hkm, hkd] at h9; omega
          refine WC.skip ?_
          refine hK49 _ _ ?_
          refine WC.region ?_
          refine WL.r 2 hs46 [] rfl ?_
          refine WL.nil ?_
          refine tkN ?_
          have hF55 := (St.grp1 (L1 := L42) [_] (((((hs46.fb b2).fb b4).fb b6).fr L42).fb b36))
          refine ⟨sbF rfl, _, hF55, _, ?_, i + 1, r, L42, rfl, rfl, ?_, ?_, ?_, ho43, ⟨rfl, trivial⟩⟩
          · omega
          · omega
          · first | exact p1 | exact ⟨p1.1, p1.2.1, by simp only [List.length_set]; exact p1.2.2⟩
          · intro k hk; show cat _ k = _; first | exact part_next (g := g.dat) (by omega) (by rw [p1.2.2]; omega) (by rw [Nat.zero_add]; symm; unfold fillFn; rw [show i / g.dat.W.toNat = q from hdq, show i % g.dat.W.toNat = m from hmq,  if_pos hin]) (p2 k hk) | exact part_skip (g := g.dat) (by unfold fillFn; rw [show i / g.dat.W.toNat = q from hdq, show i % g.dat.W.toNat = m from hmq,  if_neg hout]) (p2 k hk)
        ·refine WC.exit ?_
         refine hK39 _ _ ?_
         refine WC.sr ?_
         refine WL.r 1 hs46 [0] rfl ?_
         refine WL.st tbk hs46 1 rfl rfl (fun _ hs56 => ?_)
         refine WL.nil ?_
         refine WC.ret ?_
         refine retV1 rfl (resV.cellA tbk hs56 1 rfl rfl rfl rfl) ?_
         refine ⟨r, _, rfl, (St.keep1 (hs56.fr L42)), ?_, ?_⟩
         · exact ho43
         · exact part_done (g := g.dat) (lo := 0) (a := i) p1.1 p1.2.1 p1.2.2 (fun k hk h9 => absurd (show 0 ≤ k ∧ k < 0 + i by have h7 : k < g.Cells.xs.length := hk; omega) h9) p2
end Go.Proofs.YtjmegoiclgancaaGreat
