/-
  The statement: for every input the law returns true. No condition. (And what it stands on, the last part.)
-/
import Derived.Test.YtjmegoiclgancaaGreatKC5
namespace Go.Proofs.YtjmegoiclgancaaGreat
open Go Go.RowKit
set_option linter.unusedVariables false
set_option linter.unusedSimpArgs false
theorem c_spec_l10Plain (s : ScrR) (L_s : Hp) (A_l : Option Addr) (n_l c_l : Nat) (l : List Int) (b : Int) (w : World) (o_s : ownScrR s L_s) (h_s : ∀ p, p ∈ L_s → w.heap[p.1]? = some p.2) (f_l : SlF encI w A_l n_l l) (hd_ : ((L_s).map (·.1)).Nodup) (s_l : 0 < n_l → (adr A_l).block ∉ ((L_s).map (·.1))) (hf : ScrFine s.dat) (hsmB : smScr 549755813888 s.dat) (hl : areArgs l = true) (hll : n_l ≤ 549755813888) :
    Calls Tryz.prog 99 #[.agg (cScr s).toArray, .slice A_l n_l c_l, i64 b] w fun e w' => ∃ r L1, e = .returned (.agg (cScr r).toArray) ∧ St w ((L_s).map (·.1)) L1 w' ∧ ownScrR r L1 ∧ r.dat = csiD s.dat l b := by
 have hwh : (1 ≤ s.W ∧ s.W ≤ 120) ∧ 1 ≤ s.H ∧ s.H ≤ 120 := ⟨(isSize_bnd hf.size).1, (isSize_bnd hf.size).2.1⟩
 have hxy := hf.pos
 simp only [ScrR.dat, GridR.dat] at hxy
 have hz := isSize_bnd hf.size
 simp only [ScrR.dat] at hz
 have hv0 : 0 ≤ s.Y * s.W := Int.mul_nonneg (by omega) (by omega)
 have hv1 : (s.Y + 1) * s.W = s.Y * s.W + s.W := by rw [Int.add_mul, Int.one_mul]
 have hv2 : (s.Y + 1) * s.W ≤ s.H * s.W := Int.mul_le_mul_of_nonneg_right (by omega) (by omega)
 rw [Int.mul_comm s.H s.W] at hv2
 have hsm : smScr 1048576 s.dat := fine_smB hf (by decide)
 have ha0 := argI_pos (k := 0) (d := 1) hl (by omega)
 have ha1 := argI_bnd (k := 1) (d := 1) hl (by omega)
 have hk0 := argI_bnd (k := 0) (d := 0) hl (by omega)
 have hrg : (0 ≤ s.Top ∧ s.Top ≤ s.Bot) ∧ s.Bot < s.H := ⟨hf.reg.1, hf.reg.2.1⟩
 have hgs : gridOk (shownR s).dat = true := by rw [shownR_dat]; exact hf.shown.1
 have hHs : (shownR s).H = s.H := by have h9 : (shownR s).H = (shownD s.dat).H := congrArg GridD.H shownR_dat; rw [h9]; exact hf.shown.2.2
 have hWs : (shownR s).W = s.W := by have h9 : (shownR s).W = (shownD s.dat).W := congrArg GridD.W shownR_dat; rw [h9]; exact hf.shown.2.1
 have hfc := fill_clear (g := shownD s.dat) (x := s.X) (y := s.Y) (n := argI l 0 1) (by rw [hf.shown.2.1]; exact hf.pos.1) hf.pos.2.1
 rw [hf.shown.2.1] at hfc
 refine enter 193 Tryz.func99 rfl Tryz.ntmps99 rfl rfl ?_
 have hs1 := St.takes1 w L_s h_s hd_
 refine WC.sr ?_
 refine WL.bx hs1 rfl (fun b2 _ hs3 => ?_)
 refine WL.al hs3 Tryz.zeroValue33 rfl rfl (fun b4 _ hs5 => ?_)
 refine WL.nil ?_
 refine WC.sr ?_
 refine WL.r 1 hs5 [] rfl ?_
 refine WL.cl Tryz.call177 rfl (c_spec_l10Arg_0 _ _ _ _ _ _ (SlF.st f_l hs5 s_l) ?_) ?_
 · first | (first | assumption | rfl | omega) | (first | assumption | omega | exact blank_ok | (constructor <;> omega))
 rintro _ whs6 ⟨rfl, hs6⟩
 replace hs6 := hs5.call0 hs6
 refine ⟨_, rfl, ?_⟩
 refine WL.r 1 hs6 [] rfl ?_
 refine WL.nil ?_
 refine WC.sr ?_
 refine WL.r 1 hs6 [] rfl ?_
 refine WL.cl Tryz.call177 rfl (c_spec_l10Arg_0 _ _ _ _ _ _ (SlF.st f_l hs6 s_l) ?_) ?_
 · first | (first | assumption | rfl | omega) | (first | assumption | omega | exact blank_ok | (constructor <;> omega))
 rintro _ whs7 ⟨rfl, hs7⟩
 replace hs7 := hs6.call0 hs7
 refine ⟨_, rfl, ?_⟩
 refine WL.r 1 hs7 [] rfl ?_
 refine WL.nil ?_
 refine WC.seq (fun K8 hK8 => ?_)
 refine WC.r1 hs7 [] rfl ?_
 refine WC.block ?_
 refine WC.r1 hs7 [] rfl ?_
 refine WC.cq rfl (fun h9 qh9 => ?_) (fun h9 qh9 => ?_)
 ·have e65 : b = 65 := by have h9 := h9; simpa using h9
  refine WC.sr ?_
  refine WL.r 7 hs7 [1, 1, 1] rfl ?_
  refine WL.cl Tryz.call163 rfl (c_spec_ScrGo s _ _ _ (ownScrR.ok (B := 549755813888) o_s (hs7.ow L_s) (by assumption)) ?_) ?_
  · first | (first | assumption | rfl | omega) | (first | assumption | omega | exact blank_ok | (constructor <;> omega))
  rintro _ whs10 ⟨r11, L1_12, rfl, hs10, ho13, hd14⟩
  replace hs10 := hs7.callF hs10
  refine ⟨_, rfl, ?_⟩
  replace hs10 := St.back [_, _] hs10
  refine WL.st tbk hs10 0 rfl rfl (fun _ hs15 => ?_)
  refine WL.nil ?_
  refine WC.ret ?_
  refine ibR (tkR ?_)
  clear hK8
  refine retV1 rfl (resV.cellA tbk hs15 0 rfl rfl rfl rfl) ?_
  refine ⟨r11, _, rfl, (St.keep1 (hs15.fr L1_12)), ?_, ?_⟩
  · exact ho13
  · unfold csiD; rw [if_pos e65]; exact hd14.trans (scrGo_eq hf)
 ·have e65 : ¬ b = 65 := by have h9 := h9; simpa using h9
  refine WC.r1 hs7 [] rfl ?_
  refine WC.cq rfl (fun h16 qh16 => ?_) (fun h16 qh16 => ?_)
  ·have e66 : b = 66 := by have h9 := h16; simpa using h9
   refine WC.sr ?_
   refine WL.r 7 hs7 [1, 1, 1] rfl ?_
   refine WL.cl Tryz.call163 rfl (c_spec_ScrGo s _ _ _ (ownScrR.ok (B := 549755813888) o_s (hs7.ow L_s) (by assumption)) ?_) ?_
   · first | (first | assumption | rfl | omega) | (first | assumption | omega | exact blank_ok | (constructor <;> omega))
   rintro _ whs17 ⟨r18, L1_19, rfl, hs17, ho20, hd21⟩
   replace hs17 := hs7.callF hs17
   refine ⟨_, rfl, ?_⟩
   replace hs17 := St.back [_, _] hs17
   refine WL.st tbk hs17 0 rfl rfl (fun _ hs22 => ?_)
   refine WL.nil ?_
   refine WC.ret ?_
   refine ibR (tkR ?_)
   clear hK8
   refine retV1 rfl (resV.cellA tbk hs22 0 rfl rfl rfl rfl) ?_
   refine ⟨r18, _, rfl, (St.keep1 (hs22.fr L1_19)), ?_, ?_⟩
   · exact ho20
   · unfold csiD; rw [if_neg e65, if_pos e66]; exact hd21.trans (scrGo_eq hf)
  ·have e66 : ¬ b = 66 := by have h9 := h16; simpa using h9
   refine WC.r1 hs7 [] rfl ?_
   refine WC.cq rfl (fun h23 qh23 => ?_) (fun h23 qh23 => ?_)
   ·have e67 : b = 67 := by have h9 := h23; simpa using h9
    refine WC.sr ?_
    refine WL.r 7 hs7 [1, 1, 1] rfl ?_
    refine WL.cl Tryz.call163 rfl (c_spec_ScrGo s _ _ _ (ownScrR.ok (B := 549755813888) o_s (hs7.ow L_s) (by assumption)) ?_) ?_
    · first | (first | assumption | rfl | omega) | (first | assumption | omega | exact blank_ok | (constructor <;> omega))
    rintro _ whs24 ⟨r25, L1_26, rfl, hs24, ho27, hd28⟩
    replace hs24 := hs7.callF hs24
    refine ⟨_, rfl, ?_⟩
    replace hs24 := St.back [_, _] hs24
    refine WL.st tbk hs24 0 rfl rfl (fun _ hs29 => ?_)
    refine WL.nil ?_
    refine WC.ret ?_
    refine ibR (tkR ?_)
    clear hK8
    refine retV1 rfl (resV.cellA tbk hs29 0 rfl rfl rfl rfl) ?_
    refine ⟨r25, _, rfl, (St.keep1 (hs29.fr L1_26)), ?_, ?_⟩
    · exact ho27
    · unfold csiD; rw [if_neg e65, if_neg e66, if_pos e67]; exact hd28.trans (scrGo_eq hf)
   ·have e67 : ¬ b = 67 := by have h9 := h23; simpa using h9
    refine WC.r1 hs7 [] rfl ?_
    refine WC.cq rfl (fun h30 qh30 => ?_) (fun h30 qh30 => ?_)
    ·have e68 : b = 68 := by have h9 := h30; simpa using h9
     refine WC.sr ?_
     refine WL.r 7 hs7 [1, 1, 1] rfl ?_
     refine WL.cl Tryz.call163 rfl (c_spec_ScrGo s _ _ _ (ownScrR.ok (B := 549755813888) o_s (hs7.ow L_s) (by assumption)) ?_) ?_
     · first | (first | assumption | rfl | omega) | (first | assumption | omega | exact blank_ok | (constructor <;> omega))
     rintro _ whs31 ⟨r32, L1_33, rfl, hs31, ho34, hd35⟩
     replace hs31 := hs7.callF hs31
     refine ⟨_, rfl, ?_⟩
     replace hs31 := St.back [_, _] hs31
     refine WL.st tbk hs31 0 rfl rfl (fun _ hs36 => ?_)
     refine WL.nil ?_
     refine WC.ret ?_
     refine ibR (tkR ?_)
     clear hK8
     refine retV1 rfl (resV.cellA tbk hs36 0 rfl rfl rfl rfl) ?_
     refine ⟨r32, _, rfl, (St.keep1 (hs36.fr L1_33)), ?_, ?_⟩
     · exact ho34
     · unfold csiD; rw [if_neg e65, if_neg e66, if_neg e67, if_pos e68]; exact hd35.trans (scrGo_eq hf)
    ·have e68 : ¬ b = 68 := by have h9 := h30; simpa using h9
     refine WC.r1 hs7 [] rfl ?_
     refine WC.cq rfl (fun h37 qh37 => ?_) (fun h37 qh37 => ?_)
     ·have e71 : b = 71 := by have h9 := h37; simpa using h9
      refine WC.sr ?_
      refine WL.r 5 hs7 [1, 1] rfl ?_
      refine WL.cl Tryz.call163 rfl (c_spec_ScrGo s _ _ _ (ownScrR.ok (B := 549755813888) o_s (hs7.ow L_s) (by assumption)) ?_) ?_
      · first | (first | assumption | rfl | omega) | (first | assumption | omega | exact blank_ok | (constructor <;> omega))
      rintro _ whs38 ⟨r39, L1_40, rfl, hs38, ho41, hd42⟩
      replace hs38 := hs7.callF hs38
      refine ⟨_, rfl, ?_⟩
      replace hs38 := St.back [_, _] hs38
      refine WL.st tbk hs38 0 rfl rfl (fun _ hs43 => ?_)
      refine WL.nil ?_
      refine WC.ret ?_
      refine ibR (tkR ?_)
      clear hK8
      refine retV1 rfl (resV.cellA tbk hs43 0 rfl rfl rfl rfl) ?_
      refine ⟨r39, _, rfl, (St.keep1 (hs43.fr L1_40)), ?_, ?_⟩
      · exact ho41
      · unfold csiD; rw [if_neg e65, if_neg e66, if_neg e67, if_neg e68, if_pos e71]; exact hd42.trans (scrGo_eq hf)
     ·have e71 : ¬ b = 71 := by have h9 := h37; simpa using h9
      refine WC.r1 hs7 [] rfl ?_
      refine WC.cq rfl (fun h44 qh44 => ?_) (fun h44 qh44 => ?_)
      ·have e100 : b = 100 := by have h9 := h44; simpa using h9
       refine WC.sr ?_
       refine WL.r 5 hs7 [1, 1] rfl ?_
       refine WL.cl Tryz.call163 rfl (c_spec_ScrGo s _ _ _ (ownScrR.ok (B := 549755813888) o_s (hs7.ow L_s) (by assumption)) ?_) ?_
       · first | (first | assumption | rfl | omega) | (first | assumption | omega | exact blank_ok | (constructor <;> omega))
       rintro _ whs45 ⟨r46, L1_47, rfl, hs45, ho48, hd49⟩
       replace hs45 := hs7.callF hs45
       refine ⟨_, rfl, ?_⟩
       replace hs45 := St.back [_, _] hs45
       refine WL.st tbk hs45 0 rfl rfl (fun _ hs50 => ?_)
       refine WL.nil ?_
       refine WC.ret ?_
       refine ibR (tkR ?_)
       clear hK8
       refine retV1 rfl (resV.cellA tbk hs50 0 rfl rfl rfl rfl) ?_
       refine ⟨r46, _, rfl, (St.keep1 (hs50.fr L1_47)), ?_, ?_⟩
       · exact ho48
       · unfold csiD; rw [if_neg e65, if_neg e66, if_neg e67, if_neg e68, if_neg e71, if_pos e100]; exact hd49.trans (scrGo_eq hf)
      ·have e100 : ¬ b = 100 := by have h9 := h44; simpa using h9
       refine WC.seq (fun K51 hK51 => ?_)
       refine WC.r1 hs7 [] rfl ?_
       refine WC.cq rfl (fun h52 qh52 => ?_) (fun h52 qh52 => ?_)
       ·have e72 : b = 72 := by have h9 := h52; simpa using h9
        refine WC.skip ?_
        refine hK51 _ _ ?_
        refine WC.condT rfl h52 ?_
        refine WC.seq (fun K54 hK54 => ?_)
        refine WC.rG 7 hs7.d1 hs7 hs7 (fun _ hs55 => ?_)
        refine WG.rn [0, 1, 4, 5] hs55 [1] rfl rfl ?_
        refine WG.o1 2 rfl rfl ?_
        refine WL.cl Tryz.call177 rfl (c_spec_l10Arg_1 _ _ _ _ _ _ (SlF.st f_l hs55 s_l) ?_) ?_
        · first | (first | assumption | rfl | omega) | (first | assumption | omega | exact blank_ok | (constructor <;> omega))
        rintro _ whs56 ⟨rfl, hs56⟩
        replace hs56 := hs55.call0 hs56
        refine ⟨_, rfl, ?_⟩
        refine WL.nil ⟨hs56, ?_⟩
        refine WG.rn [3] hs56 [] rfl rfl ?_
        refine WG.o1 6 rfl rfl ?_
        refine WL.cl Tryz.call163 rfl (c_spec_ScrGo s _ _ _ (ownScrR.ok (B := 549755813888) o_s (hs56.ow L_s) (by assumption)) ?_) ?_
        · first | (first | assumption | rfl | omega) | (first | assumption | omega | exact blank_ok | (constructor <;> omega))
        rintro _ whs57 ⟨r58, L1_59, rfl, hs57, ho60, hd61⟩
        replace hs57 := hs56.callF hs57
        refine ⟨_, rfl, ?_⟩
        replace hs57 := St.back [_, _] hs57
        refine WL.nil ⟨(hs57.rm L1_59), ?_⟩
        refine WG.oK rfl ?_
        refine WL.st tbk hs57 0 rfl rfl (fun _ hs62 => ?_)
        refine WL.nil ⟨(hs62.d1.rm L1_59), ?_⟩
        refine WH.dn ?_
        refine hK54 _ _ ?_
        refine WC.ret ?_
        refine ibR (tkR ?_)
        clear hK8
        refine retV1 rfl (resV.cellA tbk hs62 0 rfl rfl rfl rfl) ?_
        refine ⟨r58, _, rfl, (St.keep1 (hs62.fr L1_59)), ?_, ?_⟩
        · exact ho60
        · unfold csiD; rw [if_neg e65, if_neg e66, if_neg e67, if_neg e68, if_neg e71, if_neg e100, if_pos (show b = 72 ∨ b = 102 by omega)]; exact hd61.trans (scrGo_eq hf)
       ·have e72 : ¬ b = 72 := by have h9 := h52; simpa using h9
        refine WC.region ?_
        refine WL.r 2 hs7 [] rfl ?_
        refine WL.nil ?_
        refine hK51 _ _ ?_
        refine WC.cq rfl (fun h63 qh63 => ?_) (fun h63 qh63 => ?_)
        ·have e102 : b = 102 := by have h9 := h63; simpa using h9
         refine WC.seq (fun K64 hK64 => ?_)
         refine WC.rG 7 hs7.d1 hs7 hs7 (fun _ hs65 => ?_)
         refine WG.rn [0, 1, 4, 5] hs65 [1] rfl rfl ?_
         refine WG.o1 2 rfl rfl ?_
         refine WL.cl Tryz.call177 rfl (c_spec_l10Arg_1 _ _ _ _ _ _ (SlF.st f_l hs65 s_l) ?_) ?_
         · first | (first | assumption | rfl | omega) | (first | assumption | omega | exact blank_ok | (constructor <;> omega))
         rintro _ whs66 ⟨rfl, hs66⟩
         replace hs66 := hs65.call0 hs66
         refine ⟨_, rfl, ?_⟩
         refine WL.nil ⟨hs66, ?_⟩
         refine WG.rn [3] hs66 [] rfl rfl ?_
         refine WG.o1 6 rfl rfl ?_
         refine WL.cl Tryz.call163 rfl (c_spec_ScrGo s _ _ _ (ownScrR.ok (B := 549755813888) o_s (hs66.ow L_s) (by assumption)) ?_) ?_
         · first | (first | assumption | rfl | omega) | (first | assumption | omega | exact blank_ok | (constructor <;> omega))
         rintro _ whs67 ⟨r68, L1_69, rfl, hs67, ho70, hd71⟩
         replace hs67 := hs66.callF hs67
         refine ⟨_, rfl, ?_⟩
         replace hs67 := St.back [_, _] hs67
         refine WL.nil ⟨(hs67.rm L1_69), ?_⟩
         refine WG.oK rfl ?_
         refine WL.st tbk hs67 0 rfl rfl (fun _ hs72 => ?_)
         refine WL.nil ⟨(hs72.d1.rm L1_69), ?_⟩
         refine WH.dn ?_
         refine hK64 _ _ ?_
         refine WC.ret ?_
         refine ibR (tkR ?_)
         clear hK8
         refine retV1 rfl (resV.cellA tbk hs72 0 rfl rfl rfl rfl) ?_
         refine ⟨r68, _, rfl, (St.keep1 (hs72.fr L1_69)), ?_, ?_⟩
         · exact ho70
         · unfold csiD; rw [if_neg e65, if_neg e66, if_neg e67, if_neg e68, if_neg e71, if_neg e100, if_pos (show b = 72 ∨ b = 102 by omega)]; exact hd71.trans (scrGo_eq hf)
        ·have e102 : ¬ b = 102 := by have h9 := h63; simpa using h9
         refine WC.r1 hs7 [] rfl ?_
         refine WC.cq rfl (fun h73 qh73 => ?_) (fun h73 qh73 => ?_)
         ·have e7 : ¬ (b = 72 ∨ b = 102) := by omega
          have e74 : b = 74 := by have h9 := h73; simpa using h9
          refine WC.sr ?_
          refine WL.r 7 hs7 [1, 1, 1] rfl ?_
          refine WL.cl Tryz.call178 rfl (c_spec_l10Erase s _ _ _ _ _ o_s (hs7.ow L_s) (St.nodupL (hs7.fr L_s)) ?_ ?_) ?_
          · first | (first | assumption | rfl | omega) | (first | assumption | omega | exact blank_ok | (constructor <;> omega))
          · first | (first | assumption | rfl | omega) | (first | assumption | omega | exact blank_ok | (constructor <;> omega))
          rintro _ whs74 ⟨r75, L1_76, rfl, hs74, ho77, hd78⟩
          replace hs74 := St.lend (hs7.fr L_s) hs74
          refine ⟨_, rfl, ?_⟩
          replace hs74 := St.back [_, _] hs74
          refine WL.st tbk hs74 0 rfl rfl (fun _ hs79 => ?_)
          refine WL.nil ?_
          refine WC.ret ?_
          refine ibR (tkR ?_)
          clear hK8
          refine retV1 rfl (resV.cellA tbk hs79 0 rfl rfl rfl rfl) ?_
          refine ⟨r75, _, rfl, (St.keep1 (hs79.fr L1_76)), ?_, ?_⟩
          · exact ho77
          · unfold csiD; rw [if_neg e65, if_neg e66, if_neg e67, if_neg e68, if_neg e71, if_neg e100, if_neg e7, if_pos e74]; exact hd78
         ·have e7 : ¬ (b = 72 ∨ b = 102) := by omega
          have e74 : ¬ b = 74 := by have h9 := h73; simpa using h9
          refine WC.r1 hs7 [] rfl ?_
          refine WC.cq rfl (fun h80 qh80 => ?_) (fun h80 qh80 => ?_)
          ·have e75 : b = 75 := by have h9 := h80; simpa using h9
           refine WC.sr ?_
           refine WL.r 15 hs7 [1, 1, 1, 1, 1, 1] rfl ?_
           refine WL.cl Tryz.call178 rfl (c_spec_l10Erase s _ _ _ _ _ o_s (hs7.ow L_s) (St.nodupL (hs7.fr L_s)) ?_ ?_) ?_
           · first | (first | assumption | rfl | omega) | (first | assumption | omega | exact blank_ok | (constructor <;> omega))
           · first | (first | assumption | rfl | omega) | (first | assumption | omega | exact blank_ok | (constructor <;> omega))
           rintro _ whs81 ⟨r82, L1_83, rfl, hs81, ho84, hd85⟩
           replace hs81 := St.lend (hs7.fr L_s) hs81
           refine ⟨_, rfl, ?_⟩
           replace hs81 := St.back [_, _] hs81
           refine WL.st tbk hs81 0 rfl rfl (fun _ hs86 => ?_)
           refine WL.nil ?_
           refine WC.ret ?_
           refine ibR (tkR ?_)
           clear hK8
           refine retV1 rfl (resV.cellA tbk hs86 0 rfl rfl rfl rfl) ?_
           refine ⟨r82, _, rfl, (St.keep1 (hs86.fr L1_83)), ?_, ?_⟩
           · exact ho84
           · unfold csiD; rw [if_neg e65, if_neg e66, if_neg e67, if_neg e68, if_neg e71, if_neg e100, if_neg e7, if_neg e74, if_pos e75]; exact hd85.trans (by rw [← hv1]; rfl)
          ·have e75 : ¬ b = 75 := by have h9 := h80; simpa using h9
           refine WC.r1 hs7 [] rfl ?_
           refine WC.cq rfl (fun h87 qh87 => ?_) (fun h87 qh87 => ?_)
           ·have e88 : b = 88 := by have h9 := h87; simpa using h9
            refine WC.seq (fun K88 hK88 => ?_)
            refine WC.rG 11 (hs7.d1.rm L_s) (hs7.rm L_s) hs7 (fun _ hs89 => ?_)
            refine WG.rn [0, 1, 3, 4, 5, 6, 7] (hs89.rm L_s) [1, 1, 1, 1] rfl rfl ?_
            refine WG.o1 2 rfl rfl ?_
            refine WL.cl Tryz.call145 rfl (c_spec_l09Shown s _ (ownScrR.ok (B := 549755813888) o_s (hs89.ow L_s) (by assumption))) ?_
            rintro _ whs90 ⟨rfl, hs90⟩
            replace hs90 := hs89.call0 hs90
            refine ⟨_, rfl, ?_⟩
            refine WL.nil ⟨(hs90.rm L_s), ?_⟩
            refine WG.o1 8 rfl rfl ?_
            refine WL.cl Tryz.call180 rfl (c_spec_l07Blank _) ?_
            rintro _ whs91 ⟨rfl, hs91⟩
            replace hs91 := hs90.call0 hs91
            refine ⟨_, rfl, ?_⟩
            refine WL.nil ⟨(hs91.rm L_s), ?_⟩
            refine WG.o1 9 rfl rfl ?_
            refine WL.cl Tryz.call179 rfl (c_spec_GridFill (shownR s) _ _ _ _ _ _ _ _ _ _ _ (okScrR.shown (ownScrR.ok (B := 549755813888) o_s (hs91.ow L_s) (by assumption))) ?_ ?_ ?_ ?_ ?_ ?_) ?_
            · first | (first | assumption | rfl | omega) | (first | assumption | omega | exact blank_ok | (constructor <;> omega))
            · first | (first | assumption | rfl | omega) | (first | assumption | omega | exact blank_ok | (constructor <;> omega))
            · first | (first | assumption | rfl | omega) | (first | assumption | omega | exact blank_ok | (constructor <;> omega))
            · first | (first | assumption | rfl | omega) | (first | assumption | omega | exact blank_ok | (constructor <;> omega))
            · first | (first | assumption | rfl | omega) | (first | assumption | omega | exact blank_ok | (constructor <;> omega))
            · first | (first | assumption | rfl | omega) | (first | assumption | omega | exact blank_ok | (constructor <;> omega))
            rintro _ whs92 ⟨r93, L1_94, rfl, hs92, ho95, hd96⟩
            replace hs92 := hs91.callF hs92
            refine ⟨_, rfl, ?_⟩
            replace hs92 := St.back [_, _] hs92
            have hg9 := hd96
            refine WL.nil ⟨((hs92.rm L1_94).rm L_s), ?_⟩
            refine WG.o1 10 rfl rfl ?_
            refine WL.cl Tryz.call143 rfl (c_spec_l09Put s _ r93 _ _ o_s (hs92.ow L_s) ho95 (hs92.ow L1_94) (St.nodupL (St.grp2 (L1 := L_s) (L2 := L1_94) [] ((hs92.fr L1_94).fr L_s)))) ?_
            rintro _ whs97 ⟨r98, L1_99, rfl, hs97, ho100, hd101⟩
            replace hs97 := St.lend (St.grp2 (L1 := L_s) (L2 := L1_94) [] ((hs92.fr L1_94).fr L_s)) hs97
            refine ⟨_, rfl, ?_⟩
            replace hs97 := St.back [_, _] hs97
            refine WL.nil ⟨(hs97.rm L1_99), ?_⟩
            refine WG.oK rfl ?_
            refine WL.st tbk hs97 0 rfl rfl (fun _ hs102 => ?_)
            refine WL.nil ⟨(hs102.d1.rm L1_99), ?_⟩
            refine WH.dn ?_
            refine hK88 _ _ ?_
            refine WC.ret ?_
            refine ibR (tkR ?_)
            clear hK8
            refine retV1 rfl (resV.cellA tbk hs102 0 rfl rfl rfl rfl) ?_
            refine ⟨r98, _, rfl, (St.keep1 (hs102.fr L1_99)), ?_, ?_⟩
            · exact ho100
            · unfold csiD; rw [if_neg e65, if_neg e66, if_neg e67, if_neg e68, if_neg e71, if_neg e100, if_neg e7, if_neg e74, if_neg e75, if_pos e88]; refine hd101.trans ?_; rw [hg9, shownR_dat]; show putD s.dat (gFill (shownD s.dat) s.X s.Y (argI l 0 1) 1 blankC) = _; rw [hfc]; rfl
           ·have e88 : ¬ b = 88 := by have h9 := h87; simpa using h9
            refine WC.r1 hs7 [] rfl ?_
            refine WC.cq rfl (fun h103 qh103 => ?_) (fun h103 qh103 => ?_)
            ·have e64 : b = 64 := by have h9 := h103; simpa using h9
             refine WC.seq (fun K104 hK104 => ?_)
             refine WC.rG 10 (hs7.d1.rm L_s) (hs7.rm L_s) hs7 (fun _ hs105 => ?_)
             refine WG.rn [0, 1, 3, 4, 5, 6, 7] (hs105.rm L_s) [1, 1, 1, 1] rfl rfl ?_
             refine WG.o1 2 rfl rfl ?_
             refine WL.cl Tryz.call145 rfl (c_spec_l09Shown s _ (ownScrR.ok (B := 549755813888) o_s (hs105.ow L_s) (by assumption))) ?_
             rintro _ whs106 ⟨rfl, hs106⟩
             replace hs106 := hs105.call0 hs106
             refine ⟨_, rfl, ?_⟩
             refine WL.nil ⟨(hs106.rm L_s), ?_⟩
             refine WG.o1 8 rfl rfl ?_
             refine WL.cl Tryz.call181 rfl (c_spec_GridShift (shownR s) _ _ _ _ (okScrR.shown (ownScrR.ok (B := 549755813888) o_s (hs106.ow L_s) (by assumption))) ?_ ?_ ?_ ?_) ?_
             · first | (first | assumption | rfl | omega) | (first | assumption | omega | exact blank_ok | (constructor <;> omega))
             · first | (first | assumption | rfl | omega) | (first | assumption | omega | exact blank_ok | (constructor <;> omega))
             · first | (first | assumption | rfl | omega) | (first | assumption | omega | exact blank_ok | (constructor <;> omega))
             · first | (first | assumption | rfl | omega) | (first | assumption | omega | exact blank_ok | (constructor <;> omega))
             rintro _ whs107 ⟨r108, L1_109, rfl, hs107, ho110, hd111⟩
             replace hs107 := hs106.callF hs107
             refine ⟨_, rfl, ?_⟩
             replace hs107 := St.back [_, _] hs107
             have hg9 := hd111
             refine WL.nil ⟨((hs107.rm L1_109).rm L_s), ?_⟩
             refine WG.o1 9 rfl rfl ?_
             refine WL.cl Tryz.call143 rfl (c_spec_l09Put s _ r108 _ _ o_s (hs107.ow L_s) ho110 (hs107.ow L1_109) (St.nodupL (St.grp2 (L1 := L_s) (L2 := L1_109) [] ((hs107.fr L1_109).fr L_s)))) ?_
             rintro _ whs112 ⟨r113, L1_114, rfl, hs112, ho115, hd116⟩
             replace hs112 := St.lend (St.grp2 (L1 := L_s) (L2 := L1_109) [] ((hs107.fr L1_109).fr L_s)) hs112
             refine ⟨_, rfl, ?_⟩
             replace hs112 := St.back [_, _] hs112
             refine WL.nil ⟨(hs112.rm L1_114), ?_⟩
             refine WG.oK rfl ?_
             refine WL.st tbk hs112 0 rfl rfl (fun _ hs117 => ?_)
             refine WL.nil ⟨(hs117.d1.rm L1_114), ?_⟩
             refine WH.dn ?_
             refine hK104 _ _ ?_
             refine WC.ret ?_
             refine ibR (tkR ?_)
             clear hK8
             refine retV1 rfl (resV.cellA tbk hs117 0 rfl rfl rfl rfl) ?_
             refine ⟨r113, _, rfl, (St.keep1 (hs117.fr L1_114)), ?_, ?_⟩
             · exact ho115
             · unfold csiD; rw [if_neg e65, if_neg e66, if_neg e67, if_neg e68, if_neg e71, if_neg e100, if_neg e7, if_neg e74, if_neg e75, if_neg e88, if_pos e64]; refine hd116.trans ?_; rw [hg9, shownR_dat]; rfl
            ·have e64 : ¬ b = 64 := by have h9 := h103; simpa using h9
             refine WC.r1 hs7 [] rfl ?_
             refine WC.cq rfl (fun h118 qh118 => ?_) (fun h118 qh118 => ?_)
             ·have e80 : b = 80 := by have h9 := h118; simpa using h9
              refine WC.seq (fun K119 hK119 => ?_)
              refine WC.rG 11 (hs7.d1.rm L_s) (hs7.rm L_s) hs7 (fun _ hs120 => ?_)
              refine WG.rn [0, 1, 3, 4, 5, 6, 7, 8] (hs120.rm L_s) [1, 1, 1, 1] rfl rfl ?_
              refine WG.o1 2 rfl rfl ?_
              refine WL.cl Tryz.call145 rfl (c_spec_l09Shown s _ (ownScrR.ok (B := 549755813888) o_s (hs120.ow L_s) (by assumption))) ?_
              rintro _ whs121 ⟨rfl, hs121⟩
              replace hs121 := hs120.call0 hs121
              refine ⟨_, rfl, ?_⟩
              refine WL.nil ⟨(hs121.rm L_s), ?_⟩
              refine WG.o1 9 rfl rfl ?_
              refine WL.cl Tryz.call181 rfl (c_spec_GridShift (shownR s) _ _ _ _ (okScrR.shown (ownScrR.ok (B := 549755813888) o_s (hs121.ow L_s) (by assumption))) ?_ ?_ ?_ ?_) ?_
              · first | (first | assumption | rfl | omega) | (first | assumption | omega | exact blank_ok | (constructor <;> omega))
              · first | (first | assumption | rfl | omega) | (first | assumption | omega | exact blank_ok | (constructor <;> omega))
              · first | (first | assumption | rfl | omega) | (first | assumption | omega | exact blank_ok | (constructor <;> omega))
              · first | (first | assumption | rfl | omega) | (first | assumption | omega | exact blank_ok | (constructor <;> omega))
              rintro _ whs122 ⟨r123, L1_124, rfl, hs122, ho125, hd126⟩
              replace hs122 := hs121.callF hs122
              refine ⟨_, rfl, ?_⟩
              replace hs122 := St.back [_, _] hs122
              have hg9 := hd126
              refine WL.nil ⟨((hs122.rm L1_124).rm L_s), ?_⟩
              refine WG.o1 10 rfl rfl ?_
              refine WL.cl Tryz.call143 rfl (c_spec_l09Put s _ r123 _ _ o_s (hs122.ow L_s) ho125 (hs122.ow L1_124) (St.nodupL (St.grp2 (L1 := L_s) (L2 := L1_124) [] ((hs122.fr L1_124).fr L_s)))) ?_
              rintro _ whs127 ⟨r128, L1_129, rfl, hs127, ho130, hd131⟩
              replace hs127 := St.lend (St.grp2 (L1 := L_s) (L2 := L1_124) [] ((hs122.fr L1_124).fr L_s)) hs127
              refine ⟨_, rfl, ?_⟩
              replace hs127 := St.back [_, _] hs127
              refine WL.nil ⟨(hs127.rm L1_129), ?_⟩
              refine WG.oK rfl ?_
              refine WL.st tbk hs127 0 rfl rfl (fun _ hs132 => ?_)
              refine WL.nil ⟨(hs132.d1.rm L1_129), ?_⟩
              refine WH.dn ?_
              refine hK119 _ _ ?_
              refine WC.ret ?_
              refine ibR (tkR ?_)
              clear hK8
              refine retV1 rfl (resV.cellA tbk hs132 0 rfl rfl rfl rfl) ?_
              refine ⟨r128, _, rfl, (St.keep1 (hs132.fr L1_129)), ?_, ?_⟩
              · exact ho130
              · unfold csiD; rw [if_neg e65, if_neg e66, if_neg e67, if_neg e68, if_neg e71, if_neg e100, if_neg e7, if_neg e74, if_neg e75, if_neg e88, if_neg e64, if_pos e80]; refine hd131.trans ?_; rw [hg9, shownR_dat]; rfl
             ·have e80 : ¬ b = 80 := by have h9 := h118; simpa using h9
              refine WC.r1 hs7 [] rfl ?_
              refine WC.cq rfl (fun h133 qh133 => ?_) (fun h133 qh133 => ?_)
              ·have e76 : b = 76 := by have h9 := h133; simpa using h9
               refine WC.sr ?_
               refine WL.r 3 hs7 [1] rfl ?_
               refine WL.cl Tryz.call182 rfl (c_spec_l10Lines s _ _ _ o_s (hs7.ow L_s) (St.nodupL (hs7.fr L_s)) ?_ ?_ ?_) ?_
               · first | (first | assumption | rfl | omega) | (first | assumption | omega | exact blank_ok | (constructor <;> omega))
               · first | (first | assumption | rfl | omega) | (first | assumption | omega | exact blank_ok | (constructor <;> omega))
               · first | (first | assumption | rfl | omega) | (first | assumption | omega | exact blank_ok | (constructor <;> omega))
               rintro _ whs134 ⟨r135, L1_136, rfl, hs134, ho137, hd138⟩
               replace hs134 := St.lend (hs7.fr L_s) hs134
               refine ⟨_, rfl, ?_⟩
               replace hs134 := St.back [_, _] hs134
               refine WL.st tbk hs134 0 rfl rfl (fun _ hs139 => ?_)
               refine WL.nil ?_
               refine WC.ret ?_
               refine ibR (tkR ?_)
               clear hK8
               refine retV1 rfl (resV.cellA tbk hs139 0 rfl rfl rfl rfl) ?_
               refine ⟨r135, _, rfl, (St.keep1 (hs139.fr L1_136)), ?_, ?_⟩
               · exact ho137
               · unfold csiD; rw [if_neg e65, if_neg e66, if_neg e67, if_neg e68, if_neg e71, if_neg e100, if_neg e7, if_neg e74, if_neg e75, if_neg e88, if_neg e64, if_neg e80, if_pos e76]; exact hd138
              ·have e76 : ¬ b = 76 := by have h9 := h133; simpa using h9
               refine WC.r1 hs7 [] rfl ?_
               refine WC.cq rfl (fun h140 qh140 => ?_) (fun h140 qh140 => ?_)
               ·have e77 : b = 77 := by have h9 := h140; simpa using h9
                refine WC.sr ?_
                refine WL.r 2 hs7 [1] rfl ?_
                refine WL.cl Tryz.call182 rfl (c_spec_l10Lines s _ _ _ o_s (hs7.ow L_s) (St.nodupL (hs7.fr L_s)) ?_ ?_ ?_) ?_
                · first | (first | assumption | rfl | omega) | (first | assumption | omega | exact blank_ok | (constructor <;> omega))
                · first | (first | assumption | rfl | omega) | (first | assumption | omega | exact blank_ok | (constructor <;> omega))
                · first | (first | assumption | rfl | omega) | (first | assumption | omega | exact blank_ok | (constructor <;> omega))
                rintro _ whs141 ⟨r142, L1_143, rfl, hs141, ho144, hd145⟩
                replace hs141 := St.lend (hs7.fr L_s) hs141
                refine ⟨_, rfl, ?_⟩
                replace hs141 := St.back [_, _] hs141
                refine WL.st tbk hs141 0 rfl rfl (fun _ hs146 => ?_)
                refine WL.nil ?_
                refine WC.ret ?_
                refine ibR (tkR ?_)
                clear hK8
                refine retV1 rfl (resV.cellA tbk hs146 0 rfl rfl rfl rfl) ?_
                refine ⟨r142, _, rfl, (St.keep1 (hs146.fr L1_143)), ?_, ?_⟩
                · exact ho144
                · unfold csiD; rw [if_neg e65, if_neg e66, if_neg e67, if_neg e68, if_neg e71, if_neg e100, if_neg e7, if_neg e74, if_neg e75, if_neg e88, if_neg e64, if_neg e80, if_neg e76, if_pos e77]; exact hd145
               ·have e77 : ¬ b = 77 := by have h9 := h140; simpa using h9
                refine WC.r1 hs7 [] rfl ?_
                refine WC.cq rfl (fun h147 qh147 => ?_) (fun h147 qh147 => ?_)
                ·have e83 : b = 83 := by have h9 := h147; simpa using h9
                 refine WC.sr ?_
                 refine WL.r 2 hs7 [1] rfl ?_
                 refine WL.cl Tryz.call183 rfl (c_spec_l09Roll s _ _ _ o_s (hs7.ow L_s) (St.nodupL (hs7.fr L_s)) ?_ ?_ ?_) ?_
                 · first | (first | assumption | rfl | omega) | (first | assumption | omega | exact blank_ok | (constructor <;> omega))
                 · first | (first | assumption | rfl | omega) | (first | assumption | omega | exact blank_ok | (constructor <;> omega))
                 · first | (first | assumption | rfl | omega) | (first | assumption | omega | exact blank_ok | (constructor <;> omega))
                 rintro _ whs148 ⟨r149, L1_150, rfl, hs148, ho151, hd152⟩
                 replace hs148 := St.lend (hs7.fr L_s) hs148
                 refine ⟨_, rfl, ?_⟩
                 replace hs148 := St.back [_, _] hs148
                 refine WL.st tbk hs148 0 rfl rfl (fun _ hs153 => ?_)
                 refine WL.nil ?_
                 refine WC.ret ?_
                 refine ibR (tkR ?_)
                 clear hK8
                 refine retV1 rfl (resV.cellA tbk hs153 0 rfl rfl rfl rfl) ?_
                 refine ⟨r149, _, rfl, (St.keep1 (hs153.fr L1_150)), ?_, ?_⟩
                 · exact ho151
                 · unfold csiD; rw [if_neg e65, if_neg e66, if_neg e67, if_neg e68, if_neg e71, if_neg e100, if_neg e7, if_neg e74, if_neg e75, if_neg e88, if_neg e64, if_neg e80, if_neg e76, if_neg e77, if_pos e83]; exact hd152
                ·have e83 : ¬ b = 83 := by have h9 := h147; simpa using h9
                 refine WC.r1 hs7 [] rfl ?_
                 refine WC.cq rfl (fun h154 qh154 => ?_) (fun h154 qh154 => ?_)
                 ·have e84 : b = 84 := by have h9 := h154; simpa using h9
                  refine WC.seq (fun K155 hK155 => ?_)
                  refine WC.rG 11 (hs7.d1.rm L_s) (hs7.rm L_s) hs7 (fun _ hs156 => ?_)
                  refine WG.rn [0, 1, 3, 4, 5, 6, 7, 8] (hs156.rm L_s) [1, 1, 1, 1] rfl rfl ?_
                  refine WG.o1 2 rfl rfl ?_
                  refine WL.cl Tryz.call145 rfl (c_spec_l09Shown s _ (ownScrR.ok (B := 549755813888) o_s (hs156.ow L_s) (by assumption))) ?_
                  rintro _ whs157 ⟨rfl, hs157⟩
                  replace hs157 := hs156.call0 hs157
                  refine ⟨_, rfl, ?_⟩
                  refine WL.nil ⟨(hs157.rm L_s), ?_⟩
                  refine WG.o1 9 rfl rfl ?_
                  refine WL.cl Tryz.call144 rfl (c_spec_GridRoll (shownR s) _ _ _ _ (okScrR.shown (ownScrR.ok (B := 549755813888) o_s (hs157.ow L_s) (by assumption))) ?_ ?_ ?_) ?_
                  · first | (first | assumption | rfl | omega) | (first | assumption | omega | exact blank_ok | (constructor <;> omega))
                  · first | (first | assumption | rfl | omega) | (first | assumption | omega | exact blank_ok | (constructor <;> omega))
                  · first | (first | assumption | rfl | omega) | (first | assumption | omega | exact blank_ok | (constructor <;> omega))
                  rintro _ whs158 ⟨r159, L1_160, rfl, hs158, ho161, hd162⟩
                  replace hs158 := hs157.callF hs158
                  refine ⟨_, rfl, ?_⟩
                  replace hs158 := St.back [_, _] hs158
                  have hg9 := hd162
                  refine WL.nil ⟨((hs158.rm L1_160).rm L_s), ?_⟩
                  refine WG.o1 10 rfl rfl ?_
                  refine WL.cl Tryz.call143 rfl (c_spec_l09Put s _ r159 _ _ o_s (hs158.ow L_s) ho161 (hs158.ow L1_160) (St.nodupL (St.grp2 (L1 := L_s) (L2 := L1_160) [] ((hs158.fr L1_160).fr L_s)))) ?_
                  rintro _ whs163 ⟨r164, L1_165, rfl, hs163, ho166, hd167⟩
                  replace hs163 := St.lend (St.grp2 (L1 := L_s) (L2 := L1_160) [] ((hs158.fr L1_160).fr L_s)) hs163
                  refine ⟨_, rfl, ?_⟩
                  replace hs163 := St.back [_, _] hs163
                  refine WL.nil ⟨(hs163.rm L1_165), ?_⟩
                  refine WG.oK rfl ?_
                  refine WL.st tbk hs163 0 rfl rfl (fun _ hs168 => ?_)
                  refine WL.nil ⟨(hs168.d1.rm L1_165), ?_⟩
                  refine WH.dn ?_
                  refine hK155 _ _ ?_
                  refine WC.ret ?_
                  refine ibR (tkR ?_)
                  clear hK8
                  refine retV1 rfl (resV.cellA tbk hs168 0 rfl rfl rfl rfl) ?_
                  refine ⟨r164, _, rfl, (St.keep1 (hs168.fr L1_165)), ?_, ?_⟩
                  · exact ho166
                  · unfold csiD; rw [if_neg e65, if_neg e66, if_neg e67, if_neg e68, if_neg e71, if_neg e100, if_neg e7, if_neg e74, if_neg e75, if_neg e88, if_neg e64, if_neg e80, if_neg e76, if_neg e77, if_neg e83, if_pos e84]; refine hd167.trans ?_; rw [hg9, shownR_dat]; rfl
                 ·have e84 : ¬ b = 84 := by have h9 := h154; simpa using h9
                  refine WC.r1 hs7 [] rfl ?_
                  refine WC.cq rfl (fun h169 qh169 => ?_) (fun h169 qh169 => ?_)
                  ·have e109 : b = 109 := by have h9 := h169; simpa using h9
                   refine WC.region ?_
                   refine WL.r 3 hs7 [1] rfl ?_
                   refine WL.cl Tryz.call184 rfl (c_spec_Sgr _ _ _ _ _ _ _ _ _ _ (SlF.st f_l hs7 s_l) ?_ ?_) ?_
                   · first | (first | assumption | rfl | omega) | (first | assumption | omega | exact blank_ok | (constructor <;> omega))
                   · first | (first | assumption | rfl | omega) | (first | assumption | omega | exact blank_ok | (constructor <;> omega))
                   rintro _ whs170 ⟨r171, rfl, hs170, hr172⟩
                   replace hs170 := hs7.callF hs170
                   refine ⟨_, rfl, ?_⟩
                   rw [List.nil_append] at hs170
                   replace hs170 := St.perm hs170 (L' := [_, _] ++ _) pR
                   have hsg : r171 = sgrRes s.A l := hr172
                   refine WL.r 1 hs170 [] rfl ?_
                   refine WL.st tbk hs170 1 rfl rfl (fun _ hs173 => ?_)
                   refine WL.nil ?_
                   refine hK8 _ _ ?_
                   refine WC.sr ?_
                   refine WL.r 1 hs173 [1] rfl ?_
                   refine WL.st tbk hs173 0 rfl rfl (fun _ hs174 => ?_)
                   refine WL.nil ?_
                   refine WC.ret ?_
                   refine retV1 rfl (resV.cellA tbk hs174 0 rfl rfl rfl rfl) ?_
                   obtain ⟨L175, L176, L177, L178, hs183, ho179, ho180, ho181, ho182⟩ := ownScrR.open_ (hs174.fr L_s) o_s
                   have hs184 := ((hs183.fb b2).fb b4)
                   obtain ⟨L186, hs185, ho187⟩ := ownScrR.fl ((((hs184.fr L178).fr L177).fr L176).fr L175) ho179 ho180 ho181 ho182
                   have hs188 := ((hs185.fb b2).fb b4)
                   refine ⟨⟨s.W, s.H, ⟨s.Main.W, s.Main.H, SlD.of ho179⟩, ⟨s.Alt.W, s.Alt.H, SlD.of ho180⟩, s.OnAlt, s.X, s.Y, s.Wrap, ⟨r171.Fg, r171.Bg, r171.Bold, r171.Under, r171.Turn⟩, s.Top, s.Bot, s.NoWrap, s.Hide, s.SaveX, s.SaveY, ⟨s.SaveA.Fg, s.SaveA.Bg, s.SaveA.Bold, s.SaveA.Under, s.SaveA.Turn⟩, SlD.of ho181, s.Limit, SlD.ofN ho182⟩, _, rfl, (St.keep1 (hs188.fr L186)), ?_, ?_⟩
                   · exact (by exact ho187)
                   · unfold csiD; rw [if_neg e65, if_neg e66, if_neg e67, if_neg e68, if_neg e71, if_neg e100, if_neg e7, if_neg e74, if_neg e75, if_neg e88, if_neg e64, if_neg e80, if_neg e76, if_neg e77, if_neg e83, if_neg e84, if_pos e109]; show _ = ({ s.dat with A := sgrRes s.A l } : ScrD); rw [← hsg]; rfl
                  ·have e109 : ¬ b = 109 := by have h9 := h169; simpa using h9
                   refine WC.r1 hs7 [] rfl ?_
                   refine WC.cq rfl (fun h189 qh189 => ?_) (fun h189 qh189 => ?_)
                   ·have e114 : b = 114 := by have h9 := h189; simpa using h9
                    refine WC.sr ?_
                    refine WL.r 2 hs7 [1] rfl ?_
                    refine WL.cl Tryz.call185 rfl (c_spec_l10Region s _ _ _ _ _ _ o_s (hs7.ow L_s) (SlF.st f_l hs7 s_l) (St.nodupL (hs7.fr L_s)) (St.sepT (hs7.fr L_s) f_l s_l) ?_ ?_ ?_ ?_) ?_
                    · first | (first | assumption | omega) | (first | assumption | omega | exact blank_ok | (constructor <;> omega))
                    · first | (first | assumption | omega) | (first | assumption | omega | exact blank_ok | (constructor <;> omega))
                    · first | (first | assumption | omega) | (first | assumption | omega | exact blank_ok | (constructor <;> omega))
                    · first | (first | assumption | omega) | (first | assumption | omega | exact blank_ok | (constructor <;> omega))
                    rintro _ whs190 ⟨r191, L1_192, rfl, hs190, ho193, hd194⟩
                    replace hs190 := St.lend (hs7.fr L_s) hs190
                    refine ⟨_, rfl, ?_⟩
                    replace hs190 := St.back [_, _] hs190
                    refine WL.st tbk hs190 0 rfl rfl (fun _ hs195 => ?_)
                    refine WL.nil ?_
                    refine WC.ret ?_
                    refine ibR (tkR ?_)
                    clear hK8
                    refine retV1 rfl (resV.cellA tbk hs195 0 rfl rfl rfl rfl) ?_
                    refine ⟨r191, _, rfl, (St.keep1 (hs195.fr L1_192)), ?_, ?_⟩
                    · exact ho193
                    · unfold csiD; rw [if_neg e65, if_neg e66, if_neg e67, if_neg e68, if_neg e71, if_neg e100, if_neg e7, if_neg e74, if_neg e75, if_neg e88, if_neg e64, if_neg e80, if_neg e76, if_neg e77, if_neg e83, if_neg e84, if_neg e109, if_pos e114]; exact hd194
                   ·have e114 : ¬ b = 114 := by have h9 := h189; simpa using h9
                    refine WC.r1 hs7 [] rfl ?_
                    refine WC.cq rfl (fun h196 qh196 => ?_) (fun h196 qh196 => ?_)
                    ·have e103 : b = 103 := by have h9 := h196; simpa using h9
                     refine WC.sr ?_
                     refine WL.r 2 hs7 [1] rfl ?_
                     refine WL.cl Tryz.call186 rfl (c_spec_l10Tabs s _ _ _ o_s (hs7.ow L_s) (St.nodupL (hs7.fr L_s)) ?_ ?_) ?_
                     · first | (first | assumption | rfl | omega) | (first | assumption | omega | exact blank_ok | (constructor <;> omega))
                     · first | (first | assumption | rfl | omega) | (first | assumption | omega | exact blank_ok | (constructor <;> omega))
                     rintro _ whs197 ⟨r198, L1_199, rfl, hs197, ho200, hd201⟩
                     replace hs197 := St.lend (hs7.fr L_s) hs197
                     refine ⟨_, rfl, ?_⟩
                     replace hs197 := St.back [_, _] hs197
                     refine WL.st tbk hs197 0 rfl rfl (fun _ hs202 => ?_)
                     refine WL.nil ?_
                     refine WC.ret ?_
                     refine ibR (tkR ?_)
                     clear hK8
                     refine retV1 rfl (resV.cellA tbk hs202 0 rfl rfl rfl rfl) ?_
                     refine ⟨r198, _, rfl, (St.keep1 (hs202.fr L1_199)), ?_, ?_⟩
                     · exact ho200
                     · unfold csiD; rw [if_neg e65, if_neg e66, if_neg e67, if_neg e68, if_neg e71, if_neg e100, if_neg e7, if_neg e74, if_neg e75, if_neg e88, if_neg e64, if_neg e80, if_neg e76, if_neg e77, if_neg e83, if_neg e84, if_neg e109, if_neg e114, if_pos e103]; exact hd201
                    ·have e103 : ¬ b = 103 := by have h9 := h196; simpa using h9
                     refine WC.skip ?_
                     refine hK8 _ _ ?_
                     refine WC.sr ?_
                     refine WL.r 1 hs7 [1] rfl ?_
                     refine WL.st tbk hs7 0 rfl rfl (fun _ hs203 => ?_)
                     refine WL.nil ?_
                     refine WC.ret ?_
                     refine retV1 rfl (resV.cellA tbk hs203 0 rfl rfl rfl rfl) ?_
                     refine ⟨s, _, rfl, (St.keep1 (hs203.fr L_s)), ?_, ?_⟩
                     · exact o_s
                     · unfold csiD; rw [if_neg e65, if_neg e66, if_neg e67, if_neg e68, if_neg e71, if_neg e100, if_neg e7, if_neg e74, if_neg e75, if_neg e88, if_neg e64, if_neg e80, if_neg e76, if_neg e77, if_neg e83, if_neg e84, if_neg e109, if_neg e114, if_neg e103]
end Go.Proofs.YtjmegoiclgancaaGreat
namespace Go.Proofs.YtjmegoiclgancaaGreat
open Go Go.RowKit
set_option linter.unusedVariables false
set_option linter.unusedSimpArgs false
theorem c_spec_ScrCsi (s : ScrR) (mark : Bool) (A_l : Option Addr) (n_l c_l : Nat) (l : List Int) (b : Int) (w : World) (f_s : okScrR 549755813888 w s) (f_l : SlF encI w A_l n_l l) (hsm : smScr 1048576 s.dat) (hll : n_l ≤ 549755813888) :
    Calls Tryz.prog 30 #[.agg (cScr s).toArray, .bool mark, .slice A_l n_l c_l, i64 b] w fun e w' => ∃ r L1, e = .returned (.agg (cScr r).toArray) ∧ St w [] L1 w' ∧ ownScrR r L1 ∧ r.dat = scrCsiRes s.dat mark l b := by
 have nb_s_Main_Cells := f_s.Main.Cells_n
 have nl_s_Main_Cells := f_s.Main.Cells.len
 have nb_s_Alt_Cells := f_s.Alt.Cells_n
 have nl_s_Alt_Cells := f_s.Alt.Cells.len
 have nb_s_Tabs := f_s.Tabs_n
 have nl_s_Tabs := f_s.Tabs.len
 have nb_s_Back := f_s.Back_n
 have nl_s_Back := f_s.Back.sl.len
 have hsmB : smScr 549755813888 s.dat := by first | assumption | exact smScr_mono hsm (by decide)
 have hln := f_l.len
 refine enter 64 Tryz.func30 rfl Tryz.ntmps30 rfl rfl ?_
 have hs1 := St.init w
 refine WC.sr ?_
 refine WL.bx hs1 rfl (fun b2 _ hs3 => ?_)
 refine WL.al hs3 Tryz.zeroValue33 rfl rfl (fun b4 _ hs5 => ?_)
 refine WL.nil ?_
 refine WC.seq (fun K6 hK6 => ?_)
 refine WC.sr ?_
 refine WL.r 1 hs5 [1] rfl ?_
 refine WL.cl Tryz.call63 rfl (c_spec_ScrOk s _ (okScrR.st0 f_s hs5)) ?_
 rintro _ whs7 ⟨rfl, hs7⟩
 replace hs7 := hs5.call0 hs7
 refine ⟨_, rfl, ?_⟩
 refine WL.r 2 hs7 [] rfl ?_
 refine WL.pO tbk 3 Acts.nil hs7 [] rfl rfl rfl rfl (fun g_ => trivial) ?_
 refine WL.nil ?_
 refine WC.cq rfl (fun h8 qh8 => ?_) (fun h8 qh8 => ?_)
 ·have hnk : ¬ (scrOk s.dat = true ∧ areArgs l = true) := by rintro ⟨z1, z2⟩; have z3 := (areArgs_iff.1 z2).1; have h9 := h8; simp [z1] at h9; omega
  refine WC.sr ?_
  refine WL.val rfl rfl rfl (Run.build rfl rfl rfl rfl (built_33)) ?_
  refine WL.st tbk hs7 0 rfl rfl (fun _ hs9 => ?_)
  refine WL.nil ?_
  refine WC.ret ?_
  refine tkR ?_
  clear hK6
  refine retV1 rfl (resV.cellA tbk hs9 0 rfl rfl rfl rfl) ?_
  obtain ⟨L15, hs14, ho16⟩ := ownScrR.fl ((((hs9.fr ([] : Hp)).fr ([] : Hp)).fr ([] : Hp)).fr ([] : Hp)) (OwnF.nil _ _) (OwnF.nil _ _) (OwnF.nil _ _) (OwnN.nil _ _ _)
  have hs17 := ((hs14.fb b2).fb b4)
  refine ⟨⟨0, 0, ⟨0, 0, ⟨none, 0, 0, []⟩⟩, ⟨0, 0, ⟨none, 0, 0, []⟩⟩, false, 0, 0, false, ⟨0, 0, false, false, false⟩, 0, 0, false, false, 0, 0, ⟨0, 0, false, false, false⟩, ⟨none, 0, 0, []⟩, 0, ⟨none, 0, 0, []⟩⟩, _, rfl, (St.keep1 (hs17.fr L15)), ?_, ?_⟩
  · exact (by exact ho16)
  · rw [csi_not hnk]; rfl
 ·have hk8 : scrOk s.dat = true ∧ n_l ≤ 8 := by have h9 := h8; simp at h9; exact ⟨h9.1, by omega⟩
  have hk := hk8.1
  have hf := ScrFine.of hk
  refine WC.skip ?_
  refine hK6 _ _ ?_
  refine WC.seq (fun K18 hK18 => ?_)
  refine WC.r1 hs7 [] rfl ?_
  refine WC.block ?_
  refine WC.lS [1, 2, 3, 4, 8, 21, 23, 24] rfl hs7 (fun k_ f w' => ∃ (i : Nat), k_ = n_l - i ∧ (i ≤ n_l) ∧ (∀ j, j < i → 0 ≤ iat l j ∧ iat l j ≤ 9999) ∧ Sub [(25, .int .i64 i)] f) ((fun (i : Nat) => n_l - i) (0)) ?_ ?_
  ·refine ⟨0, rfl, ?_, ?_, ⟨rfl, trivial⟩⟩
   · exact Nat.zero_le _
   · exact fun j hj => absurd hj (by omega)
  ·clear hs7
   rintro _ f w ⟨i, rfl, p0, p1, hG⟩ hF hs19
   refine WC.sub _ (hG.app hF) ?_
   clear hG hF
   refine WC.r1 hs19 [] rfl ?_
   refine WC.seq (fun K20 hK20 => ?_)
   refine WC.cq rfl (fun h21 qh21 => ?_) (fun h21 qh21 => ?_)
   ·refine WC.skip ?_
    refine hK20 _ _ ?_
    refine WC.seq (fun K22 hK22 => ?_)
    refine WC.block ?_
    refine WC.sr ?_
    refine WL.val rfl rfl rfl (Run.idxN Tryz.runUnderlying23 Tryz.sizeOf3 rfl rfl rfl ?_ ?_ ?_) ?_
    · exact SlF.some_ (SlF.st0 f_l hs19)
    · omega
    · omega
    refine WL.val rfl rfl rfl (Run.load Tryz.isAgg3 rfl rfl (SlF.one1 (SlF.st0 f_l hs19) ?_ rfl)) ?_
    · omega
    refine WL.r 1 hs19 [] rfl ?_
    refine WL.nil ?_
    refine WC.sr ?_
    refine WL.r 3 hs19 [] rfl ?_
    refine WL.pO tbk 2 Acts.nil hs19 [] rfl rfl rfl rfl (fun g_ => trivial) ?_
    refine WL.nil ?_
    refine WC.cq rfl (fun h23 qh23 => ?_) (fun h23 qh23 => ?_)
    ·have hnk : ¬ (scrOk s.dat = true ∧ areArgs l = true) := by rintro ⟨z1, z2⟩; have z3 := (areArgs_iff.1 z2).2 _ (gat_mem (F := encI) (show i < l.length by omega)); have z4 : 0 ≤ iat l i ∧ iat l i ≤ 9999 := z3; have h9 := h23; simp at h9; omega
     refine WC.sr ?_
     refine WL.val rfl rfl rfl (Run.build rfl rfl rfl rfl (built_33)) ?_
     refine WL.st tbk hs19 0 rfl rfl (fun _ hs24 => ?_)
     refine WL.nil ?_
     refine WC.ret ?_
     refine ibR (tkR (tkR (ibR (tkR ?_))))
     clear hK22 hK18
     refine retV1 rfl (resV.cellA tbk hs24 0 rfl rfl rfl rfl) ?_
     obtain ⟨L30, hs29, ho31⟩ := ownScrR.fl ((((hs24.fr ([] : Hp)).fr ([] : Hp)).fr ([] : Hp)).fr ([] : Hp)) (OwnF.nil _ _) (OwnF.nil _ _) (OwnF.nil _ _) (OwnN.nil _ _ _)
     have hs32 := ((hs29.fb b2).fb b4)
     refine ⟨⟨0, 0, ⟨0, 0, ⟨none, 0, 0, []⟩⟩, ⟨0, 0, ⟨none, 0, 0, []⟩⟩, false, 0, 0, false, ⟨0, 0, false, false, false⟩, 0, 0, false, false, 0, 0, ⟨0, 0, false, false, false⟩, ⟨none, 0, 0, []⟩, 0, ⟨none, 0, 0, []⟩⟩, _, rfl, (St.keep1 (hs32.fr L30)), ?_, ?_⟩
     · exact (by exact ho31)
     · rw [csi_not hnk]; rfl
    ·have hin : 0 ≤ iat l i ∧ iat l i ≤ 9999 := by have h9 := h23; simp at h9; omega
     refine WC.skip ?_
     refine hK22 _ _ ?_
     refine WC.region ?_
     refine WL.r 2 hs19 [] rfl ?_
     refine WL.nil ?_
     refine tkN ?_
     refine ⟨sbF rfl, hs19, _, ?_, i + 1, rfl, ?_, ?_, ⟨rfl, trivial⟩⟩
     · omega
     · omega
     · intro j hj; rcases Nat.lt_or_ge j i with h_ | h_
       · exact p1 j h_
       · obtain rfl : j = i := by omega
         exact hin
   ·have hl : areArgs l = true := areArgs_iff.2 ⟨by omega, fun x hx => by obtain ⟨j, hj, rfl⟩ := List.mem_iff_getElem.1 hx; have z5 := p1 j (by omega); rwa [show iat l j = l[j] from gat_lt (F := encI) hj] at z5⟩
    refine WC.exit ?_
    refine hK18 _ _ ?_
    refine WC.sr ?_
    refine WL.r 1 hs19 [1] rfl ?_
    refine WL.cl Tryz.call64 rfl (c_spec_l09Copy s _ (okScrR.st0 f_s hs19) ?_) ?_
    · first | (first | assumption | rfl | omega) | (first | assumption | omega | (exact fine_smB hfc (by decide)))
    rintro _ whs33 ⟨r34, L1_35, rfl, hs33, ho36, hd37⟩
    replace hs33 := hs19.callF hs33
    refine ⟨_, rfl, ?_⟩
    replace hs33 := St.back [_, _] hs33
    have hcp := hd37
    have hfc : ScrFine (ScrR.dat _) := hcp.symm ▸ hf
    refine WL.al hs33 Tryz.zeroValue33 rfl rfl (fun b38 _ hs39 => ?_)
    refine WL.st tbk hs39 0 rfl rfl (fun _ hs40 => ?_)
    refine WL.nil ?_
    refine WC.seq (fun K41 hK41 => ?_)
    refine WC.r1 hs40 [] rfl ?_
    refine WC.cq rfl (fun h42 qh42 => ?_) (fun h42 qh42 => ?_)
    ·have hmk : mark = false := by have h9 := h42; simpa using h9
     refine WC.sr ?_
     refine WL.r 3 hs40 [0] rfl ?_
     refine WL.cl Tryz.call99 rfl (c_spec_l10Plain r34 _ _ _ _ _ _ _ ho36 (hs40.ow L1_35) (SlF.st0 f_l hs40) (St.nodupL (hs40.fr L1_35)) (St.sep (hs40.fr L1_35) f_l) ?_ ?_ ?_ ?_) ?_
     · first | (first | assumption | omega) | (first | assumption | omega | (exact fine_smB hfc (by decide)))
     · first | (first | assumption | omega) | (first | assumption | omega | (exact fine_smB hfc (by decide)))
     · first | (first | assumption | omega) | (first | assumption | omega | (exact fine_smB hfc (by decide)))
     · first | (first | assumption | omega) | (first | assumption | omega | (exact fine_smB hfc (by decide)))
     rintro _ whs43 ⟨r44, L1_45, rfl, hs43, ho46, hd47⟩
     replace hs43 := St.lend (hs40.fr L1_35) hs43
     refine ⟨_, rfl, ?_⟩
     replace hs43 := St.back [_, _, _] hs43
     refine WL.st tbk hs43 1 rfl rfl (fun _ hs48 => ?_)
     refine WL.nil ?_
     refine WC.ret ?_
     refine tkR ?_
     clear hK41
     refine retV1 rfl (resV.cellA tbk hs48 1 rfl rfl rfl rfl) ?_
     refine ⟨r44, _, rfl, (St.keep1 (hs48.fr L1_45)), ?_, ?_⟩
     · exact ho46
     · rw [csi_yes hk hl, hmk]; exact hd47.trans (by rw [hcp]; rfl)
    ·have hmk : mark = true := by have h9 := h42; simpa using h9
     refine WC.skip ?_
     refine hK41 _ _ ?_
     refine WC.seq (fun K49 hK49 => ?_)
     refine WC.r1 hs40 [] rfl ?_
     refine WC.block ?_
     have hM54 := (St.grp1 (L1 := L1_35) [_] ((((hs40.fb b2).fb b4).fr L1_35).fb b38))
     refine WC.lV [3, 8, 11, 21, 26, 40, 45, 46] rfl hM54 (fun k_ (a_ : Hp) f => ∃ (i : Nat) (r : ScrR) (L52 : Hp), k_ = n_l - i ∧ a_ = [(b38, .cells (List.toArray (cScr r)) 33 (0, 0))] ++ L52 ∧ (i ≤ n_l) ∧ (r.dat = modeTo s.dat l b i) ∧ ownScrR r L52 ∧ Sub [(47, .int .i64 i)] f) (((fun (i : Nat) => n_l - i) (0))) ?_ ?_
     ·refine ⟨0, r34, L1_35, rfl, rfl, ?_, ?_, ho36, ⟨rfl, trivial⟩⟩
      · exact Nat.zero_le _
      · rw [modeTo_zero]; exact hcp
     ·rintro _ _ f w ⟨i, r, L52, rfl, rfl, p0, p1, ho53, hG⟩ hF hs55
      refine WC.sub _ (hG.app hF) ?_
      clear hG hF
      replace hs55 := St.ungrp1 [_] hs55
      have hs56 := (((hs55.fb b2).fb b4).fb b38)
      have hfr : ScrFine r.dat := by rw [p1]; exact hf.modeT
      have hsmr : smScr 549755813888 r.dat := fine_smB hfr (by decide)
      refine WC.r1 hs56 [] rfl ?_
      refine WC.seq (fun K57 hK57 => ?_)
      refine WC.cq rfl (fun h58 qh58 => ?_) (fun h58 qh58 => ?_)
      ·refine WC.skip ?_
       refine hK57 _ _ ?_
       refine WC.seq (fun K59 hK59 => ?_)
       refine WC.block ?_
       refine WC.sr ?_
       refine WL.val rfl rfl rfl (Run.idxN Tryz.runUnderlying23 Tryz.sizeOf3 rfl rfl rfl ?_ ?_ ?_) ?_
       · exact SlF.some_ (SlF.st0 f_l hs56)
       · omega
       · omega
       refine WL.val rfl rfl rfl (Run.load Tryz.isAgg3 rfl rfl (SlF.one1 (SlF.st0 f_l hs56) ?_ rfl)) ?_
       · omega
       refine WL.r 1 hs56 [] rfl ?_
       refine WL.nil ?_
       refine WC.sr ?_
       refine WL.r 3 hs56 [] rfl ?_
       refine WL.pO tbk 2 Acts.nil hs56 [] rfl rfl rfl rfl (fun g_ => trivial) ?_
       refine WL.nil ?_
       refine WC.cq rfl (fun h60 qh60 => ?_) (fun h60 qh60 => ?_)
       ·have hbb : b = 104 ∨ b = 108 := by have h9 := h60; simp at h9; exact h9
        refine WC.region ?_
        refine WL.r 4 hs56 [0] rfl ?_
        refine WL.cl Tryz.call100 rfl (c_spec_l10Mode r _ _ _ _ ho53 (hs56.ow L52) (St.nodupL (hs56.fr L52)) ?_ ?_) ?_
        · first | (first | assumption | rfl | omega) | (first | assumption | omega | (exact fine_smB hfc (by decide)))
        · first | (first | assumption | rfl | omega) | (first | assumption | omega | (exact fine_smB hfc (by decide)))
        rintro _ whs61 ⟨r62, L1_63, rfl, hs61, ho64, hd65⟩
        replace hs61 := St.lend (hs56.fr L52) hs61
        refine ⟨_, rfl, ?_⟩
        replace hs61 := St.back [_, _, _] hs61
        refine WL.st tbk hs61 0 rfl rfl (fun _ hs66 => ?_)
        refine WL.nil ?_
        refine hK59 _ _ ?_
        refine WC.region ?_
        refine WL.r 2 hs66 [] rfl ?_
        refine WL.nil ?_
        refine tkN ?_
        have hF67 := (St.grp1 (L1 := L1_63) [_] ((((hs66.fb b2).fb b4).fr L1_63).fb b38))
        refine ⟨sbF rfl, _, hF67, _, ?_, i + 1, r62, L1_63, rfl, rfl, ?_, ?_, ho64, ⟨rfl, trivial⟩⟩
        · omega
        · omega
        · first | (rw [modeTo_next hbb (by omega), ← p1]; exact hd65) | (rw [modeTo_same hbb]; exact p1)
       ·have hbb : ¬ (b = 104 ∨ b = 108) := by have h9 := h60; simp at h9; omega
        refine WC.skip ?_
        refine hK59 _ _ ?_
        refine WC.region ?_
        refine WL.r 2 hs56 [] rfl ?_
        refine WL.nil ?_
        refine tkN ?_
        have hF68 := (St.grp1 (L1 := L52) [_] ((((hs56.fb b2).fb b4).fr L52).fb b38))
        refine ⟨sbF rfl, _, hF68, _, ?_, i + 1, r, L52, rfl, rfl, ?_, ?_, ho53, ⟨rfl, trivial⟩⟩
        · omega
        · omega
        · first | (rw [modeTo_next hbb (by omega), ← p1]; exact hd65) | (rw [modeTo_same hbb]; exact p1)
      ·refine WC.exit ?_
       refine hK49 _ _ ?_
       refine WC.sr ?_
       refine WL.r 1 hs56 [0] rfl ?_
       refine WL.st tbk hs56 1 rfl rfl (fun _ hs69 => ?_)
       refine WL.nil ?_
       refine WC.ret ?_
       refine retV1 rfl (resV.cellA tbk hs69 1 rfl rfl rfl rfl) ?_
       refine ⟨r, _, rfl, (St.keep1 (hs69.fr L52)), ?_, ?_⟩
       · exact ho53
       · rw [csi_yes hk hl, hmk, p1]; exact modeTo_all (by omega)
end Go.Proofs.YtjmegoiclgancaaGreat
namespace Go.Proofs.YtjmegoiclgancaaGreat
open Go Go.RowKit
set_option linter.unusedVariables false
set_option linter.unusedSimpArgs false
set_option maxHeartbeats 4000000 in
theorem c_laws_toScr (a : ScrR) (w : World) (f_a : okScrR 549755813888 w a) :
    Calls Tryz.prog 21 #[.agg (cScr a).toArray] w fun e w' => ∃ r L1, e = .returned (.agg (cScr r).toArray) ∧ St w [] L1 w' ∧ ownScrR r L1 ∧ r.dat = a.dat := by
 have nb_a_Main_Cells := f_a.Main.Cells_n
 have nl_a_Main_Cells := f_a.Main.Cells.len
 have nb_a_Alt_Cells := f_a.Alt.Cells_n
 have nl_a_Alt_Cells := f_a.Alt.Cells.len
 have nb_a_Tabs := f_a.Tabs_n
 have nl_a_Tabs := f_a.Tabs.len
 have nb_a_Back := f_a.Back_n
 have nl_a_Back := f_a.Back.sl.len
 refine enter 68 Tryz.func21 rfl Tryz.ntmps21 rfl rfl ?_
 have hs1 := St.init w
 refine WC.sr ?_
 refine WL.bx hs1 rfl (fun b2 _ hs3 => ?_)
 refine WL.al hs3 Tryz.zeroValue33 rfl rfl (fun b4 _ hs5 => ?_)
 refine WL.nil ?_
 refine WC.sr ?_
 refine WL.al hs5 Tryz.zeroValue33 rfl rfl (fun b6 _ hs7 => ?_)
 refine WL.nil ?_
 refine WC.sr ?_
 refine WL.r 3 hs7 [2] rfl ?_
 refine WL.st tbk hs7 0 rfl rfl (fun _ hs8 => ?_)
 refine WL.nil ?_
 refine WC.sr ?_
 refine WL.r 3 hs8 [2] rfl ?_
 refine WL.st tbk hs8 0 rfl rfl (fun _ hs9 => ?_)
 refine WL.nil ?_
 refine WC.sr ?_
 refine WL.r 2 hs9 [2] rfl ?_
 refine WL.cl Tryz.call71 rfl (c_laws_toGrid a.Main _ (okGridR.st0 f_a.Main hs9)) ?_
 rintro _ whs10 ⟨r11, L1_12, rfl, hs10, ho13, hd14⟩
 replace hs10 := hs9.callF hs10
 refine ⟨_, rfl, ?_⟩
 replace hs10 := St.back [_, _, _] hs10
 refine WL.r 1 hs10 [] rfl ?_
 refine WL.st tbk hs10 0 rfl rfl (fun _ hs15 => ?_)
 refine WL.nil ?_
 refine WC.sr ?_
 refine WL.r 2 hs15 [2] rfl ?_
 refine WL.cl Tryz.call71 rfl (c_laws_toGrid a.Alt _ (okGridR.st0 f_a.Alt hs15)) ?_
 rintro _ whs16 ⟨r17, L1_18, rfl, hs16, ho19, hd20⟩
 replace hs16 := hs15.callF hs16
 refine ⟨_, rfl, ?_⟩
 replace hs16 := St.back [_, _, _] hs16
 refine WL.r 1 hs16 [] rfl ?_
 refine WL.st tbk hs16 0 rfl rfl (fun _ hs21 => ?_)
 refine WL.nil ?_
 refine WC.sr ?_
 refine WL.r 3 hs21 [2] rfl ?_
 refine WL.st tbk hs21 0 rfl rfl (fun _ hs22 => ?_)
 refine WL.nil ?_
 refine WC.sr ?_
 refine WL.r 3 hs22 [2] rfl ?_
 refine WL.st tbk hs22 0 rfl rfl (fun _ hs23 => ?_)
 refine WL.nil ?_
 refine WC.sr ?_
 refine WL.r 3 hs23 [2] rfl ?_
 refine WL.st tbk hs23 0 rfl rfl (fun _ hs24 => ?_)
 refine WL.nil ?_
 refine WC.sr ?_
 refine WL.r 3 hs24 [2] rfl ?_
 refine WL.st tbk hs24 0 rfl rfl (fun _ hs25 => ?_)
 refine WL.nil ?_
 refine WC.sr ?_
 refine WL.r 2 hs25 [2] rfl ?_
 refine WL.cl Tryz.call72 rfl (c_laws_toAttr _ _ _ _ _ _) ?_
 rintro _ whs26 ⟨rfl, hs26⟩
 replace hs26 := hs25.call0 hs26
 refine ⟨_, rfl, ?_⟩
 refine WL.r 1 hs26 [] rfl ?_
 refine WL.st tbk hs26 0 rfl rfl (fun _ hs27 => ?_)
 refine WL.nil ?_
 refine WC.sr ?_
 refine WL.r 3 hs27 [2] rfl ?_
 refine WL.st tbk hs27 0 rfl rfl (fun _ hs28 => ?_)
 refine WL.nil ?_
 refine WC.sr ?_
 refine WL.r 3 hs28 [2] rfl ?_
 refine WL.st tbk hs28 0 rfl rfl (fun _ hs29 => ?_)
 refine WL.nil ?_
 refine WC.sr ?_
 refine WL.r 3 hs29 [2] rfl ?_
 refine WL.st tbk hs29 0 rfl rfl (fun _ hs30 => ?_)
 refine WL.nil ?_
 refine WC.sr ?_
 refine WL.r 3 hs30 [2] rfl ?_
 refine WL.st tbk hs30 0 rfl rfl (fun _ hs31 => ?_)
 refine WL.nil ?_
 refine WC.sr ?_
 refine WL.r 3 hs31 [2] rfl ?_
 refine WL.st tbk hs31 0 rfl rfl (fun _ hs32 => ?_)
 refine WL.nil ?_
 refine WC.sr ?_
 refine WL.r 3 hs32 [2] rfl ?_
 refine WL.st tbk hs32 0 rfl rfl (fun _ hs33 => ?_)
 refine WL.nil ?_
 refine WC.sr ?_
 refine WL.r 2 hs33 [2] rfl ?_
 refine WL.cl Tryz.call72 rfl (c_laws_toAttr _ _ _ _ _ _) ?_
 rintro _ whs34 ⟨rfl, hs34⟩
 replace hs34 := hs33.call0 hs34
 refine ⟨_, rfl, ?_⟩
 refine WL.r 1 hs34 [] rfl ?_
 refine WL.st tbk hs34 0 rfl rfl (fun _ hs35 => ?_)
 refine WL.nil ?_
 refine WC.sr ?_
 refine WL.r 2 hs35 [2] rfl ?_
 refine WL.cl Tryz.call31 rfl (c_laws_toIntS _ _ _ _ _ (SlF.st0 f_a.Tabs hs35) ?_) ?_
 · first | assumption | rfl | omega
 rintro _ whs36 ⟨A37, c38, L1_39, rfl, hs36, ho40⟩
 replace hs36 := hs35.callF hs36
 refine ⟨_, rfl, ?_⟩
 replace hs36 := St.back [_, _, _] hs36
 refine WL.r 1 hs36 [] rfl ?_
 refine WL.st tbk hs36 0 rfl rfl (fun _ hs41 => ?_)
 refine WL.nil ?_
 refine WC.sr ?_
 refine WL.r 3 hs41 [2] rfl ?_
 refine WL.st tbk hs41 0 rfl rfl (fun _ hs42 => ?_)
 refine WL.nil ?_
 refine WC.sr ?_
 refine WL.r 2 hs42 [2] rfl ?_
 refine WL.cl Tryz.call73 rfl (c_laws_toRowS _ _ _ _ _ (SlN.st0 okRowR.st0 f_a.Back hs42) ?_) ?_
 · first | assumption | rfl | omega
 rintro _ whs43 ⟨A44, c45, xs46, L1_47, rfl, hs43, ho48, hd49⟩
 replace hs43 := hs42.callF hs43
 refine ⟨_, rfl, ?_⟩
 replace hs43 := St.back [_, _, _] hs43
 refine WL.r 1 hs43 [] rfl ?_
 refine WL.st tbk hs43 0 rfl rfl (fun _ hs50 => ?_)
 refine WL.nil ?_
 refine WC.sr ?_
 refine WL.r 1 hs50 [0] rfl ?_
 refine WL.st tbk hs50 1 rfl rfl (fun _ hs51 => ?_)
 refine WL.nil ?_
 refine WC.ret ?_
 refine retV1 rfl (resV.cellA tbk hs51 1 rfl rfl rfl rfl) ?_
 obtain ⟨L53, hs52, ho54⟩ := ownScrR.fl ((((hs51.fr L1_47).fr L1_39).fr L1_18).fr L1_12) ho13 ho19 ho40 ho48
 have hs55 := (((hs52.fb b2).fb b4).fb b6)
 refine ⟨⟨a.W, a.H, ⟨r11.W, r11.H, SlD.of ho13⟩, ⟨r17.W, r17.H, SlD.of ho19⟩, a.OnAlt, a.X, a.Y, a.Wrap, ⟨_, _, _, _, _⟩, a.Top, a.Bot, a.NoWrap, a.Hide, a.SaveX, a.SaveY, ⟨_, _, _, _, _⟩, SlD.of ho40, a.Limit, SlD.ofN ho48⟩, _, rfl, (St.keep1 (hs55.fr L53)), ?_, ?_⟩
 · exact (by exact ho54)
 · exact ScrD.ext' rfl rfl hd14 hd20 rfl rfl rfl rfl rfl rfl rfl rfl rfl rfl rfl rfl rfl rfl hd49
set_option maxHeartbeats 4000000 in
theorem c_laws_eqScr (a : ScrR) (b : ScrR) (w : World) (f_a : okScrR 549755813888 w a) (f_b : okScrR 549755813888 w b) (hab : a.dat = b.dat) :
    Calls Tryz.prog 23 #[.agg (cScr a).toArray, .agg (cScr b).toArray] w fun e w' => e = .returned (.bool true) ∧ St w [] [] w' := by
 have nb_a_Main_Cells := f_a.Main.Cells_n
 have nl_a_Main_Cells := f_a.Main.Cells.len
 have nb_a_Alt_Cells := f_a.Alt.Cells_n
 have nl_a_Alt_Cells := f_a.Alt.Cells.len
 have nb_a_Tabs := f_a.Tabs_n
 have nl_a_Tabs := f_a.Tabs.len
 have nb_a_Back := f_a.Back_n
 have nl_a_Back := f_a.Back.sl.len
 have nb_b_Main_Cells := f_b.Main.Cells_n
 have nl_b_Main_Cells := f_b.Main.Cells.len
 have nb_b_Alt_Cells := f_b.Alt.Cells_n
 have nl_b_Alt_Cells := f_b.Alt.Cells.len
 have nb_b_Tabs := f_b.Tabs_n
 have nl_b_Tabs := f_b.Tabs.len
 have nb_b_Back := f_b.Back_n
 have nl_b_Back := f_b.Back.sl.len
 have e_W : a.W = b.W := congrArg (fun d : ScrD => d.W) hab
 have e_H : a.H = b.H := congrArg (fun d : ScrD => d.H) hab
 have e_Main : a.Main.dat = b.Main.dat := congrArg (fun d : ScrD => d.Main) hab
 have e_Main_W : a.Main.W = b.Main.W := congrArg (fun d : ScrD => d.Main.W) hab
 have e_Main_H : a.Main.H = b.Main.H := congrArg (fun d : ScrD => d.Main.H) hab
 have e_Main_Cells : a.Main.Cells.xs = b.Main.Cells.xs := congrArg (fun d : ScrD => d.Main.Cells) hab
 have e_Alt : a.Alt.dat = b.Alt.dat := congrArg (fun d : ScrD => d.Alt) hab
 have e_Alt_W : a.Alt.W = b.Alt.W := congrArg (fun d : ScrD => d.Alt.W) hab
 have e_Alt_H : a.Alt.H = b.Alt.H := congrArg (fun d : ScrD => d.Alt.H) hab
 have e_Alt_Cells : a.Alt.Cells.xs = b.Alt.Cells.xs := congrArg (fun d : ScrD => d.Alt.Cells) hab
 have e_OnAlt : a.OnAlt = b.OnAlt := congrArg (fun d : ScrD => d.OnAlt) hab
 have e_X : a.X = b.X := congrArg (fun d : ScrD => d.X) hab
 have e_Y : a.Y = b.Y := congrArg (fun d : ScrD => d.Y) hab
 have e_Wrap : a.Wrap = b.Wrap := congrArg (fun d : ScrD => d.Wrap) hab
 have e_A : a.A = b.A := congrArg (fun d : ScrD => d.A) hab
 have e_A_Fg : a.A.Fg = b.A.Fg := congrArg (fun d : ScrD => d.A.Fg) hab
 have e_A_Bg : a.A.Bg = b.A.Bg := congrArg (fun d : ScrD => d.A.Bg) hab
 have e_A_Bold : a.A.Bold = b.A.Bold := congrArg (fun d : ScrD => d.A.Bold) hab
 have e_A_Under : a.A.Under = b.A.Under := congrArg (fun d : ScrD => d.A.Under) hab
 have e_A_Turn : a.A.Turn = b.A.Turn := congrArg (fun d : ScrD => d.A.Turn) hab
 have e_Top : a.Top = b.Top := congrArg (fun d : ScrD => d.Top) hab
 have e_Bot : a.Bot = b.Bot := congrArg (fun d : ScrD => d.Bot) hab
 have e_NoWrap : a.NoWrap = b.NoWrap := congrArg (fun d : ScrD => d.NoWrap) hab
 have e_Hide : a.Hide = b.Hide := congrArg (fun d : ScrD => d.Hide) hab
 have e_SaveX : a.SaveX = b.SaveX := congrArg (fun d : ScrD => d.SaveX) hab
 have e_SaveY : a.SaveY = b.SaveY := congrArg (fun d : ScrD => d.SaveY) hab
 have e_SaveA : a.SaveA = b.SaveA := congrArg (fun d : ScrD => d.SaveA) hab
 have e_SaveA_Fg : a.SaveA.Fg = b.SaveA.Fg := congrArg (fun d : ScrD => d.SaveA.Fg) hab
 have e_SaveA_Bg : a.SaveA.Bg = b.SaveA.Bg := congrArg (fun d : ScrD => d.SaveA.Bg) hab
 have e_SaveA_Bold : a.SaveA.Bold = b.SaveA.Bold := congrArg (fun d : ScrD => d.SaveA.Bold) hab
 have e_SaveA_Under : a.SaveA.Under = b.SaveA.Under := congrArg (fun d : ScrD => d.SaveA.Under) hab
 have e_SaveA_Turn : a.SaveA.Turn = b.SaveA.Turn := congrArg (fun d : ScrD => d.SaveA.Turn) hab
 have e_Tabs : a.Tabs.xs = b.Tabs.xs := congrArg (fun d : ScrD => d.Tabs) hab
 have e_Limit : a.Limit = b.Limit := congrArg (fun d : ScrD => d.Limit) hab
 have e_Back : a.Back.xs.map RowR.dat = b.Back.xs.map RowR.dat := congrArg (fun d : ScrD => d.Back) hab
 refine enter 106 Tryz.func23 rfl Tryz.ntmps23 rfl rfl ?_
 have hs1 := St.init w
 refine WC.sr ?_
 refine WL.bx hs1 rfl (fun b2 _ hs3 => ?_)
 refine WL.bx hs3 rfl (fun b4 _ hs5 => ?_)
 refine WL.r 1 hs5 [] rfl ?_
 refine WL.nil ?_
 refine WC.seq (fun K6 hK6 => ?_)
 refine WC.r1 hs5 [1, 0] rfl ?_
 refine WC.condF rfl (by simp [e_W, e_H, e_Main_W, e_Main_H, e_Alt_W, e_Alt_H, e_OnAlt, e_X, e_Y, e_Wrap, e_A_Fg, e_A_Bg, e_A_Bold, e_A_Under, e_A_Turn, e_Top, e_Bot, e_NoWrap, e_Hide, e_SaveX, e_SaveY, e_SaveA_Fg, e_SaveA_Bg, e_SaveA_Bold, e_SaveA_Under, e_SaveA_Turn, e_Limit]) ?_
 refine WC.skip ?_
 refine hK6 _ _ ?_
 refine WC.seq (fun K8 hK8 => ?_)
 refine WC.r1 hs5 [1, 0] rfl ?_
 refine WC.condF rfl (by simp [e_W, e_H, e_Main_W, e_Main_H, e_Alt_W, e_Alt_H, e_OnAlt, e_X, e_Y, e_Wrap, e_A_Fg, e_A_Bg, e_A_Bold, e_A_Under, e_A_Turn, e_Top, e_Bot, e_NoWrap, e_Hide, e_SaveX, e_SaveY, e_SaveA_Fg, e_SaveA_Bg, e_SaveA_Bold, e_SaveA_Under, e_SaveA_Turn, e_Limit]) ?_
 refine WC.skip ?_
 refine hK8 _ _ ?_
 refine WC.seq (fun K10 hK10 => ?_)
 refine WC.sr ?_
 refine WL.r 4 hs5 [1, 0] rfl ?_
 refine WL.cl Tryz.call77 rfl (c_laws_eqGrid a.Main b.Main _ (okGridR.st0 f_a.Main hs5) (okGridR.st0 f_b.Main hs5) ?_) ?_
 · first | assumption | rfl | omega
 rintro _ whs11 ⟨rfl, hs11⟩
 replace hs11 := hs5.call0 hs11
 refine ⟨_, rfl, ?_⟩
 refine WL.r 1 hs11 [] rfl ?_
 refine WL.nil ?_
 refine WC.condF rfl (by simp [e_W, e_H, e_Main_W, e_Main_H, e_Alt_W, e_Alt_H, e_OnAlt, e_X, e_Y, e_Wrap, e_A_Fg, e_A_Bg, e_A_Bold, e_A_Under, e_A_Turn, e_Top, e_Bot, e_NoWrap, e_Hide, e_SaveX, e_SaveY, e_SaveA_Fg, e_SaveA_Bg, e_SaveA_Bold, e_SaveA_Under, e_SaveA_Turn, e_Limit]) ?_
 refine WC.skip ?_
 refine hK10 _ _ ?_
 refine WC.seq (fun K13 hK13 => ?_)
 refine WC.sr ?_
 refine WL.r 4 hs11 [1, 0] rfl ?_
 refine WL.cl Tryz.call77 rfl (c_laws_eqGrid a.Alt b.Alt _ (okGridR.st0 f_a.Alt hs11) (okGridR.st0 f_b.Alt hs11) ?_) ?_
 · first | assumption | rfl | omega
 rintro _ whs14 ⟨rfl, hs14⟩
 replace hs14 := hs11.call0 hs14
 refine ⟨_, rfl, ?_⟩
 refine WL.r 1 hs14 [] rfl ?_
 refine WL.nil ?_
 refine WC.condF rfl (by simp [e_W, e_H, e_Main_W, e_Main_H, e_Alt_W, e_Alt_H, e_OnAlt, e_X, e_Y, e_Wrap, e_A_Fg, e_A_Bg, e_A_Bold, e_A_Under, e_A_Turn, e_Top, e_Bot, e_NoWrap, e_Hide, e_SaveX, e_SaveY, e_SaveA_Fg, e_SaveA_Bg, e_SaveA_Bold, e_SaveA_Under, e_SaveA_Turn, e_Limit]) ?_
 refine WC.skip ?_
 refine hK13 _ _ ?_
 refine WC.seq (fun K16 hK16 => ?_)
 refine WC.r1 hs14 [1, 0] rfl ?_
 refine WC.condF rfl (by simp [e_W, e_H, e_Main_W, e_Main_H, e_Alt_W, e_Alt_H, e_OnAlt, e_X, e_Y, e_Wrap, e_A_Fg, e_A_Bg, e_A_Bold, e_A_Under, e_A_Turn, e_Top, e_Bot, e_NoWrap, e_Hide, e_SaveX, e_SaveY, e_SaveA_Fg, e_SaveA_Bg, e_SaveA_Bold, e_SaveA_Under, e_SaveA_Turn, e_Limit]) ?_
 refine WC.skip ?_
 refine hK16 _ _ ?_
 refine WC.seq (fun K18 hK18 => ?_)
 refine WC.r1 hs14 [1, 0] rfl ?_
 refine WC.condF rfl (by simp [e_W, e_H, e_Main_W, e_Main_H, e_Alt_W, e_Alt_H, e_OnAlt, e_X, e_Y, e_Wrap, e_A_Fg, e_A_Bg, e_A_Bold, e_A_Under, e_A_Turn, e_Top, e_Bot, e_NoWrap, e_Hide, e_SaveX, e_SaveY, e_SaveA_Fg, e_SaveA_Bg, e_SaveA_Bold, e_SaveA_Under, e_SaveA_Turn, e_Limit]) ?_
 refine WC.skip ?_
 refine hK18 _ _ ?_
 refine WC.seq (fun K20 hK20 => ?_)
 refine WC.r1 hs14 [1, 0] rfl ?_
 refine WC.condF rfl (by simp [e_W, e_H, e_Main_W, e_Main_H, e_Alt_W, e_Alt_H, e_OnAlt, e_X, e_Y, e_Wrap, e_A_Fg, e_A_Bg, e_A_Bold, e_A_Under, e_A_Turn, e_Top, e_Bot, e_NoWrap, e_Hide, e_SaveX, e_SaveY, e_SaveA_Fg, e_SaveA_Bg, e_SaveA_Bold, e_SaveA_Under, e_SaveA_Turn, e_Limit]) ?_
 refine WC.skip ?_
 refine hK20 _ _ ?_
 refine WC.seq (fun K22 hK22 => ?_)
 refine WC.r1 hs14 [1, 0] rfl ?_
 refine WC.condF rfl (by simp [e_W, e_H, e_Main_W, e_Main_H, e_Alt_W, e_Alt_H, e_OnAlt, e_X, e_Y, e_Wrap, e_A_Fg, e_A_Bg, e_A_Bold, e_A_Under, e_A_Turn, e_Top, e_Bot, e_NoWrap, e_Hide, e_SaveX, e_SaveY, e_SaveA_Fg, e_SaveA_Bg, e_SaveA_Bold, e_SaveA_Under, e_SaveA_Turn, e_Limit]) ?_
 refine WC.skip ?_
 refine hK22 _ _ ?_
 refine WC.seq (fun K24 hK24 => ?_)
 refine WC.sr ?_
 refine WL.r 4 hs14 [1, 0] rfl ?_
 refine WL.cl Tryz.call78 rfl (c_laws_eqAttr _ _ _ _ _ _ _ _ _ _ _ ?_) ?_
 · first | assumption | rfl | omega
 rintro _ whs25 ⟨rfl, hs25⟩
 replace hs25 := hs14.call0 hs25
 refine ⟨_, rfl, ?_⟩
 refine WL.r 1 hs25 [] rfl ?_
 refine WL.nil ?_
 refine WC.condF rfl (by simp [e_W, e_H, e_Main_W, e_Main_H, e_Alt_W, e_Alt_H, e_OnAlt, e_X, e_Y, e_Wrap, e_A_Fg, e_A_Bg, e_A_Bold, e_A_Under, e_A_Turn, e_Top, e_Bot, e_NoWrap, e_Hide, e_SaveX, e_SaveY, e_SaveA_Fg, e_SaveA_Bg, e_SaveA_Bold, e_SaveA_Under, e_SaveA_Turn, e_Limit]) ?_
 refine WC.skip ?_
 refine hK24 _ _ ?_
 refine WC.seq (fun K27 hK27 => ?_)
 refine WC.r1 hs25 [1, 0] rfl ?_
 refine WC.condF rfl (by simp [e_W, e_H, e_Main_W, e_Main_H, e_Alt_W, e_Alt_H, e_OnAlt, e_X, e_Y, e_Wrap, e_A_Fg, e_A_Bg, e_A_Bold, e_A_Under, e_A_Turn, e_Top, e_Bot, e_NoWrap, e_Hide, e_SaveX, e_SaveY, e_SaveA_Fg, e_SaveA_Bg, e_SaveA_Bold, e_SaveA_Under, e_SaveA_Turn, e_Limit]) ?_
 refine WC.skip ?_
 refine hK27 _ _ ?_
 refine WC.seq (fun K29 hK29 => ?_)
 refine WC.r1 hs25 [1, 0] rfl ?_
 refine WC.condF rfl (by simp [e_W, e_H, e_Main_W, e_Main_H, e_Alt_W, e_Alt_H, e_OnAlt, e_X, e_Y, e_Wrap, e_A_Fg, e_A_Bg, e_A_Bold, e_A_Under, e_A_Turn, e_Top, e_Bot, e_NoWrap, e_Hide, e_SaveX, e_SaveY, e_SaveA_Fg, e_SaveA_Bg, e_SaveA_Bold, e_SaveA_Under, e_SaveA_Turn, e_Limit]) ?_
 refine WC.skip ?_
 refine hK29 _ _ ?_
 refine WC.seq (fun K31 hK31 => ?_)
 refine WC.r1 hs25 [1, 0] rfl ?_
 refine WC.condF rfl (by simp [e_W, e_H, e_Main_W, e_Main_H, e_Alt_W, e_Alt_H, e_OnAlt, e_X, e_Y, e_Wrap, e_A_Fg, e_A_Bg, e_A_Bold, e_A_Under, e_A_Turn, e_Top, e_Bot, e_NoWrap, e_Hide, e_SaveX, e_SaveY, e_SaveA_Fg, e_SaveA_Bg, e_SaveA_Bold, e_SaveA_Under, e_SaveA_Turn, e_Limit]) ?_
 refine WC.skip ?_
 refine hK31 _ _ ?_
 refine WC.seq (fun K33 hK33 => ?_)
 refine WC.r1 hs25 [1, 0] rfl ?_
 refine WC.condF rfl (by simp [e_W, e_H, e_Main_W, e_Main_H, e_Alt_W, e_Alt_H, e_OnAlt, e_X, e_Y, e_Wrap, e_A_Fg, e_A_Bg, e_A_Bold, e_A_Under, e_A_Turn, e_Top, e_Bot, e_NoWrap, e_Hide, e_SaveX, e_SaveY, e_SaveA_Fg, e_SaveA_Bg, e_SaveA_Bold, e_SaveA_Under, e_SaveA_Turn, e_Limit]) ?_
 refine WC.skip ?_
 refine hK33 _ _ ?_
 refine WC.seq (fun K35 hK35 => ?_)
 refine WC.r1 hs25 [1, 0] rfl ?_
 refine WC.condF rfl (by simp [e_W, e_H, e_Main_W, e_Main_H, e_Alt_W, e_Alt_H, e_OnAlt, e_X, e_Y, e_Wrap, e_A_Fg, e_A_Bg, e_A_Bold, e_A_Under, e_A_Turn, e_Top, e_Bot, e_NoWrap, e_Hide, e_SaveX, e_SaveY, e_SaveA_Fg, e_SaveA_Bg, e_SaveA_Bold, e_SaveA_Under, e_SaveA_Turn, e_Limit]) ?_
 refine WC.skip ?_
 refine hK35 _ _ ?_
 refine WC.seq (fun K37 hK37 => ?_)
 refine WC.r1 hs25 [1, 0] rfl ?_
 refine WC.condF rfl (by simp [e_W, e_H, e_Main_W, e_Main_H, e_Alt_W, e_Alt_H, e_OnAlt, e_X, e_Y, e_Wrap, e_A_Fg, e_A_Bg, e_A_Bold, e_A_Under, e_A_Turn, e_Top, e_Bot, e_NoWrap, e_Hide, e_SaveX, e_SaveY, e_SaveA_Fg, e_SaveA_Bg, e_SaveA_Bold, e_SaveA_Under, e_SaveA_Turn, e_Limit]) ?_
 refine WC.skip ?_
 refine hK37 _ _ ?_
 refine WC.seq (fun K39 hK39 => ?_)
 refine WC.sr ?_
 refine WL.r 4 hs25 [1, 0] rfl ?_
 refine WL.cl Tryz.call78 rfl (c_laws_eqAttr _ _ _ _ _ _ _ _ _ _ _ ?_) ?_
 · first | assumption | rfl | omega
 rintro _ whs40 ⟨rfl, hs40⟩
 replace hs40 := hs25.call0 hs40
 refine ⟨_, rfl, ?_⟩
 refine WL.r 1 hs40 [] rfl ?_
 refine WL.nil ?_
 refine WC.condF rfl (by simp [e_W, e_H, e_Main_W, e_Main_H, e_Alt_W, e_Alt_H, e_OnAlt, e_X, e_Y, e_Wrap, e_A_Fg, e_A_Bg, e_A_Bold, e_A_Under, e_A_Turn, e_Top, e_Bot, e_NoWrap, e_Hide, e_SaveX, e_SaveY, e_SaveA_Fg, e_SaveA_Bg, e_SaveA_Bold, e_SaveA_Under, e_SaveA_Turn, e_Limit]) ?_
 refine WC.skip ?_
 refine hK39 _ _ ?_
 refine WC.seq (fun K42 hK42 => ?_)
 refine WC.sr ?_
 refine WL.r 4 hs40 [1, 0] rfl ?_
 refine WL.cl Tryz.call33 rfl (c_laws_eqIntS _ _ _ _ _ _ _ _ _ (SlF.st0 f_a.Tabs hs40) (SlF.st0 f_b.Tabs hs40) ?_ ?_) ?_
 · first | assumption | rfl | omega
 · first | assumption | rfl | omega
 rintro _ whs43 ⟨rfl, hs43⟩
 replace hs43 := hs40.call0 hs43
 refine ⟨_, rfl, ?_⟩
 refine WL.r 1 hs43 [] rfl ?_
 refine WL.nil ?_
 refine WC.condF rfl (by simp [e_W, e_H, e_Main_W, e_Main_H, e_Alt_W, e_Alt_H, e_OnAlt, e_X, e_Y, e_Wrap, e_A_Fg, e_A_Bg, e_A_Bold, e_A_Under, e_A_Turn, e_Top, e_Bot, e_NoWrap, e_Hide, e_SaveX, e_SaveY, e_SaveA_Fg, e_SaveA_Bg, e_SaveA_Bold, e_SaveA_Under, e_SaveA_Turn, e_Limit]) ?_
 refine WC.skip ?_
 refine hK42 _ _ ?_
 refine WC.seq (fun K45 hK45 => ?_)
 refine WC.r1 hs43 [1, 0] rfl ?_
 refine WC.condF rfl (by simp [e_W, e_H, e_Main_W, e_Main_H, e_Alt_W, e_Alt_H, e_OnAlt, e_X, e_Y, e_Wrap, e_A_Fg, e_A_Bg, e_A_Bold, e_A_Under, e_A_Turn, e_Top, e_Bot, e_NoWrap, e_Hide, e_SaveX, e_SaveY, e_SaveA_Fg, e_SaveA_Bg, e_SaveA_Bold, e_SaveA_Under, e_SaveA_Turn, e_Limit]) ?_
 refine WC.skip ?_
 refine hK45 _ _ ?_
 refine WC.seq (fun K47 hK47 => ?_)
 refine WC.sr ?_
 refine WL.r 4 hs43 [1, 0] rfl ?_
 refine WL.cl Tryz.call79 rfl (c_laws_eqRowS _ _ _ _ _ _ _ _ _ (SlN.st0 okRowR.st0 f_a.Back hs43) (SlN.st0 okRowR.st0 f_b.Back hs43) ?_ ?_) ?_
 · first | assumption | rfl | omega
 · first | assumption | rfl | omega
 rintro _ whs48 ⟨rfl, hs48⟩
 replace hs48 := hs43.call0 hs48
 refine ⟨_, rfl, ?_⟩
 refine WL.r 1 hs48 [] rfl ?_
 refine WL.nil ?_
 refine WC.condF rfl (by simp [e_W, e_H, e_Main_W, e_Main_H, e_Alt_W, e_Alt_H, e_OnAlt, e_X, e_Y, e_Wrap, e_A_Fg, e_A_Bg, e_A_Bold, e_A_Under, e_A_Turn, e_Top, e_Bot, e_NoWrap, e_Hide, e_SaveX, e_SaveY, e_SaveA_Fg, e_SaveA_Bg, e_SaveA_Bold, e_SaveA_Under, e_SaveA_Turn, e_Limit]) ?_
 refine WC.skip ?_
 refine hK47 _ _ ?_
 refine WC.r1 hs48 [] rfl ?_
 refine WC.ret ?_
 refine retV1 rfl (resV.tmp rfl) ?_
 refine ⟨congrArg Ending.returned ?_, hs48.nil⟩
 rfl
set_option maxHeartbeats 4000000 in
theorem c_laws_szScr (a : ScrR) (left : Int) (w : World) (f_a : okScrR 9223372036854775807 w a) (h1 : 0 ≤ left) (h2 : left ≤ 1048576) :
    Calls Tryz.prog 19 #[.agg (cScr a).toArray, i64 left] w fun e w' => e = .returned (.int .i64 (szR left (totScr a.dat))) ∧ St w [] [] w' := by
 have nb_a_Main_Cells := f_a.Main.Cells_n
 have nl_a_Main_Cells := f_a.Main.Cells.len
 have nb_a_Alt_Cells := f_a.Alt.Cells_n
 have nl_a_Alt_Cells := f_a.Alt.Cells.len
 have nb_a_Tabs := f_a.Tabs_n
 have nl_a_Tabs := f_a.Tabs.len
 have nb_a_Back := f_a.Back_n
 have nl_a_Back := f_a.Back.sl.len
 refine enter 30 Tryz.func19 rfl Tryz.ntmps19 rfl rfl ?_
 have hs1 := St.init w
 refine WC.sr ?_
 refine WL.bx hs1 rfl (fun b2 _ hs3 => ?_)
 refine WL.r 1 hs3 [] rfl ?_
 refine WL.nil ?_
 refine WC.sr ?_
 refine WL.r 3 hs3 [0] rfl ?_
 refine WL.cl Tryz.call60 rfl (c_laws_szGrid a.Main _ _ (okGridR.st0 f_a.Main hs3) ?_ ?_) ?_
 · first | assumption | omega
 · first | assumption | omega | exact szR_b (by assumption) (by omega) (by first | assumption | omega)
 rintro _ whs4 ⟨rfl, hs4⟩
 replace hs4 := hs3.call0 hs4
 refine ⟨_, rfl, ?_⟩
 refine WL.r 1 hs4 [] rfl ?_
 refine WL.nil ?_
 refine WC.seq (fun K5 hK5 => ?_)
 refine WC.r1 hs4 [] rfl ?_
 refine WC.cD rfl (fun qh6 => ?_) (fun qh6 => ?_)
 ·try have soh6 := szR_ok qh6 (by omega)
  try have sbh6 := szR_b qh6 (by omega) (by first | assumption | omega)
  try have snh6 := szR_no qh6
  refine WC.r1 hs4 [] rfl ?_
  refine WC.ret ?_
  refine tkR ?_
  clear hK5
  refine retV1 rfl (resV.tmp rfl) ?_
  refine ⟨congrArg Ending.returned ?_, hs4.nil⟩
  simp only [totGrid, totScr, GridR.dat, ScrR.dat] at *; first | (rw [szR_lt (by omega)]; done) | (refine congrArg (Value.int _) ?_; symm; refine (szR_le ?_).trans ?_ <;> omega) | rfl
 ·try have soh6 := szR_ok qh6 (by omega)
  try have sbh6 := szR_b qh6 (by omega) (by first | assumption | omega)
  try have snh6 := szR_no qh6
  refine WC.skip ?_
  refine hK5 _ _ ?_
  refine WC.sr ?_
  refine WL.r 3 hs4 [0] rfl ?_
  refine WL.cl Tryz.call60 rfl (c_laws_szGrid a.Alt _ _ (okGridR.st0 f_a.Alt hs4) ?_ ?_) ?_
  · first | assumption | omega
  · first | assumption | omega | exact szR_b (by assumption) (by omega) (by first | assumption | omega)
  rintro _ whs7 ⟨rfl, hs7⟩
  replace hs7 := hs4.call0 hs7
  refine ⟨_, rfl, ?_⟩
  refine WL.r 1 hs7 [] rfl ?_
  refine WL.nil ?_
  refine WC.seq (fun K8 hK8 => ?_)
  refine WC.r1 hs7 [] rfl ?_
  refine WC.cD rfl (fun qh9 => ?_) (fun qh9 => ?_)
  ·try have soh9 := szR_ok qh9 (by omega)
   try have sbh9 := szR_b qh9 (by omega) (by first | assumption | omega)
   try have snh9 := szR_no qh9
   refine WC.r1 hs7 [] rfl ?_
   refine WC.ret ?_
   refine tkR ?_
   clear hK8
   refine retV1 rfl (resV.tmp rfl) ?_
   refine ⟨congrArg Ending.returned ?_, hs7.nil⟩
   simp only [totGrid, totScr, GridR.dat, ScrR.dat] at *; first | (rw [szR_lt (by omega)]; done) | (refine congrArg (Value.int _) ?_; symm; refine (szR_le ?_).trans ?_ <;> omega) | rfl
  ·try have soh9 := szR_ok qh9 (by omega)
   try have sbh9 := szR_b qh9 (by omega) (by first | assumption | omega)
   try have snh9 := szR_no qh9
   refine WC.skip ?_
   refine hK8 _ _ ?_
   refine WC.sr ?_
   refine WL.r 3 hs7 [0] rfl ?_
   refine WL.cl Tryz.call61 rfl (c_laws_szIntS _ _ _ _ _ _ (SlF.st0 f_a.Tabs hs7) ?_ ?_ ?_) ?_
   · first | assumption | omega
   · first | assumption | omega | exact szR_b (by assumption) (by omega) (by first | assumption | omega)
   · first | assumption | omega
   rintro _ whs10 ⟨rfl, hs10⟩
   replace hs10 := hs7.call0 hs10
   refine ⟨_, rfl, ?_⟩
   refine WL.r 1 hs10 [] rfl ?_
   refine WL.nil ?_
   refine WC.seq (fun K11 hK11 => ?_)
   refine WC.r1 hs10 [] rfl ?_
   refine WC.cD rfl (fun qh12 => ?_) (fun qh12 => ?_)
   ·try have soh12 := szR_ok qh12 (by omega)
    try have sbh12 := szR_b qh12 (by omega) (by first | assumption | omega)
    try have snh12 := szR_no qh12
    refine WC.r1 hs10 [] rfl ?_
    refine WC.ret ?_
    refine tkR ?_
    clear hK11
    refine retV1 rfl (resV.tmp rfl) ?_
    refine ⟨congrArg Ending.returned ?_, hs10.nil⟩
    simp only [totGrid, totScr, GridR.dat, ScrR.dat] at *; first | (rw [szR_lt (by omega)]; done) | (refine congrArg (Value.int _) ?_; symm; refine (szR_le ?_).trans ?_ <;> omega) | rfl
   ·try have soh12 := szR_ok qh12 (by omega)
    try have sbh12 := szR_b qh12 (by omega) (by first | assumption | omega)
    try have snh12 := szR_no qh12
    refine WC.skip ?_
    refine hK11 _ _ ?_
    refine WC.sr ?_
    refine WL.r 3 hs10 [0] rfl ?_
    refine WL.cl Tryz.call62 rfl (c_laws_szRowS _ _ _ _ _ _ (SlN.st0 okRowR.st0 f_a.Back hs10) ?_ ?_ ?_) ?_
    · first | assumption | omega
    · first | assumption | omega | exact szR_b (by assumption) (by omega) (by first | assumption | omega)
    · first | assumption | omega
    rintro _ whs13 ⟨rfl, hs13⟩
    replace hs13 := hs10.call0 hs13
    refine ⟨_, rfl, ?_⟩
    refine WL.r 1 hs13 [] rfl ?_
    refine WL.nil ?_
    refine WC.seq (fun K14 hK14 => ?_)
    refine WC.r1 hs13 [] rfl ?_
    refine WC.cD rfl (fun qh15 => ?_) (fun qh15 => ?_)
    ·try have soh15 := szR_ok qh15 (by omega)
     try have sbh15 := szR_b qh15 (by omega) (by first | assumption | omega)
     try have snh15 := szR_no qh15
     refine WC.r1 hs13 [] rfl ?_
     refine WC.ret ?_
     refine tkR ?_
     clear hK14
     refine retV1 rfl (resV.tmp rfl) ?_
     refine ⟨congrArg Ending.returned ?_, hs13.nil⟩
     simp only [totGrid, totScr, GridR.dat, ScrR.dat] at *; first | (rw [szR_lt (by omega)]; done) | (refine congrArg (Value.int _) ?_; symm; refine (szR_le ?_).trans ?_ <;> omega) | rfl
    ·try have soh15 := szR_ok qh15 (by omega)
     try have sbh15 := szR_b qh15 (by omega) (by first | assumption | omega)
     try have snh15 := szR_no qh15
     refine WC.skip ?_
     refine hK14 _ _ ?_
     refine WC.r1 hs13 [] rfl ?_
     refine WC.ret ?_
     refine retV1 rfl (resV.tmp rfl) ?_
     refine ⟨congrArg Ending.returned ?_, hs13.nil⟩
     simp only [totGrid, totScr, GridR.dat, ScrR.dat] at *; first | (rw [szR_lt (by omega)]; done) | (refine congrArg (Value.int _) ?_; symm; refine (szR_le ?_).trans ?_ <;> omega) | rfl
set_option maxHeartbeats 4000000 in
theorem c_laws_markScr (a : ScrR) (L_a : Hp) (k : Int) (w : World) (o_a : ownScrR a L_a) (h_a : ∀ p, p ∈ L_a → w.heap[p.1]? = some p.2) (hd_ : ((L_a).map (·.1)).Nodup) (h1 : 0 ≤ k) (h2 : endScr k a ≤ 549755813888) (hb_Back : a.Back.xs.length ≤ 549755813888) :
    Calls Tryz.prog 24 #[.agg (cScr a).toArray, i64 k] w fun e w' => ∃ L1, e = .returned (.int .i64 (endScr k a)) ∧ St w (L_a.map (·.1)) L1 w' ∧ ownScrR (markScr k a) L1 := by
 have hq2 := h2
 simp only [endGrid, endScr] at hq2
 have hcn_Back := cnts_nonneg (c := cntERow) (fun x => by simp only [cntERow]; omega) a.Back.xs
 refine enter 22 Tryz.func24 rfl Tryz.ntmps24 rfl rfl ?_
 have hs1 := St.takes1 w L_a h_a hd_
 refine WC.sr ?_
 refine WL.bx hs1 rfl (fun b2 _ hs3 => ?_)
 refine WL.r 1 hs3 [] rfl ?_
 refine WL.nil ?_
 refine WC.sr ?_
 refine WL.r 3 hs3 [0] rfl ?_
 obtain ⟨L4, L5, L6, L7, hs12, ho8, ho9, ho10, ho11⟩ := ownScrR.open_ (hs3.fr L_a) o_a
 have hs13 := (hs12.fb b2)
 refine WL.cl Tryz.call80 rfl (c_laws_markGrid ⟨a.Main.W, a.Main.H, SlD.of ho8⟩ _ _ _ ho8 (hs13.ow L4) (St.nodupL (hs13.fr L4)) ?_ ?_) ?_
 · first | (first | assumption | omega) | (simp only [endGrid, endScr]; omega)
 · first | (first | assumption | omega | (simp only [endGrid]; omega)) | (simp only [endGrid, endScr]; omega)
 rintro _ whs14 ⟨L1_15, rfl, hs14, ho16⟩
 replace hs14 := St.lend (hs13.fr L4) hs14
 refine ⟨_, rfl, ?_⟩
 replace hs14 := St.back [_] hs14
 refine WL.r 1 hs14 [] rfl ?_
 refine WL.nil ?_
 refine WC.sr ?_
 refine WL.r 3 hs14 [0] rfl ?_
 refine WL.cl Tryz.call80 rfl (c_laws_markGrid ⟨a.Alt.W, a.Alt.H, SlD.of ho9⟩ _ _ _ ho9 (hs14.ow L5) (St.nodupL (hs14.fr L5)) ?_ ?_) ?_
 · first | (first | assumption | omega) | (simp only [endGrid, endScr]; omega)
 · first | (first | assumption | omega | (simp only [endGrid]; omega)) | (simp only [endGrid, endScr]; omega)
 rintro _ whs17 ⟨L1_18, rfl, hs17, ho19⟩
 replace hs17 := St.lend (hs14.fr L5) hs17
 refine ⟨_, rfl, ?_⟩
 replace hs17 := St.back [_] hs17
 refine WL.r 1 hs17 [] rfl ?_
 refine WL.nil ?_
 refine WC.sr ?_
 refine WL.r 3 hs17 [0] rfl ?_
 refine WL.cl Tryz.call34 rfl (c_laws_markIntS _ _ _ _ _ ho10 (hs17.ow L6) ?_ ?_ ?_) ?_
 · first | (first | assumption | rfl | omega) | (simp only [endGrid, endScr]; omega)
 · first | (first | assumption | rfl | omega) | (simp only [endGrid, endScr]; omega)
 · first | (first | assumption | rfl | omega) | (simp only [endGrid, endScr]; omega)
 rintro _ whs20 ⟨L1_21, rfl, hs20, ho22⟩
 replace hs20 := St.lend (hs17.fr L6) hs20
 refine ⟨_, rfl, ?_⟩
 replace hs20 := St.back [_] hs20
 refine WL.r 1 hs20 [] rfl ?_
 refine WL.nil ?_
 refine WC.sr ?_
 refine WL.r 3 hs20 [0] rfl ?_
 refine WL.cl Tryz.call81 rfl (c_laws_markRowS _ _ _ _ _ ho11 (hs20.ow L7) (St.nodupL (hs20.fr L7)) ?_ ?_ ?_) ?_
 · first | (first | assumption | omega) | (simp only [endGrid, endScr]; omega)
 · first | (first | assumption | omega) | (simp only [endGrid, endScr]; omega)
 · first | (first | assumption | omega) | (simp only [endGrid, endScr]; omega)
 rintro _ whs23 ⟨L1_24, rfl, hs23, ho25⟩
 replace hs23 := St.lend (hs20.fr L7) hs23
 refine ⟨_, rfl, ?_⟩
 replace hs23 := St.back [_] hs23
 refine WL.r 1 hs23 [] rfl ?_
 refine WL.nil ?_
 refine WC.r1 hs23 [] rfl ?_
 refine WC.ret ?_
 refine retV1 rfl (resV.tmp rfl) ?_
 obtain ⟨L27, hs26, ho28⟩ := ownScrR.fl ((((hs23.fr L1_24).fr L1_21).fr L1_18).fr L1_15) ho16 ho19 ho22 ho25
 have hs29 := (hs26.fb b2)
 refine ⟨_, congrArg Ending.returned ?_, (St.keep1 (hs29.fr L27)), (by exact ho28)⟩
 first | rfl | (simp [endScr]; done) | (simp [endScr]; omega)
set_option maxHeartbeats 4000000 in
theorem c_laws_heldScr (a : ScrR) (k : Int) (w : World) (f_a : okScrR 549755813888 w (markScr k a)) (h1 : 0 ≤ k) (h2 : endScr k a ≤ 549755813888) :
    Calls Tryz.prog 25 #[.agg (cScr a).toArray, i64 k] w fun e w' => e = .returned (.int .i64 (endScr k a)) ∧ St w [] [] w' := by
 have fm_Main : okGridR 549755813888 w (markGrid k a.Main) := f_a.Main
 have fm_Alt : okGridR 549755813888 w (markGrid (endGrid k a.Main) a.Alt) := f_a.Alt
 have nb_Main_Cells : a.Main.Cells.n ≤ 549755813888 := f_a.Main.Cells_n
 have nl_Main_Cells : a.Main.Cells.xs.length = a.Main.Cells.n := by have h_ := f_a.Main.Cells.len; simpa [markGrid, markScr, marks_len, mrks_len] using h_
 have nb_Alt_Cells : a.Alt.Cells.n ≤ 549755813888 := f_a.Alt.Cells_n
 have nl_Alt_Cells : a.Alt.Cells.xs.length = a.Alt.Cells.n := by have h_ := f_a.Alt.Cells.len; simpa [markGrid, markScr, marks_len, mrks_len] using h_
 have nb_Tabs : a.Tabs.n ≤ 549755813888 := f_a.Tabs_n
 have nl_Tabs : a.Tabs.xs.length = a.Tabs.n := by have h_ := f_a.Tabs.len; simpa [markGrid, markScr, marks_len, mrks_len] using h_
 have nb_Back : a.Back.n ≤ 549755813888 := f_a.Back_n
 have nl_Back : a.Back.xs.length = a.Back.n := by have h_ := f_a.Back.sl.len; simpa [markGrid, markScr, marks_len, mrks_len] using h_
 have fm_Main : okGridR 549755813888 w (markGrid k a.Main) := f_a.Main
 have fm_Alt : okGridR 549755813888 w (markGrid (endGrid k a.Main) a.Alt) := f_a.Alt
 have nb_Main_Cells : a.Main.Cells.n ≤ 549755813888 := f_a.Main.Cells_n
 have nl_Main_Cells : a.Main.Cells.xs.length = a.Main.Cells.n := by have h_ := f_a.Main.Cells.len; simpa [markGrid, markScr, marks_len, mrks_len] using h_
 have nb_Alt_Cells : a.Alt.Cells.n ≤ 549755813888 := f_a.Alt.Cells_n
 have nl_Alt_Cells : a.Alt.Cells.xs.length = a.Alt.Cells.n := by have h_ := f_a.Alt.Cells.len; simpa [markGrid, markScr, marks_len, mrks_len] using h_
 have nb_Tabs : a.Tabs.n ≤ 549755813888 := f_a.Tabs_n
 have nl_Tabs : a.Tabs.xs.length = a.Tabs.n := by have h_ := f_a.Tabs.len; simpa [markGrid, markScr, marks_len, mrks_len] using h_
 have nb_Back : a.Back.n ≤ 549755813888 := f_a.Back_n
 have nl_Back : a.Back.xs.length = a.Back.n := by have h_ := f_a.Back.sl.len; simpa [markGrid, markScr, marks_len, mrks_len] using h_
 have hq2 := h2
 simp only [endGrid, endScr] at hq2
 have hcn_Back := cnts_nonneg (c := cntERow) (fun x => by simp only [cntERow]; omega) a.Back.xs
 refine enter 30 Tryz.func25 rfl Tryz.ntmps25 rfl rfl ?_
 have hs1 := St.init w
 refine WC.sr ?_
 refine WL.bx hs1 rfl (fun b2 _ hs3 => ?_)
 refine WL.r 1 hs3 [] rfl ?_
 refine WL.nil ?_
 refine WC.sr ?_
 refine WL.r 3 hs3 [0] rfl ?_
 refine WL.cl Tryz.call82 rfl (c_laws_heldGrid _ _ _ (okGridR.st0 fm_Main hs3) ?_ ?_) ?_
 · first | (first | assumption | omega) | (simp only [endGrid, endScr]; omega)
 · first | (first | assumption | omega | (simp only [endGrid]; omega)) | (simp only [endGrid, endScr]; omega)
 rintro _ whs4 ⟨rfl, hs4⟩
 replace hs4 := hs3.call0 hs4
 refine ⟨_, rfl, ?_⟩
 refine WL.r 1 hs4 [] rfl ?_
 refine WL.nil ?_
 refine WC.seq (fun K5 hK5 => ?_)
 refine WC.r1 hs4 [] rfl ?_
 refine WC.condF rfl (by first | (simp; omega) | (rw [decide_eq_false_iff_not]; simp only [endGrid, endScr]; omega)) ?_
 refine WC.skip ?_
 refine hK5 _ _ ?_
 refine WC.sr ?_
 refine WL.r 3 hs4 [0] rfl ?_
 refine WL.cl Tryz.call82 rfl (c_laws_heldGrid _ _ _ (okGridR.st0 fm_Alt hs4) ?_ ?_) ?_
 · first | (first | assumption | omega) | (simp only [endGrid, endScr]; omega)
 · first | (first | assumption | omega | (simp only [endGrid]; omega)) | (simp only [endGrid, endScr]; omega)
 rintro _ whs7 ⟨rfl, hs7⟩
 replace hs7 := hs4.call0 hs7
 refine ⟨_, rfl, ?_⟩
 refine WL.r 1 hs7 [] rfl ?_
 refine WL.nil ?_
 refine WC.seq (fun K8 hK8 => ?_)
 refine WC.r1 hs7 [] rfl ?_
 refine WC.condF rfl (by first | (simp; omega) | (rw [decide_eq_false_iff_not]; simp only [endGrid, endScr]; omega)) ?_
 refine WC.skip ?_
 refine hK8 _ _ ?_
 refine WC.sr ?_
 refine WL.r 3 hs7 [0] rfl ?_
 refine WL.cl Tryz.call83 rfl (c_laws_heldIntS _ _ _ _ _ _ _ (SlF.st0 f_a.Tabs hs7) rfl ?_ ?_ ?_) ?_
 · first | (first | assumption | rfl | omega) | (simp only [endGrid, endScr]; omega)
 · first | (first | assumption | rfl | omega) | (simp only [endGrid, endScr]; omega)
 · first | (first | assumption | rfl | omega) | (simp only [endGrid, endScr]; omega)
 rintro _ whs10 ⟨rfl, hs10⟩
 replace hs10 := hs7.call0 hs10
 refine ⟨_, rfl, ?_⟩
 refine WL.r 1 hs10 [] rfl ?_
 refine WL.nil ?_
 refine WC.seq (fun K11 hK11 => ?_)
 refine WC.r1 hs10 [] rfl ?_
 refine WC.condF rfl (by first | (simp; omega) | (rw [decide_eq_false_iff_not]; simp only [endGrid, endScr]; omega)) ?_
 refine WC.skip ?_
 refine hK11 _ _ ?_
 refine WC.sr ?_
 refine WL.r 3 hs10 [0] rfl ?_
 refine WL.cl Tryz.call84 rfl (c_laws_heldRowS _ _ _ _ _ _ (SlN.st0 okRowR.st0 f_a.Back hs10) ?_ ?_ ?_) ?_
 · first | (first | assumption | omega) | (simp only [endGrid, endScr]; omega)
 · first | (first | assumption | omega) | (simp only [endGrid, endScr]; omega)
 · first | (first | assumption | omega) | (simp only [endGrid, endScr]; omega)
 rintro _ whs13 ⟨rfl, hs13⟩
 replace hs13 := hs10.call0 hs13
 refine ⟨_, rfl, ?_⟩
 refine WL.r 1 hs13 [] rfl ?_
 refine WL.nil ?_
 refine WC.seq (fun K14 hK14 => ?_)
 refine WC.r1 hs13 [] rfl ?_
 refine WC.condF rfl (by first | (simp; omega) | (rw [decide_eq_false_iff_not]; simp only [endGrid, endScr]; omega)) ?_
 refine WC.skip ?_
 refine hK14 _ _ ?_
 refine WC.r1 hs13 [] rfl ?_
 refine WC.ret ?_
 refine retV1 rfl (resV.tmp rfl) ?_
 refine ⟨congrArg Ending.returned ?_, hs13.nil⟩
 first | rfl | (simp [endGrid, endScr, *]; done) | (simp [endGrid, endScr, *]; omega)
end Go.Proofs.YtjmegoiclgancaaGreat
namespace Go.Proofs.YtjmegoiclgancaaGreat
open Go Go.RowKit
set_option linter.unusedVariables false
set_option linter.unusedSimpArgs false
set_option maxHeartbeats 8000000 in
theorem c_laws_FnExactScrCsi (aS : ScrR) (aMark : Bool) (A_aArgs : Option Addr) (n_aArgs c_aArgs : Nat) (aArgs : List Int) (aB : Int) (w : World) (f_aS : okScrR 9223372036854775807 w aS) (f_aArgs : SlF encI w A_aArgs n_aArgs aArgs) :
    Calls Tryz.prog 6 #[.agg (cScr aS).toArray, .bool aMark, .slice A_aArgs n_aArgs c_aArgs, i64 aB] w fun e w' => e = .returned (.bool true) ∧ St w [] [] w' := by
 have nb_aS_Main_Cells := f_aS.Main.Cells_n
 have nl_aS_Main_Cells := f_aS.Main.Cells.len
 have nb_aS_Alt_Cells := f_aS.Alt.Cells_n
 have nl_aS_Alt_Cells := f_aS.Alt.Cells.len
 have nb_aS_Tabs := f_aS.Tabs_n
 have nl_aS_Tabs := f_aS.Tabs.len
 have nb_aS_Back := f_aS.Back_n
 have nl_aS_Back := f_aS.Back.sl.len
 refine enter 100 Tryz.func6 rfl Tryz.ntmps6 rfl rfl ?_
 have hs1 := St.init w
 refine WC.sr ?_
 refine WL.bx hs1 rfl (fun b2 _ hs3 => ?_)
 refine WL.r 1 hs3 [] rfl ?_
 refine WL.nil ?_
 refine WC.seq (fun K4 hK4 => ?_)
 refine WC.r1 hs3 [] rfl ?_
 refine WC.cD rfl (fun qh5 => ?_) (fun qh5 => ?_)
 ·refine WC.r1 hs3 [] rfl ?_
  refine WC.ret ?_
  refine tkR ?_
  clear hK4
  refine retV1 rfl (resV.tmp rfl) ?_
  refine ⟨congrArg Ending.returned ?_, hs3.nil⟩
  rfl
 ·have hn : n_aArgs ≤ 1048576 := by have h9 := qh5; first | omega | (simp at h9; omega)
  have hbl := f_aArgs.len
  refine WC.skip ?_
  refine hK4 _ _ ?_
  refine WC.r1 hs3 [] rfl ?_
  refine WC.sr ?_
  refine WL.r 2 hs3 [0] rfl ?_
  refine WL.cl Tryz.call19 rfl (c_laws_szScr aS _ _ (okScrR.st0 f_aS hs3) ?_ ?_) ?_
  · first | (first | assumption | omega) | (first | assumption | omega | (simp only [endAct, endGrid, endScr, endTerm, endVp]; first | done | assumption | omega))
  · first | (first | assumption | omega | exact szR_b (by assumption) (by omega) (by first | assumption | omega)) | (first | assumption | omega | (simp only [endAct, endGrid, endScr, endTerm, endVp]; first | done | assumption | omega))
  rintro _ whs6 ⟨rfl, hs6⟩
  replace hs6 := hs3.call0 hs6
  refine ⟨_, rfl, ?_⟩
  refine WL.r 1 hs6 [] rfl ?_
  refine WL.nil ?_
  refine WC.seq (fun K7 hK7 => ?_)
  refine WC.r1 hs6 [] rfl ?_
  refine WC.cD rfl (fun qh8 => ?_) (fun qh8 => ?_)
  ·refine WC.r1 hs6 [] rfl ?_
   refine WC.ret ?_
   refine tkR ?_
   clear hK7
   refine retV1 rfl (resV.tmp rfl) ?_
   refine ⟨congrArg Ending.returned ?_, hs6.nil⟩
   rfl
  ·simp only [szR] at qh8
   have hb_aS : totScr aS.dat ≤ 1048576 := by split at qh8 <;> omega
   have hsm_aS : smScr 1048576 aS.dat := totScr_sm hb_aS
   have hsB_aS : smScr 549755813888 aS.dat := totScr_sm (by omega)
   have f_aS := f_aS.to hsB_aS
   have hT := scrCsiRes_tot (s := aS.dat) (mark := aMark) (l := aArgs) (b := aB)
   have hTB : smScr 549755813888 (scrCsiRes aS.dat aMark aArgs aB) := totScr_sm (by omega)
   refine WC.skip ?_
   refine hK7 _ _ ?_
   refine WC.sr ?_
   refine WL.r 1 hs6 [0] rfl ?_
   refine WL.cl Tryz.call21 rfl (c_laws_toScr aS _ (okScrR.st0 f_aS hs6)) ?_
   rintro _ whs9 ⟨r10, L1_11, rfl, hs9, ho12, hd13⟩
   replace hs9 := hs6.callF hs9
   refine ⟨_, rfl, ?_⟩
   replace hs9 := St.back [_] hs9
   refine WL.r 2 hs9 [] rfl ?_
   refine WL.cl Tryz.call31 rfl (c_laws_toIntS _ _ _ _ _ (SlF.st0 f_aArgs hs9) ?_) ?_
   · first | (first | assumption | rfl | omega) | (first | assumption | omega | (simp only [hd13, endAct, endGrid, endScr, endTerm, endVp]; first | done | assumption | omega))
   rintro _ whs14 ⟨A15, c16, L1_17, rfl, hs14, ho18⟩
   replace hs14 := hs9.callF hs14
   refine ⟨_, rfl, ?_⟩
   replace hs14 := St.back [_] hs14
   refine WL.r 1 hs14 [] rfl ?_
   refine WL.cl Tryz.call30 rfl (c_spec_ScrCsi r10 _ _ _ _ _ _ _ (ownScrR.ok (B := 549755813888) ho12 (hs14.ow L1_11) (by rw [hd13]; assumption)) (SlF.ofOwn ho18 (hs14.ow L1_17)) ?_ ?_) ?_
   · first | (first | assumption | omega) | (first | assumption | omega | (simp only [hd13, endAct, endGrid, endScr, endTerm, endVp]; first | done | assumption | omega))
   · first | (first | assumption | omega) | (first | assumption | omega | (simp only [hd13, endAct, endGrid, endScr, endTerm, endVp]; first | done | assumption | omega))
   rintro _ whs19 ⟨r20, L1_21, rfl, hs19, ho22, hd23⟩
   try simp only [hd13] at hd23
   replace hs19 := hs14.callF hs19
   refine ⟨_, rfl, ?_⟩
   replace hs19 := St.back [_] hs19
   refine WL.al hs19 Tryz.zeroValue33 rfl rfl (fun b24 _ hs25 => ?_)
   refine WL.st tbk hs25 0 rfl rfl (fun _ hs26 => ?_)
   refine WL.nil ?_
   refine WC.sr ?_
   refine WL.r 1 hs26 [1] rfl ?_
   refine WL.cl Tryz.call21 rfl (c_laws_toScr aS _ (okScrR.st0 f_aS hs26)) ?_
   rintro _ whs27 ⟨r28, L1_29, rfl, hs27, ho30, hd31⟩
   try simp only [hd13, hd23] at hd31
   replace hs27 := hs26.callF hs27
   refine ⟨_, rfl, ?_⟩
   replace hs27 := St.back [_, _] hs27
   have el0 := endScr_le 1 r28
   rw [hd31] at el0
   have eg0 := endScr_ge 1 r28
   have eb0 : endScr 1 r28 ≤ 549755813888 := by omega
   have en0_Back : r28.Back.xs.length ≤ 549755813888 := by have h1 := tots_len totRow (r28.Back.xs.map RowR.dat); rw [List.length_map] at h1; have h2 : totScr r28.dat ≤ 1048576 := (by rw [hd31]; exact hb_aS); simp only [GridR.dat, ScrR.dat, totGrid, totScr] at h2; omega
   refine WL.al hs27 Tryz.zeroValue33 rfl rfl (fun b32 _ hs33 => ?_)
   refine WL.st tbk hs33 0 rfl rfl (fun _ hs34 => ?_)
   refine WL.nil ?_
   refine WC.sr ?_
   refine WL.r 1 hs34 [] rfl ?_
   refine WL.cl Tryz.call31 rfl (c_laws_toIntS _ _ _ _ _ (SlF.st0 f_aArgs hs34) ?_) ?_
   · first | (first | assumption | rfl | omega) | (first | assumption | omega | (simp only [hd13, hd23, hd31, endAct, endGrid, endScr, endTerm, endVp]; first | done | assumption | omega))
   rintro _ whs35 ⟨A36, c37, L1_38, rfl, hs35, ho39⟩
   replace hs35 := hs34.callF hs35
   refine ⟨_, rfl, ?_⟩
   replace hs35 := St.back [_, _, _] hs35
   refine WL.r 1 hs35 [] rfl ?_
   refine WL.nil ?_
   refine WC.sr ?_
   refine WL.r 4 hs35 [0] rfl ?_
   refine WL.cl Tryz.call32 rfl (c_impl_ScrCsi r28 _ _ _ _ _ _ _ (ownScrR.ok (B := 549755813888) ho30 (hs35.ow L1_29) (by rw [hd31]; assumption)) (SlF.ofOwn ho39 (hs35.ow L1_38)) ?_ ?_) ?_
   · first | (first | assumption | omega) | (first | assumption | omega | (simp only [hd13, hd23, hd31, endAct, endGrid, endScr, endTerm, endVp]; first | done | assumption | omega))
   · first | (first | assumption | omega) | (first | assumption | omega | (simp only [hd13, hd23, hd31, endAct, endGrid, endScr, endTerm, endVp]; first | done | assumption | omega))
   rintro _ whs40 ⟨r41, L1_42, rfl, hs40, ho43, hd44⟩
   try simp only [hd13, hd23, hd31] at hd44
   replace hs40 := hs35.callF hs40
   refine ⟨_, rfl, ?_⟩
   replace hs40 := St.back [_, _, _] hs40
   have el1 := endScr_le 1 r41
   rw [hd44] at el1
   have eg1 := endScr_ge 1 r41
   have eb1 : endScr 1 r41 ≤ 549755813888 := by omega
   have en1_Back : r41.Back.xs.length ≤ 549755813888 := by have h1 := tots_len totRow (r41.Back.xs.map RowR.dat); rw [List.length_map] at h1; have h2 : totScr r41.dat ≤ 20220 := (by rw [hd44]; exact hT); simp only [GridR.dat, ScrR.dat, totGrid, totScr] at h2; omega
   refine WL.al hs40 Tryz.zeroValue33 rfl rfl (fun b45 _ hs46 => ?_)
   refine WL.st tbk hs46 0 rfl rfl (fun _ hs47 => ?_)
   refine WL.nil ?_
   refine WC.seq (fun K48 hK48 => ?_)
   refine WC.sr ?_
   refine WL.r 2 hs47 [0, 2] rfl ?_
   refine WL.cl Tryz.call23 rfl (c_laws_eqScr r41 r20 _ (ownScrR.ok (B := 549755813888) ho43 (hs47.ow L1_42) (by rw [hd44]; assumption)) (ownScrR.ok (B := 549755813888) ho22 (hs47.ow L1_21) (by rw [hd23]; assumption)) ?_) ?_
   · first | (first | assumption | rfl | omega) | (first | assumption | omega | (simp only [hd13, hd23, hd31, hd44, endAct, endGrid, endScr, endTerm, endVp]; first | done | assumption | omega))
   rintro _ whs49 ⟨rfl, hs49⟩
   replace hs49 := hs47.call0 hs49
   refine ⟨_, rfl, ?_⟩
   refine WL.r 1 hs49 [] rfl ?_
   refine WL.nil ?_
   refine WC.condF rfl (by first | (simp; done) | (simp; omega) | (simp [hd13, hd23, hd31, hd44]; done) | (simp [hd13, hd23, hd31, hd44]; omega) | (simp only [endAct, endGrid, endScr, endTerm, endVp]; simp; omega)) ?_
   refine WC.skip ?_
   refine hK48 _ _ ?_
   refine WC.seq (fun K51 hK51 => ?_)
   refine WC.seq (fun K52 hK52 => ?_)
   refine WC.rH hs49 hs49 (fun _ hs53 => ?_)
   refine WH.rn [0, 1] hs53 [1, 3] rfl rfl ?_
   refine WH.o1 2 rfl ?_
   refine WL.cl Tryz.call21 rfl (c_laws_toScr aS _ (okScrR.st0 f_aS hs53)) ?_
   rintro _ whs54 ⟨r55, L1_56, rfl, hs54, ho57, hd58⟩
   try simp only [hd13, hd23, hd31, hd44] at hd58
   replace hs54 := hs53.callF hs54
   refine ⟨_, rfl, ?_⟩
   replace hs54 := St.back [_, _, _, _] hs54
   refine WL.nil ⟨(hs54.rm L1_56), ?_⟩
   refine WH.o1 3 rfl ?_
   refine WL.cl Tryz.call23 rfl (c_laws_eqScr r28 r55 _ (ownScrR.ok (B := 549755813888) ho30 (hs54.ow L1_29) (by rw [hd31]; assumption)) (ownScrR.ok (B := 549755813888) ho57 (hs54.ow L1_56) (by rw [hd58]; assumption)) ?_) ?_
   · first | (first | assumption | rfl | omega) | (first | assumption | omega | (simp only [hd13, hd23, hd31, hd44, hd58, endAct, endGrid, endScr, endTerm, endVp]; first | done | assumption | omega))
   rintro _ whs59 ⟨rfl, hs59⟩
   replace hs59 := hs54.call0 hs59
   refine ⟨_, rfl, ?_⟩
   refine WL.nil ⟨(hs59.rm L1_56), ?_⟩
   refine WH.rn [4] (hs59.rm L1_56) [] rfl rfl ?_
   refine WH.dn ?_
   refine hK52 _ _ ?_
   refine WC.condF rfl (by first | (simp; done) | (simp; omega) | (simp [hd13, hd23, hd31, hd44, hd58]; done) | (simp [hd13, hd23, hd31, hd44, hd58]; omega) | (simp only [endAct, endGrid, endScr, endTerm, endVp]; simp; omega)) ?_
   refine WC.skip ?_
   refine hK51 _ _ ?_
   refine WC.seq (fun K61 hK61 => ?_)
   refine WC.sr ?_
   refine WL.r 2 hs59 [] rfl ?_
   refine WL.cl Tryz.call31 rfl (c_laws_toIntS _ _ _ _ _ (SlF.st0 f_aArgs hs59) ?_) ?_
   · first | (first | assumption | rfl | omega) | (first | assumption | omega | (simp only [hd13, hd23, hd31, hd44, hd58, endAct, endGrid, endScr, endTerm, endVp]; first | done | assumption | omega))
   rintro _ whs62 ⟨A63, c64, L1_65, rfl, hs62, ho66⟩
   replace hs62 := hs59.callF hs62
   refine ⟨_, rfl, ?_⟩
   replace hs62 := St.back [_, _, _, _] hs62
   refine WL.cl Tryz.call33 rfl (c_laws_eqIntS _ _ _ _ _ _ _ _ _ (SlF.ofOwn ho39 (hs62.ow L1_38)) (SlF.ofOwn ho66 (hs62.ow L1_65)) ?_ ?_) ?_
   · first | (first | assumption | rfl | omega) | (first | assumption | omega | (simp only [hd13, hd23, hd31, hd44, hd58, endAct, endGrid, endScr, endTerm, endVp]; first | done | assumption | omega))
   · first | (first | assumption | rfl | omega) | (first | assumption | omega | (simp only [hd13, hd23, hd31, hd44, hd58, endAct, endGrid, endScr, endTerm, endVp]; first | done | assumption | omega))
   rintro _ whs67 ⟨rfl, hs67⟩
   replace hs67 := hs62.call0 hs67
   refine ⟨_, rfl, ?_⟩
   refine WL.r 1 hs67 [] rfl ?_
   refine WL.nil ?_
   refine WC.condF rfl (by first | (simp; done) | (simp; omega) | (simp [hd13, hd23, hd31, hd44, hd58]; done) | (simp [hd13, hd23, hd31, hd44, hd58]; omega) | (simp only [endAct, endGrid, endScr, endTerm, endVp]; simp; omega)) ?_
   refine WC.skip ?_
   refine hK61 _ _ ?_
   refine WC.r1 hs67 [] rfl ?_
   refine WC.sr ?_
   refine WL.r 2 hs67 [1] rfl ?_
   refine WL.cl Tryz.call24 rfl (c_laws_markScr r28 _ _ _ ho30 (hs67.ow L1_29) (St.nodupL (hs67.fr L1_29)) ?_ ?_ ?_) ?_
   · first | (first | assumption | omega) | (first | assumption | omega | (simp only [hd13, hd23, hd31, hd44, hd58, endAct, endGrid, endScr, endTerm, endVp]; first | done | assumption | omega))
   · first | (first | assumption | omega | (simp only [endGrid, endScr]; omega)) | (first | assumption | omega | (simp only [hd13, hd23, hd31, hd44, hd58, endAct, endGrid, endScr, endTerm, endVp]; first | done | assumption | omega))
   · first | (first | assumption | omega) | (first | assumption | omega | (simp only [hd13, hd23, hd31, hd44, hd58, endAct, endGrid, endScr, endTerm, endVp]; first | done | assumption | omega))
   rintro _ whs69 ⟨L1_70, rfl, hs69, ho71⟩
   replace hs69 := St.lend (hs67.fr L1_29) hs69
   refine ⟨_, rfl, ?_⟩
   replace hs69 := St.back [_, _, _, _] hs69
   refine WL.r 1 hs69 [] rfl ?_
   refine WL.nil ?_
   refine WC.sr ?_
   refine WL.r 2 hs69 [] rfl ?_
   refine WL.cl Tryz.call34 rfl (c_laws_markIntS _ _ _ _ _ ho39 (hs69.ow L1_38) ?_ ?_ ?_) ?_
   · first | (first | assumption | rfl | omega) | (first | assumption | omega | (simp only [hd13, hd23, hd31, hd44, hd58, endAct, endGrid, endScr, endTerm, endVp]; first | done | assumption | omega))
   · first | (first | assumption | rfl | omega) | (first | assumption | omega | (simp only [hd13, hd23, hd31, hd44, hd58, endAct, endGrid, endScr, endTerm, endVp]; first | done | assumption | omega))
   · first | (first | assumption | rfl | omega) | (first | assumption | omega | (simp only [hd13, hd23, hd31, hd44, hd58, endAct, endGrid, endScr, endTerm, endVp]; first | done | assumption | omega))
   rintro _ whs72 ⟨L1_73, rfl, hs72, ho74⟩
   replace hs72 := St.lend (hs69.fr L1_38) hs72
   refine ⟨_, rfl, ?_⟩
   replace hs72 := St.back [_, _, _, _] hs72
   refine WL.r 1 hs72 [] rfl ?_
   refine WL.nil ?_
   refine WC.seq (fun K75 hK75 => ?_)
   refine WC.sr ?_
   refine WL.r 3 hs72 [] rfl ?_
   apply WL.gO 4 Acts.nil hs72 rfl
   ·intro g76 J77
    have qg76 := g76
    try simp only [bf, within_iff, within_not] at qg76
    refine WL.runA tbk 2 (Acts.nil.cons (j := 2) rfl g76) hs72 [0, 2] rfl ⟨rfl, rfl, trivial⟩ ?_
    refine WL.call (wantF rfl g76) rfl rfl (Run.call Tryz.call23 rfl rfl rfl) (c_laws_eqScr r41 r20 _ (ownScrR.ok (B := 549755813888) ho43 (hs72.ow L1_42) (by rw [hd44]; assumption)) (ownScrR.ok (B := 549755813888) ho22 (hs72.ow L1_21) (by rw [hd23]; assumption)) ?_) ?_
    · first | (first | assumption | rfl | omega) | (first | assumption | omega | (simp only [hd13, hd23, hd31, hd44, hd58, endAct, endGrid, endScr, endTerm, endVp]; first | done | assumption | omega))
    rintro _ whs78 ⟨rfl, hs78⟩
    replace hs78 := hs72.call0 hs78
    refine ⟨_, rfl, ?_⟩
    refine WL.runA tbk 1 (Acts.nil.cons (j := 2) rfl g76) hs78 [] rfl trivial ?_
    exact WL.eO 4 Acts.nil J77 hs78 g76 rfl rfl
   ·intro _ hs79
    refine WL.nil ?_
    refine WC.condF rfl (by first | (simp; done) | (simp; omega) | (simp [hd13, hd23, hd31, hd44, hd58]; done) | (simp [hd13, hd23, hd31, hd44, hd58]; omega) | (simp only [endAct, endGrid, endScr, endTerm, endVp]; simp; omega)) ?_
    refine WC.skip ?_
    refine hK75 _ _ ?_
    refine WC.r1 hs79 [] rfl ?_
    refine WC.sr ?_
    refine WL.r 2 hs79 [0] rfl ?_
    refine WL.cl Tryz.call24 rfl (c_laws_markScr r41 _ _ _ ho43 (hs79.ow L1_42) (St.nodupL (hs79.fr L1_42)) ?_ ?_ ?_) ?_
    · first | (first | assumption | omega) | (first | assumption | omega | (simp only [hd13, hd23, hd31, hd44, hd58, endAct, endGrid, endScr, endTerm, endVp]; first | done | assumption | omega))
    · first | (first | assumption | omega | (simp only [endGrid, endScr]; omega)) | (first | assumption | omega | (simp only [hd13, hd23, hd31, hd44, hd58, endAct, endGrid, endScr, endTerm, endVp]; first | done | assumption | omega))
    · first | (first | assumption | omega) | (first | assumption | omega | (simp only [hd13, hd23, hd31, hd44, hd58, endAct, endGrid, endScr, endTerm, endVp]; first | done | assumption | omega))
    rintro _ whs81 ⟨L1_82, rfl, hs81, ho83⟩
    replace hs81 := St.lend (hs79.fr L1_42) hs81
    refine ⟨_, rfl, ?_⟩
    replace hs81 := St.back [_, _, _, _] hs81
    refine WL.r 1 hs81 [] rfl ?_
    refine WL.nil ?_
    refine WC.r1 hs81 [] rfl ?_
    refine WC.sr ?_
    refine WL.r 2 hs81 [0] rfl ?_
    refine WL.cl Tryz.call25 rfl (c_laws_heldScr _ _ _ (ownScrR.ok (B := 549755813888) ho83 (hs81.ow L1_82) (markScr_sm (by rw [hd44]; assumption))) ?_ ?_) ?_
    · first | (first | assumption | omega) | (first | assumption | omega | (simp only [hd13, hd23, hd31, hd44, hd58, endAct, endGrid, endScr, endTerm, endVp]; first | done | assumption | omega))
    · first | (first | assumption | omega | (simp only [endGrid, endScr]; omega)) | (first | assumption | omega | (simp only [hd13, hd23, hd31, hd44, hd58, endAct, endGrid, endScr, endTerm, endVp]; first | done | assumption | omega))
    rintro _ whs84 ⟨rfl, hs84⟩
    replace hs84 := hs81.call0 hs84
    refine ⟨_, rfl, ?_⟩
    refine WL.r 1 hs84 [] rfl ?_
    refine WL.nil ?_
    refine WC.seq (fun K85 hK85 => ?_)
    refine WC.r1 hs84 [] rfl ?_
    refine WC.condF rfl (by first | (simp; done) | (simp; omega) | (simp [hd13, hd23, hd31, hd44, hd58]; done) | (simp [hd13, hd23, hd31, hd44, hd58]; omega) | (simp only [endAct, endGrid, endScr, endTerm, endVp]; simp; omega)) ?_
    refine WC.skip ?_
    refine hK85 _ _ ?_
    refine WC.seq (fun K87 hK87 => ?_)
    refine WC.r1 hs84 [] rfl ?_
    refine WC.condF rfl (by first | (simp; done) | (simp; omega) | (simp [hd13, hd23, hd31, hd44, hd58]; done) | (simp [hd13, hd23, hd31, hd44, hd58]; omega) | (simp only [endAct, endGrid, endScr, endTerm, endVp]; simp; omega)) ?_
    refine WC.skip ?_
    refine hK87 _ _ ?_
    refine WC.sr ?_
    refine WL.r 1 hs84 [3] rfl ?_
    refine WL.cl Tryz.call21 rfl (c_laws_toScr aS _ (okScrR.st0 f_aS hs84)) ?_
    rintro _ whs89 ⟨r90, L1_91, rfl, hs89, ho92, hd93⟩
    try simp only [hd13, hd23, hd31, hd44, hd58] at hd93
    replace hs89 := hs84.callF hs89
    refine ⟨_, rfl, ?_⟩
    replace hs89 := St.back [_, _, _, _] hs89
    refine WL.r 2 hs89 [] rfl ?_
    refine WL.cl Tryz.call31 rfl (c_laws_toIntS _ _ _ _ _ (SlF.st0 f_aArgs hs89) ?_) ?_
    · first | (first | assumption | rfl | omega) | (first | assumption | omega | (simp only [hd13, hd23, hd31, hd44, hd58, hd93, endAct, endGrid, endScr, endTerm, endVp]; first | done | assumption | omega))
    rintro _ whs94 ⟨A95, c96, L1_97, rfl, hs94, ho98⟩
    replace hs94 := hs89.callF hs94
    refine ⟨_, rfl, ?_⟩
    replace hs94 := St.back [_, _, _, _] hs94
    refine WL.r 1 hs94 [] rfl ?_
    refine WL.cl Tryz.call32 rfl (c_impl_ScrCsi r90 _ _ _ _ _ _ _ (ownScrR.ok (B := 549755813888) ho92 (hs94.ow L1_91) (by rw [hd93]; assumption)) (SlF.ofOwn ho98 (hs94.ow L1_97)) ?_ ?_) ?_
    · first | (first | assumption | omega) | (first | assumption | omega | (simp only [hd13, hd23, hd31, hd44, hd58, hd93, endAct, endGrid, endScr, endTerm, endVp]; first | done | assumption | omega))
    · first | (first | assumption | omega) | (first | assumption | omega | (simp only [hd13, hd23, hd31, hd44, hd58, hd93, endAct, endGrid, endScr, endTerm, endVp]; first | done | assumption | omega))
    rintro _ whs99 ⟨r100, L1_101, rfl, hs99, ho102, hd103⟩
    try simp only [hd13, hd23, hd31, hd44, hd58, hd93] at hd103
    replace hs99 := hs94.callF hs99
    refine ⟨_, rfl, ?_⟩
    replace hs99 := St.back [_, _, _, _] hs99
    refine WL.al hs99 Tryz.zeroValue33 rfl rfl (fun b104 _ hs105 => ?_)
    refine WL.st tbk hs105 0 rfl rfl (fun _ hs106 => ?_)
    refine WL.nil ?_
    refine WC.seq (fun K107 hK107 => ?_)
    refine WC.sr ?_
    refine WL.r 2 hs106 [0, 3] rfl ?_
    refine WL.cl Tryz.call23 rfl (c_laws_eqScr r100 r20 _ (ownScrR.ok (B := 549755813888) ho102 (hs106.ow L1_101) (by rw [hd103]; assumption)) (ownScrR.ok (B := 549755813888) ho22 (hs106.ow L1_21) (by rw [hd23]; assumption)) ?_) ?_
    · first | (first | assumption | rfl | omega) | (first | assumption | omega | (simp only [hd13, hd23, hd31, hd44, hd58, hd93, hd103, endAct, endGrid, endScr, endTerm, endVp]; first | done | assumption | omega))
    rintro _ whs108 ⟨rfl, hs108⟩
    replace hs108 := hs106.call0 hs108
    refine ⟨_, rfl, ?_⟩
    refine WL.r 1 hs108 [] rfl ?_
    refine WL.nil ?_
    refine WC.condF rfl (by first | (simp; done) | (simp; omega) | (simp [hd13, hd23, hd31, hd44, hd58, hd93, hd103]; done) | (simp [hd13, hd23, hd31, hd44, hd58, hd93, hd103]; omega) | (simp only [endAct, endGrid, endScr, endTerm, endVp]; simp; omega)) ?_
    refine WC.skip ?_
    refine hK107 _ _ ?_
    refine WC.r1 hs108 [] rfl ?_
    refine WC.sr ?_
    refine WL.r 2 hs108 [1] rfl ?_
    refine WL.cl Tryz.call25 rfl (c_laws_heldScr _ _ _ (ownScrR.ok (B := 549755813888) ho83 (hs108.ow L1_82) (markScr_sm (by rw [hd44]; assumption))) ?_ ?_) ?_
    · first | (first | assumption | omega) | (first | assumption | omega | (simp only [hd13, hd23, hd31, hd44, hd58, hd93, hd103, endAct, endGrid, endScr, endTerm, endVp]; first | done | assumption | omega))
    · first | (first | assumption | omega | (simp only [endGrid, endScr]; omega)) | (first | assumption | omega | (simp only [hd13, hd23, hd31, hd44, hd58, hd93, hd103, endAct, endGrid, endScr, endTerm, endVp]; first | done | assumption | omega))
    rintro _ whs110 ⟨rfl, hs110⟩
    replace hs110 := hs108.call0 hs110
    refine ⟨_, rfl, ?_⟩
    refine WL.r 1 hs110 [] rfl ?_
    refine WL.nil ?_
    refine WC.seq (fun K111 hK111 => ?_)
    refine WC.r1 hs110 [] rfl ?_
    refine WC.condF rfl (by first | (simp; done) | (simp; omega) | (simp [hd13, hd23, hd31, hd44, hd58, hd93, hd103]; done) | (simp [hd13, hd23, hd31, hd44, hd58, hd93, hd103]; omega) | (simp only [endAct, endGrid, endScr, endTerm, endVp]; simp; omega)) ?_
    refine WC.skip ?_
    refine hK111 _ _ ?_
    refine WC.seq (fun K113 hK113 => ?_)
    refine WC.r1 hs110 [] rfl ?_
    refine WC.condF rfl (by first | (simp; done) | (simp; omega) | (simp [hd13, hd23, hd31, hd44, hd58, hd93, hd103]; done) | (simp [hd13, hd23, hd31, hd44, hd58, hd93, hd103]; omega) | (simp only [endAct, endGrid, endScr, endTerm, endVp]; simp; omega)) ?_
    refine WC.skip ?_
    refine hK113 _ _ ?_
    refine WC.r1 hs110 [] rfl ?_
    refine WC.ret ?_
    refine retV1 rfl (resV.tmp rfl) ?_
    refine ⟨congrArg Ending.returned ?_, hs110.nil⟩
    rfl
end Go.Proofs.YtjmegoiclgancaaGreat
namespace Go.Proofs.YtjmegoiclgancaaGreat
open Go Go.RowKit Go.ChangeShapes Go.WideShapes Go.ChangeAt Go.Deep
set_option linter.unusedVariables false
set_option linter.unusedSimpArgs false
theorem list_succ {n : Nat} {l : List Value} (h : l.length = n + 1) : ∃ c r, l = c :: r ∧ r.length = n := by
  cases l with
  | nil => simp at h
  | cons c r => exact ⟨c, r, rfl, by simpa using h⟩
theorem list_zero {l : List Value} (h : l.length = 0) : l = [] := List.eq_nil_of_length_eq_zero h
section
variable {H : Type} {enc : TypeId × Value → H} {P : Program} {w : World} {base : Nat} {spare : Nat → Bool} {held : Bool} {fuel : Nat} {t e : TypeId} {cs : List Value} {x : DataW H × List MemPlace}
theorem trod_flds {fs : Array Field} (ht : P.underlying t = some (.struct fs)) (h : DataW.trod enc P w base spare held fuel t cs = some x) :
    cs.length = P.cellsOf t ∧ ∃ n, ∀ (i : Nat) (f : Field), fs.toList[i]? = some f → ∃ y, DataW.trod enc P w base spare held n f.type ((cs.drop f.offset).take (P.cellsOf f.type)) = some y := by
  obtain ⟨xs, n, _, _, hl, hlen, hg⟩ := DataW.trod_struct ht h
  refine ⟨hl, n, fun i f hf => ?_⟩
  have hf' : fs[i]? = some f := by simpa using hf
  have hi : i < xs.length := by rw [hlen]; exact (Array.getElem?_eq_some_iff.1 hf').1
  exact ⟨xs[i], (hg i f hf').trans (List.getElem?_eq_getElem hi)⟩
theorem open_i64 (ht : P.underlying t = some (.int .i64)) (h : DataW.trod enc P w base spare held fuel t cs = some x) : ∃ n, cs = [i64 n] ∧ In64 n := by
  obtain ⟨n, rfl, _, hw⟩ := DataW.trod_int ht h
  refine ⟨n, rfl, ?_⟩
  simp [Lit.wf, IntKind.min, IntKind.max, IntKind.signed, IntKind.bits] at hw
  exact hw
theorem open_bool' (ht : P.underlying t = some .bool) (h : DataW.trod enc P w base spare held fuel t cs = some x) : ∃ b, cs = [.bool b] := by
  obtain ⟨b, rfl, _⟩ := DataW.trod_bool ht h
  exact ⟨b, rfl⟩
theorem open_SlI (ht : P.underlying t = some (.slice e)) (he : P.underlying e = some (.int .i64)) (hc : P.cellsOf e = 1) (h : DataW.trod enc P w base spare held fuel t cs = some x) :
    ∃ A n c xs, cs = [.slice A n c] ∧ SlI w A n xs ∧ n ≤ 9223372036854775807 ∧ ∀ z, z ∈ xs → In64 z := by
  rcases open_ints ht he hc h with ⟨rfl, _⟩ | ⟨a, l, c, zs, rfl, _, hl, hm, hz, _, hcell, hwz⟩
  · exact ⟨none, 0, 0, [], rfl, ⟨rfl, SlR.nil _ _ _⟩, by omega, fun z h => by cases h⟩
  · have hlz : l ≤ zs.length := by rw [hz]; split <;> omega
    refine ⟨some a, l, c, zs.take l, rfl, ⟨by simp; omega, ⟨by rw [rows_len]; simp [encI]; omega, fun _ => rfl, fun j v hv => ?_⟩⟩, by simp only [maxLen] at hm; omega, fun z hz => ?_⟩
    · have hj : j < l := by
        have := (List.getElem?_eq_some_iff.1 hv).1
        simp [intsV_len] at this; omega
      have hc1 := hcell j (by omega)
      show w.cell? (a.add j) = some v
      rw [hc1, ← hv]
      simp [intsV_map, hj, List.getElem?_eq_getElem (show j < zs.length by omega)]
    · have hw := hwz z (List.mem_of_mem_take hz)
      simp [Lit.wf, IntKind.min, IntKind.max, IntKind.signed, IntKind.bits] at hw
      exact hw
theorem open_SlF {α : Type} {F : Enc α} {good : α → Prop} (ht : P.underlying t = some (.slice e)) (hc : P.cellsOf e = F.sz)
    (hE : ∀ n cs' y, DataW.trod enc P w base spare held n e cs' = some y → ∃ d, cs' = F.enc d ∧ good d) (h : DataW.trod enc P w base spare held fuel t cs = some x) :
    ∃ A n c xs, cs = [.slice A n c] ∧ SlF F w A n xs ∧ n ≤ 9223372036854775807 ∧ ∀ d, d ∈ xs → good d := by
  rcases open_slice ht h with ⟨rfl, _⟩ | ⟨a, l, c, m, n, D, Pl, rfl, _, hl, hm, hmm, _, hx⟩
  · exact ⟨none, 0, 0, [], rfl, ⟨rfl, SlR.nil _ _ _⟩, by omega, fun z h => by cases h⟩
  · have hlm : l ≤ m := by rw [hmm]; split <;> omega
    have : Inhabited α := ⟨F.dflt⟩
    have each : ∀ i, i < l → ∃ d : α, good d ∧ ∀ r, r < F.sz → w.cell? (a.add (i * F.sz + r)) = (F.enc d)[r]? := by
      intro i hi
      obtain ⟨cs', h1, h2⟩ := hx i (by omega)
      obtain ⟨d, rfl, hg⟩ := hE _ _ _ h2
      obtain ⟨_, _, h3⟩ := World.cells?_some h1
      refine ⟨d, hg, fun r hr => ?_⟩
      have := h3 r (by rw [hc]; exact hr)
      rw [← this, hc]
      congr 1
      rw [Addr.add_add']
    obtain ⟨d, hd⟩ := choose_lt each
    have hlen : ((List.range l).map d).length = l := by simp
    refine ⟨some a, l, c, (List.range l).map d, rfl, ⟨hlen, ⟨by rw [rows_len, hlen], fun _ => rfl, fun j v hv => ?_⟩⟩, by simp only [maxLen] at hm; omega, fun z hz => ?_⟩
    · have hj := (List.getElem?_eq_some_iff.1 hv).1
      rw [rows_len, hlen] at hj
      have hp := F.pos
      have hi : j / F.sz < l := Nat.div_lt_of_lt_mul (by rw [Nat.mul_comm]; exact hj)
      have hr : j % F.sz < F.sz := Nat.mod_lt _ hp
      have ej : j / F.sz * F.sz + j % F.sz = j := by rw [Nat.mul_comm]; exact Nat.div_add_mod _ _
      have e1 := (hd (j / F.sz) hi).2 (j % F.sz) hr
      rw [ej] at e1
      show w.cell? (a.add j) = some v
      rw [e1, ← hv]
      have e2 := rows_get (F := F) (xs := (List.range l).map d) (k := j / F.sz) (by rw [hlen]; exact hi) hr
      rw [ej] at e2
      rw [e2]
      have e3 : gat F ((List.range l).map d) (j / F.sz) = d (j / F.sz) := by
        have := gat_get (F := F) (xs := (List.range l).map d) (k := j / F.sz) (by rw [hlen]; exact hi)
        rw [List.getElem?_map, List.getElem?_range hi] at this
        exact (Option.some.inj this).symm
      rw [e3]
    · obtain ⟨i, hi, rfl⟩ := List.mem_map.1 hz
      exact (hd i (by simpa using hi)).1
theorem open_e64 (ht : P.underlying t = some (.int .i64)) (h : DataW.trod enc P w base spare held fuel t cs = some x) : ∃ n : Int, cs = encI.enc n ∧ In64 n := open_i64 ht h
theorem open_SlE {α : Type} {F : Enc α} {good : α → Prop} (ht : P.underlying t = some (.slice e)) (hc : P.cellsOf e = F.sz)
    (hE : ∀ n cs' y, DataW.trod enc P w base spare held n e cs' = some y → ∃ d, cs' = F.enc d ∧ good d) (h : DataW.trod enc P w base spare held fuel t cs = some x) :
    ∃ A n c xs, cs = [.slice A n c] ∧ SlF F w A n xs ∧ n ≤ c ∧ n ≤ 9223372036854775807 ∧ ∀ d, d ∈ xs → good d := by
  obtain ⟨A, n, c, xs, e1, f, hn, hg⟩ := open_SlF ht hc hE h
  refine ⟨A, n, c, xs, e1, f, ?_, hn, hg⟩
  rcases open_slice ht h with ⟨e2, _⟩ | ⟨a, l, c', m, n', D, Pl, e2, _, hl, _⟩
  · rw [e1] at e2
    cases e2
    exact Nat.le_refl _
  · rw [e1] at e2
    cases e2
    exact hl
end
end Go.Proofs.YtjmegoiclgancaaGreat
namespace Go.Proofs.YtjmegoiclgancaaGreat
open Go Go.RowKit
set_option linter.unusedVariables false
set_option linter.unusedSimpArgs false
theorem cells_3 : Tryz.prog.cellsOf 3 = 1 := by kernel_rfl
theorem cells_4 : Tryz.prog.cellsOf 4 = 1 := by kernel_rfl
theorem cells_47 : Tryz.prog.cellsOf 47 = 5 := by kernel_rfl
def goodAttr (d : AttrD) : Prop := In64 d.Fg ∧ In64 d.Bg
theorem open_Attr {H : Type} {enc : TypeId × Value → H} {w : World} {base : Nat} {spare : Nat → Bool} {held : Bool} {fuel : Nat} {cs : List Value} {x : DataW H × List MemPlace} (h : DataW.trod enc Tryz.prog w base spare held fuel 47 cs = some x) : ∃ d, cs = encAttr.enc d ∧ goodAttr d := by
  obtain ⟨hl, n, hg⟩ := trod_flds Tryz.underlying47 h
  rw [cells_47] at hl
  obtain ⟨c0, l0, rfl, z0⟩ := list_succ hl
  obtain ⟨c1, l1, rfl, z1⟩ := list_succ z0
  obtain ⟨c2, l2, rfl, z2⟩ := list_succ z1
  obtain ⟨c3, l3, rfl, z3⟩ := list_succ z2
  obtain ⟨c4, l4, rfl, z4⟩ := list_succ z3
  obtain rfl := list_zero z4
  obtain ⟨y0, g0⟩ := hg 0 _ rfl
  rw [show Tryz.prog.cellsOf _ = 1 from cells_3] at g0
  replace g0 : DataW.trod _ _ _ _ _ _ _ 3 [c0] = _ := g0
  obtain ⟨x0, e0, w0⟩ := open_i64 Tryz.underlying3 g0
  obtain ⟨y1, g1⟩ := hg 1 _ rfl
  rw [show Tryz.prog.cellsOf _ = 1 from cells_3] at g1
  replace g1 : DataW.trod _ _ _ _ _ _ _ 3 [c1] = _ := g1
  obtain ⟨x1, e1, w1⟩ := open_i64 Tryz.underlying3 g1
  obtain ⟨y2, g2⟩ := hg 2 _ rfl
  rw [show Tryz.prog.cellsOf _ = 1 from cells_4] at g2
  replace g2 : DataW.trod _ _ _ _ _ _ _ 4 [c2] = _ := g2
  obtain ⟨x2, e2⟩ := open_bool' Tryz.underlying4 g2
  obtain ⟨y3, g3⟩ := hg 3 _ rfl
  rw [show Tryz.prog.cellsOf _ = 1 from cells_4] at g3
  replace g3 : DataW.trod _ _ _ _ _ _ _ 4 [c3] = _ := g3
  obtain ⟨x3, e3⟩ := open_bool' Tryz.underlying4 g3
  obtain ⟨y4, g4⟩ := hg 4 _ rfl
  rw [show Tryz.prog.cellsOf _ = 1 from cells_4] at g4
  replace g4 : DataW.trod _ _ _ _ _ _ _ 4 [c4] = _ := g4
  obtain ⟨x4, e4⟩ := open_bool' Tryz.underlying4 g4
  cases e0
  cases e1
  cases e2
  cases e3
  cases e4
  exact ⟨⟨x0, x1, x2, x3, x4⟩, rfl, ⟨w0, w1⟩⟩
theorem cells_216 : Tryz.prog.cellsOf 216 = 6 := by kernel_rfl
def goodCell (d : CellD) : Prop := In64 d.R ∧ goodAttr d.A
theorem open_Cell {H : Type} {enc : TypeId × Value → H} {w : World} {base : Nat} {spare : Nat → Bool} {held : Bool} {fuel : Nat} {cs : List Value} {x : DataW H × List MemPlace} (h : DataW.trod enc Tryz.prog w base spare held fuel 216 cs = some x) : ∃ d, cs = encCell.enc d ∧ goodCell d := by
  obtain ⟨hl, n, hg⟩ := trod_flds Tryz.underlying216 h
  rw [cells_216] at hl
  obtain ⟨c0, l0, rfl, z0⟩ := list_succ hl
  obtain ⟨c1, l1, rfl, z1⟩ := list_succ z0
  obtain ⟨c2, l2, rfl, z2⟩ := list_succ z1
  obtain ⟨c3, l3, rfl, z3⟩ := list_succ z2
  obtain ⟨c4, l4, rfl, z4⟩ := list_succ z3
  obtain ⟨c5, l5, rfl, z5⟩ := list_succ z4
  obtain rfl := list_zero z5
  obtain ⟨y0, g0⟩ := hg 0 _ rfl
  rw [show Tryz.prog.cellsOf _ = 1 from cells_3] at g0
  replace g0 : DataW.trod _ _ _ _ _ _ _ 3 [c0] = _ := g0
  obtain ⟨x0, e0, w0⟩ := open_i64 Tryz.underlying3 g0
  obtain ⟨y1, g1⟩ := hg 1 _ rfl
  rw [show Tryz.prog.cellsOf _ = 5 from cells_47] at g1
  replace g1 : DataW.trod _ _ _ _ _ _ _ 47 [c1, c2, c3, c4, c5] = _ := g1
  obtain ⟨x1, e1, w1⟩ := open_Attr g1
  replace e1 : [c1, c2, c3, c4, c5] = [i64 x1.Fg, i64 x1.Bg, .bool x1.Bold, .bool x1.Under, .bool x1.Turn] := e1
  cases e0
  cases e1
  exact ⟨⟨x0, x1⟩, rfl, ⟨w0, w1⟩⟩
theorem cells_44 : Tryz.prog.cellsOf 44 = 1 := by kernel_rfl
theorem cells_46 : Tryz.prog.cellsOf 46 = 3 := by kernel_rfl
theorem open_GridR {H : Type} {enc : TypeId × Value → H} {w : World} {base : Nat} {spare : Nat → Bool} {held : Bool} {fuel : Nat} {cs : List Value} {x : DataW H × List MemPlace} (h : DataW.trod enc Tryz.prog w base spare held fuel 46 cs = some x) : ∃ d, cs = encGridR.enc d ∧ okGridR 9223372036854775807 w d := by
  obtain ⟨hl, n, hg⟩ := trod_flds Tryz.underlying46 h
  rw [cells_46] at hl
  obtain ⟨c0, l0, rfl, z0⟩ := list_succ hl
  obtain ⟨c1, l1, rfl, z1⟩ := list_succ z0
  obtain ⟨c2, l2, rfl, z2⟩ := list_succ z1
  obtain rfl := list_zero z2
  obtain ⟨y0, g0⟩ := hg 0 _ rfl
  rw [show Tryz.prog.cellsOf _ = 1 from cells_3] at g0
  replace g0 : DataW.trod _ _ _ _ _ _ _ 3 [c0] = _ := g0
  obtain ⟨x0, e0, w0⟩ := open_i64 Tryz.underlying3 g0
  obtain ⟨y1, g1⟩ := hg 1 _ rfl
  rw [show Tryz.prog.cellsOf _ = 1 from cells_3] at g1
  replace g1 : DataW.trod _ _ _ _ _ _ _ 3 [c1] = _ := g1
  obtain ⟨x1, e1, w1⟩ := open_i64 Tryz.underlying3 g1
  obtain ⟨y2, g2⟩ := hg 2 _ rfl
  rw [show Tryz.prog.cellsOf _ = 1 from cells_44] at g2
  replace g2 : DataW.trod _ _ _ _ _ _ _ 44 [c2] = _ := g2
  obtain ⟨A2, n2, k2, x2, e2, f2, hc2, hn2, hg2⟩ := open_SlE (F := encCell) (good := goodCell) Tryz.underlying44 cells_216 (fun _ _ _ h_ => open_Cell h_) g2
  cases e0
  cases e1
  cases e2
  exact ⟨⟨x0, x1, ⟨A2, n2, k2, x2⟩⟩, rfl, ⟨f2, hc2, hn2⟩⟩
theorem cells_172 : Tryz.prog.cellsOf 172 = 1 := by kernel_rfl
theorem open_RowR {H : Type} {enc : TypeId × Value → H} {w : World} {base : Nat} {spare : Nat → Bool} {held : Bool} {fuel : Nat} {cs : List Value} {x : DataW H × List MemPlace} (h : DataW.trod enc Tryz.prog w base spare held fuel 172 cs = some x) : ∃ d, cs = encRowR.enc d ∧ okRowR 9223372036854775807 w d := by
  obtain ⟨hl, n, hg⟩ := trod_flds Tryz.underlying172 h
  rw [cells_172] at hl
  obtain ⟨c0, l0, rfl, z0⟩ := list_succ hl
  obtain rfl := list_zero z0
  obtain ⟨y0, g0⟩ := hg 0 _ rfl
  rw [show Tryz.prog.cellsOf _ = 1 from cells_44] at g0
  replace g0 : DataW.trod _ _ _ _ _ _ _ 44 [c0] = _ := g0
  obtain ⟨A0, n0, k0, x0, e0, f0, hc0, hn0, hg0⟩ := open_SlE (F := encCell) (good := goodCell) Tryz.underlying44 cells_216 (fun _ _ _ h_ => open_Cell h_) g0
  cases e0
  exact ⟨⟨⟨A0, n0, k0, x0⟩⟩, rfl, ⟨f0, hc0, hn0⟩⟩
theorem cells_23 : Tryz.prog.cellsOf 23 = 1 := by kernel_rfl
theorem cells_48 : Tryz.prog.cellsOf 48 = 1 := by kernel_rfl
theorem cells_50 : Tryz.prog.cellsOf 50 = 31 := by kernel_rfl
theorem open_ScrR {H : Type} {enc : TypeId × Value → H} {w : World} {base : Nat} {spare : Nat → Bool} {held : Bool} {fuel : Nat} {cs : List Value} {x : DataW H × List MemPlace} (h : DataW.trod enc Tryz.prog w base spare held fuel 50 cs = some x) : ∃ d, cs = encScrR.enc d ∧ okScrR 9223372036854775807 w d := by
  obtain ⟨hl, n, hg⟩ := trod_flds Tryz.underlying50 h
  rw [cells_50] at hl
  obtain ⟨c0, l0, rfl, z0⟩ := list_succ hl
  obtain ⟨c1, l1, rfl, z1⟩ := list_succ z0
  obtain ⟨c2, l2, rfl, z2⟩ := list_succ z1
  obtain ⟨c3, l3, rfl, z3⟩ := list_succ z2
  obtain ⟨c4, l4, rfl, z4⟩ := list_succ z3
  obtain ⟨c5, l5, rfl, z5⟩ := list_succ z4
  obtain ⟨c6, l6, rfl, z6⟩ := list_succ z5
  obtain ⟨c7, l7, rfl, z7⟩ := list_succ z6
  obtain ⟨c8, l8, rfl, z8⟩ := list_succ z7
  obtain ⟨c9, l9, rfl, z9⟩ := list_succ z8
  obtain ⟨c10, l10, rfl, z10⟩ := list_succ z9
  obtain ⟨c11, l11, rfl, z11⟩ := list_succ z10
  obtain ⟨c12, l12, rfl, z12⟩ := list_succ z11
  obtain ⟨c13, l13, rfl, z13⟩ := list_succ z12
  obtain ⟨c14, l14, rfl, z14⟩ := list_succ z13
  obtain ⟨c15, l15, rfl, z15⟩ := list_succ z14
  obtain ⟨c16, l16, rfl, z16⟩ := list_succ z15
  obtain ⟨c17, l17, rfl, z17⟩ := list_succ z16
  obtain ⟨c18, l18, rfl, z18⟩ := list_succ z17
  obtain ⟨c19, l19, rfl, z19⟩ := list_succ z18
  obtain ⟨c20, l20, rfl, z20⟩ := list_succ z19
  obtain ⟨c21, l21, rfl, z21⟩ := list_succ z20
  obtain ⟨c22, l22, rfl, z22⟩ := list_succ z21
  obtain ⟨c23, l23, rfl, z23⟩ := list_succ z22
  obtain ⟨c24, l24, rfl, z24⟩ := list_succ z23
  obtain ⟨c25, l25, rfl, z25⟩ := list_succ z24
  obtain ⟨c26, l26, rfl, z26⟩ := list_succ z25
  obtain ⟨c27, l27, rfl, z27⟩ := list_succ z26
  obtain ⟨c28, l28, rfl, z28⟩ := list_succ z27
  obtain ⟨c29, l29, rfl, z29⟩ := list_succ z28
  obtain ⟨c30, l30, rfl, z30⟩ := list_succ z29
  obtain rfl := list_zero z30
  obtain ⟨y0, g0⟩ := hg 0 _ rfl
  rw [show Tryz.prog.cellsOf _ = 1 from cells_3] at g0
  replace g0 : DataW.trod _ _ _ _ _ _ _ 3 [c0] = _ := g0
  obtain ⟨x0, e0, w0⟩ := open_i64 Tryz.underlying3 g0
  obtain ⟨y1, g1⟩ := hg 1 _ rfl
  rw [show Tryz.prog.cellsOf _ = 1 from cells_3] at g1
  replace g1 : DataW.trod _ _ _ _ _ _ _ 3 [c1] = _ := g1
  obtain ⟨x1, e1, w1⟩ := open_i64 Tryz.underlying3 g1
  obtain ⟨y2, g2⟩ := hg 2 _ rfl
  rw [show Tryz.prog.cellsOf _ = 3 from cells_46] at g2
  replace g2 : DataW.trod _ _ _ _ _ _ _ 46 [c2, c3, c4] = _ := g2
  obtain ⟨x2, e2, o2⟩ := open_GridR g2
  replace e2 : [c2, c3, c4] = [i64 x2.W, i64 x2.H, .slice x2.Cells.A x2.Cells.n x2.Cells.c] := e2
  obtain ⟨y3, g3⟩ := hg 3 _ rfl
  rw [show Tryz.prog.cellsOf _ = 3 from cells_46] at g3
  replace g3 : DataW.trod _ _ _ _ _ _ _ 46 [c5, c6, c7] = _ := g3
  obtain ⟨x3, e3, o3⟩ := open_GridR g3
  replace e3 : [c5, c6, c7] = [i64 x3.W, i64 x3.H, .slice x3.Cells.A x3.Cells.n x3.Cells.c] := e3
  obtain ⟨y4, g4⟩ := hg 4 _ rfl
  rw [show Tryz.prog.cellsOf _ = 1 from cells_4] at g4
  replace g4 : DataW.trod _ _ _ _ _ _ _ 4 [c8] = _ := g4
  obtain ⟨x4, e4⟩ := open_bool' Tryz.underlying4 g4
  obtain ⟨y5, g5⟩ := hg 5 _ rfl
  rw [show Tryz.prog.cellsOf _ = 1 from cells_3] at g5
  replace g5 : DataW.trod _ _ _ _ _ _ _ 3 [c9] = _ := g5
  obtain ⟨x5, e5, w5⟩ := open_i64 Tryz.underlying3 g5
  obtain ⟨y6, g6⟩ := hg 6 _ rfl
  rw [show Tryz.prog.cellsOf _ = 1 from cells_3] at g6
  replace g6 : DataW.trod _ _ _ _ _ _ _ 3 [c10] = _ := g6
  obtain ⟨x6, e6, w6⟩ := open_i64 Tryz.underlying3 g6
  obtain ⟨y7, g7⟩ := hg 7 _ rfl
  rw [show Tryz.prog.cellsOf _ = 1 from cells_4] at g7
  replace g7 : DataW.trod _ _ _ _ _ _ _ 4 [c11] = _ := g7
  obtain ⟨x7, e7⟩ := open_bool' Tryz.underlying4 g7
  obtain ⟨y8, g8⟩ := hg 8 _ rfl
  rw [show Tryz.prog.cellsOf _ = 5 from cells_47] at g8
  replace g8 : DataW.trod _ _ _ _ _ _ _ 47 [c12, c13, c14, c15, c16] = _ := g8
  obtain ⟨x8, e8, w8⟩ := open_Attr g8
  replace e8 : [c12, c13, c14, c15, c16] = [i64 x8.Fg, i64 x8.Bg, .bool x8.Bold, .bool x8.Under, .bool x8.Turn] := e8
  obtain ⟨y9, g9⟩ := hg 9 _ rfl
  rw [show Tryz.prog.cellsOf _ = 1 from cells_3] at g9
  replace g9 : DataW.trod _ _ _ _ _ _ _ 3 [c17] = _ := g9
  obtain ⟨x9, e9, w9⟩ := open_i64 Tryz.underlying3 g9
  obtain ⟨y10, g10⟩ := hg 10 _ rfl
  rw [show Tryz.prog.cellsOf _ = 1 from cells_3] at g10
  replace g10 : DataW.trod _ _ _ _ _ _ _ 3 [c18] = _ := g10
  obtain ⟨x10, e10, w10⟩ := open_i64 Tryz.underlying3 g10
  obtain ⟨y11, g11⟩ := hg 11 _ rfl
  rw [show Tryz.prog.cellsOf _ = 1 from cells_4] at g11
  replace g11 : DataW.trod _ _ _ _ _ _ _ 4 [c19] = _ := g11
  obtain ⟨x11, e11⟩ := open_bool' Tryz.underlying4 g11
  obtain ⟨y12, g12⟩ := hg 12 _ rfl
  rw [show Tryz.prog.cellsOf _ = 1 from cells_4] at g12
  replace g12 : DataW.trod _ _ _ _ _ _ _ 4 [c20] = _ := g12
  obtain ⟨x12, e12⟩ := open_bool' Tryz.underlying4 g12
  obtain ⟨y13, g13⟩ := hg 13 _ rfl
  rw [show Tryz.prog.cellsOf _ = 1 from cells_3] at g13
  replace g13 : DataW.trod _ _ _ _ _ _ _ 3 [c21] = _ := g13
  obtain ⟨x13, e13, w13⟩ := open_i64 Tryz.underlying3 g13
  obtain ⟨y14, g14⟩ := hg 14 _ rfl
  rw [show Tryz.prog.cellsOf _ = 1 from cells_3] at g14
  replace g14 : DataW.trod _ _ _ _ _ _ _ 3 [c22] = _ := g14
  obtain ⟨x14, e14, w14⟩ := open_i64 Tryz.underlying3 g14
  obtain ⟨y15, g15⟩ := hg 15 _ rfl
  rw [show Tryz.prog.cellsOf _ = 5 from cells_47] at g15
  replace g15 : DataW.trod _ _ _ _ _ _ _ 47 [c23, c24, c25, c26, c27] = _ := g15
  obtain ⟨x15, e15, w15⟩ := open_Attr g15
  replace e15 : [c23, c24, c25, c26, c27] = [i64 x15.Fg, i64 x15.Bg, .bool x15.Bold, .bool x15.Under, .bool x15.Turn] := e15
  obtain ⟨y16, g16⟩ := hg 16 _ rfl
  rw [show Tryz.prog.cellsOf _ = 1 from cells_23] at g16
  replace g16 : DataW.trod _ _ _ _ _ _ _ 23 [c28] = _ := g16
  obtain ⟨A16, n16, k16, x16, e16, f16, hc16, hn16, hg16⟩ := open_SlE (F := encI) (good := fun n => In64 n) Tryz.underlying23 cells_3 (fun _ _ _ h_ => open_e64 Tryz.underlying3 h_) g16
  obtain ⟨y17, g17⟩ := hg 17 _ rfl
  rw [show Tryz.prog.cellsOf _ = 1 from cells_3] at g17
  replace g17 : DataW.trod _ _ _ _ _ _ _ 3 [c29] = _ := g17
  obtain ⟨x17, e17, w17⟩ := open_i64 Tryz.underlying3 g17
  obtain ⟨y18, g18⟩ := hg 18 _ rfl
  rw [show Tryz.prog.cellsOf _ = 1 from cells_48] at g18
  replace g18 : DataW.trod _ _ _ _ _ _ _ 48 [c30] = _ := g18
  obtain ⟨A18, n18, k18, x18, e18, f18, hc18, hn18, hg18⟩ := open_SlE (F := encRowR) (good := fun d => okRowR 9223372036854775807 w d) Tryz.underlying48 cells_172 (fun _ _ _ h_ => open_RowR h_) g18
  cases e0
  cases e1
  cases e2
  cases e3
  cases e4
  cases e5
  cases e6
  cases e7
  cases e8
  cases e9
  cases e10
  cases e11
  cases e12
  cases e13
  cases e14
  cases e15
  cases e16
  cases e17
  cases e18
  exact ⟨⟨x0, x1, x2, x3, x4, x5, x6, x7, x8, x9, x10, x11, x12, x13, x14, x15, ⟨A16, n16, k16, x16⟩, x17, ⟨A18, n18, k18, x18⟩⟩, rfl, ⟨o2, o3, f16, hc16, hn16, ⟨f18, hg18⟩, hc18, hn18⟩⟩
namespace fnExactScrCsi
open Go.ChangeShapes Go.WideShapes Go.ChangeAt Go.RowKit
theorem own : ownKnob Tryz.prog.godebug = none := by kernel_rfl
theorem laidOut : laidOutB Tryz.prog = true := by kernel_rfl
set_option maxRecDepth 100000 in
set_option maxHeartbeats 1000000 in
theorem lifted (os : Os) (started : os.Started) (H : Type) (enc : TypeId × Value → H) :
    ReturnsInHanded {} Tryz.checked os 6 .any (Rows.fnExactScrCsiSpec.pre6 enc Tryz.prog Tryz.f6 Rows.fnExactScrCsiRow.domain false) (Rows.fnExactScrCsiSpec.post enc Tryz.prog Tryz.f6 false true false false) := by
  refine returnsInHanded_of_change (C := Tryz.checked) own started (by kernel_rfl) Tryz.func6
    (ChangeSpec.witness6 (enc := enc) (C := Tryz.checked) false ⟨#[], #[(Value.agg #[Value.int IntKind.i64 0, Value.int IntKind.i64 0, Value.int IntKind.i64 0, Value.int IntKind.i64 0, Value.slice none 0 0, Value.int IntKind.i64 0, Value.int IntKind.i64 0, Value.slice none 0 0, Value.bool false, Value.int IntKind.i64 0, Value.int IntKind.i64 0, Value.bool false, Value.int IntKind.i64 0, Value.int IntKind.i64 0, Value.bool false, Value.bool false, Value.bool false, Value.int IntKind.i64 0, Value.int IntKind.i64 0, Value.bool false, Value.bool false, Value.int IntKind.i64 0, Value.int IntKind.i64 0, Value.int IntKind.i64 0, Value.int IntKind.i64 0, Value.bool false, Value.bool false, Value.bool false, Value.slice none 0 0, Value.int IntKind.i64 0, Value.slice none 0 0]), .bool false, .slice none 0 0, .int .i64 0], []⟩ 8 (by kernel_rfl) (by kernel_rfl) (by kernel_rfl) (by kernel_rfl)) ?_
  intro W base args ds gs before hval0 hW hcnd _
  have hval : ∀ (j : Nat) t v, Tryz.f6.params[j]? = some t → args[j]? = some v → Value.okWide Tryz.prog W .any base t v := hval0
  have hW' := hW
  obtain ⟨p, q, hA0, hV, rfl, hfz, hnd⟩ := hW
  have hA : DataW.TrodAll enc Tryz.prog W 0 (fun _ => true) true Tryz.f6.params.toList args.toList ds p := hA0
  rw [Tryz.params6] at hA hval
  obtain ⟨v0, vs0, d0, ds0, p0, q0, hargs, rfl, rfl, h0, r0⟩ := trodAll_cons hA
  obtain ⟨v1, vs1, d1, ds1, p1, q1, rfl, rfl, rfl, h1, r1⟩ := trodAll_cons r0
  obtain ⟨v2, vs2, d2, ds2, p2, q2, rfl, rfl, rfl, h2, r2⟩ := trodAll_cons r1
  obtain ⟨v3, vs3, d3, ds3, p3, q3, rfl, rfl, rfl, h3, r3⟩ := trodAll_cons r2
  obtain ⟨rfl, rfl, rfl⟩ := trodAll_nil r3
  obtain rfl : args = #[v0, v1, v2, v3] := by cases args; simp_all
  obtain ⟨rfl, rfl⟩ := trodVars_none hV
  have k0 := h0
  have lt0 : ∀ x ∈ p0, x.block < W.heap.size := by obtain ⟨m, hm⟩ := k0; exact DataW.trod_lt m _ _ _ hm
  have k1 := h1
  have lt1 : ∀ x ∈ p1, x.block < W.heap.size := by obtain ⟨m, hm⟩ := k1; exact DataW.trod_lt m _ _ _ hm
  have k2 := h2
  have lt2 : ∀ x ∈ p2, x.block < W.heap.size := by obtain ⟨m, hm⟩ := k2; exact DataW.trod_lt m _ _ _ hm
  have k3 := h3
  have lt3 : ∀ x ∈ p3, x.block < W.heap.size := by obtain ⟨m, hm⟩ := k3; exact DataW.trod_lt m _ _ _ hm
  obtain ⟨cs0, rfl, hsz0⟩ := okWide_struct Tryz.underlying50 (hval 0 50 v0 rfl rfl)
  obtain ⟨l0⟩ := cs0
  obtain ⟨fuel0, hf0⟩ := h0
  replace hf0 : DataW.trod _ _ _ _ _ _ _ 50 l0 = _ := hf0
  obtain ⟨aS, rfl, f_aS⟩ := open_ScrR hf0
  obtain ⟨q1, rfl⟩ := okWide_bool Tryz.underlying4 (hval 1 4 v1 rfl rfl)
  obtain ⟨fuel1, hf1⟩ := h1
  replace hf1 : DataW.trod _ _ _ _ _ _ _ 4 [.bool q1] = _ := hf1
  obtain ⟨aMark, e1⟩ := open_bool' Tryz.underlying4 hf1
  obtain rfl : aMark = q1 := by cases e1; rfl
  obtain ⟨a2, l2, q2, rfl⟩ := okWide_slice Tryz.underlying23 (hval 2 23 v2 rfl rfl)
  obtain ⟨fuel2, hf2⟩ := h2
  replace hf2 : DataW.trod _ _ _ _ _ _ _ 23 [.slice a2 l2 q2] = _ := hf2
  obtain ⟨A_aArgs, n_aArgs, c_aArgs, aArgs, e2, f_aArgs, w_aArgs, g_aArgs⟩ := open_SlI Tryz.underlying23 Tryz.underlying3 (by kernel_rfl) hf2
  obtain ⟨rfl, rfl, rfl⟩ : A_aArgs = a2 ∧ n_aArgs = l2 ∧ c_aArgs = q2 := by cases e2; exact ⟨rfl, rfl, rfl⟩
  obtain ⟨q3, rfl⟩ := okWide_int Tryz.underlying3 (hval 3 3 v3 rfl rfl)
  obtain ⟨fuel3, hf3⟩ := h3
  replace hf3 : DataW.trod _ _ _ _ _ _ _ 3 [.int .i64 q3] = _ := hf3
  obtain ⟨aB, e3, w_aB⟩ := open_i64 Tryz.underlying3 hf3
  obtain rfl : aB = q3 := by cases e3; rfl
  clear hA0 hval0
  refine (c_laws_FnExactScrCsi aS aMark A_aArgs n_aArgs c_aArgs aArgs aB W f_aS f_aArgs).mono fun e W' ⟨he, hst⟩ => ?_
  have bel := hst.toBelow
  subst he
  exact ⟨_, rfl, _, _, _, [], _, [], hW', trodAll_mk1 (shut_bool Tryz.underlying4 _), (trodAll_cons_mk (Below.trod laidOut (by kernel_rfl) (of_decide_eq_true (by kernel_rfl)) k0 bel lt0) (trodAll_cons_mk (Below.trod laidOut (by kernel_rfl) (of_decide_eq_true (by kernel_rfl)) k1 bel lt1) (trodAll_cons_mk (Below.trod laidOut (by kernel_rfl) (of_decide_eq_true (by kernel_rfl)) k2 bel lt2) (trodAll_cons_mk (Below.trod laidOut (by kernel_rfl) (of_decide_eq_true (by kernel_rfl)) k3 bel lt3) trodAll_mk0)))), rfl, bel.frame _, fun h => by cases h⟩
theorem over : Rows.fnExactScrCsiRow.holds Tryz.pinned (OpenSpec.ofChange Rows.fnExactScrCsiSpec) :=
  OpenClaim.holds_of_wide 6 Tryz.f6 rfl rfl rfl rfl rfl rfl rfl ⟨rfl, rfl, rfl, rfl, rfl⟩ rfl rfl rfl rfl rfl (by kernel_rfl) Tryz.func6 (by kernel_rfl)
    (of_decide_eq_true (by kernel_rfl)) (by unfold Func.isWrapper; first | (rw [if_pos (by decide +kernel)]; kernel_rfl) | (rw [if_neg (by decide +kernel)]; exact ⟨rfl, rfl⟩))
    (fun os started H enc _ => lifted os started H enc)
end fnExactScrCsi
theorem fnExactScrCsi_holds : Rows.FnExactScrCsiSaid := fnExactScrCsi.over
end Go.Proofs.YtjmegoiclgancaaGreat
