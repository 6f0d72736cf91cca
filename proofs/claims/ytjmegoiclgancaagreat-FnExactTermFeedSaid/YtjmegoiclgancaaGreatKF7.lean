/-
  The statement: for every input the law returns true. No condition. (And what it stands on, the last part.)
-/
import Derived.Test.YtjmegoiclgancaaGreatKF6
namespace Go.Proofs.YtjmegoiclgancaaGreat
open Go Go.RowKit
set_option linter.unusedVariables false
set_option linter.unusedSimpArgs false
theorem k181_ (p : VpR) (L_p : Hp) (b : Int) (w : World) (o_p : ownVpR p L_p) (h_p : Hh w L_p) (hd_ : ((L_p).map (·.1)).Nodup) (hsm : smVp 1048576 p.dat) (hok : areArgs p.dat.Args = true) (hb : 0 ≤ b ∧ b ≤ 255) :
    Calls Tryz.prog 222 #[.agg #[i64 p.State, .bool p.Mark, .slice p.Args.A p.Args.n p.Args.c, .slice p.Part.A p.Part.n p.Part.c], i64 b] w fun e w' => ∃ r0 L0 r1 L1, e = .returned (.tuple #[.agg #[i64 r0.State, .bool r0.Mark, .slice r0.Args.A r0.Args.n r0.Args.c, .slice r0.Part.A r0.Part.n r0.Part.c], .agg #[i64 r1.Kind, i64 r1.R, .bool r1.Mark, .slice r1.Args.A r1.Args.n r1.Args.c]]) ∧ St w (L_p.map (·.1)) (L0 ++ L1) w' ∧ ownVpR r0 L0 ∧ ownActR r1 L1 ∧ r0.dat = (vpCsi p.dat b).1 ∧ r1.dat = (vpCsi p.dat b).2 := by
 have hsB : smVp 549755813888 p.dat := ⟨Nat.le_trans hsm.1 (by decide), Nat.le_trans hsm.2 (by decide)⟩
 have hsa : p.Args.xs.length ≤ 1048576 := hsm.1
 have hsp : p.Part.xs.length ≤ 1048576 := hsm.2
 obtain ⟨hal, hpl⟩ := ownVpR.len o_p
 have h88 : p.Args.xs.length ≤ 8 := (areArgs_iff.1 hok).1
 refine enter 109 Tryz.func222 rfl Tryz.ntmps222 rfl rfl ?_
 have hs1 := St.takes1 w L_p h_p hd_
 refine WC.sr (WL.bx hs1 rfl (fun b2 _ hs3 => WL.al hs3 Tryz.zeroValue25 rfl rfl (fun b4 _ hs5 => WL.al hs5 Tryz.zeroValue59 rfl rfl (fun b6 _ hs7 => WL.nil (WC.seq (fun K8 hK8 => WC.block (WC.sr ?_)))))))
 refine WL.r 3 hs7 [] rfl (WL.pA tbk 4 Acts.nil hs7 [2] rfl rfl rfl rfl (fun g_ => ⟨rfl, trivial⟩) (WL.r 1 hs7 [] rfl (WL.pA tbk 3 Acts.nil hs7 [2] rfl rfl rfl rfl (fun g_ => ⟨rfl, trivial⟩) (WL.r 1 hs7 [] rfl (WL.nil (WC.cq rfl (fun h9 qh9 => ?_) (fun h9 qh9 => ?_)))))))
 ·have hc1 : (b = 63 ∧ p.dat.Args.length = 0) ∧ p.dat.Mark = false := by show (b = 63 ∧ p.Args.xs.length = 0) ∧ p.Mark = false; simp at qh9; exact ⟨⟨qh9.1.1, by omega⟩, qh9.2⟩
  refine WC.region (WL.r 1 hs7 [] rfl (WL.st tbk hs7 2 rfl rfl (fun _ hs10 => WL.nil (hK8 _ _ (WC.sr (WL.r 1 hs10 [2] rfl ?_))))))
  refine WL.val rfl rfl rfl (Run.build rfl rfl rfl rfl (built_59)) (WL.st tbk hs10 1 rfl rfl (fun _ hs11 => WL.st tbk hs11 0 rfl rfl (fun _ hs12 => WL.nil (WC.ret (retV2 rfl (resV.cellA tbk hs12 1 rfl rfl rfl rfl) (resV.cellA tbk hs12 0 rfl rfl rfl rfl) ?_)))))
  have hv : vpCsi p.dat b = ({ p.dat with Mark := true }, act0) := by unfold vpCsi; rw [if_pos hc1]
  obtain ⟨L13, L14, hs17, ho15, ho16⟩ := ownVpR.op hs12 o_p
  have hs18 := (((hs17.fb b2).fb b4).fb b6)
  obtain ⟨L20, hs19, ho21⟩ := ownVpR.fl hs18 ho15 ho16
  have hs22 := (((hs19.fb b2).fb b4).fb b6)
  refine ⟨⟨p.State, true, SlD.of ho15, SlD.of ho16⟩, _, ⟨0, 0, false, ⟨none, 0, 0, []⟩⟩, _, rfl, (St.drop ((hs22.fr ([] : Hp)).fr L20) (List.Sublist.append_left (List.sublist_append_left ([] : Hp) _) L20)), ?_, ?_, ?_, ?_⟩
  · exact (by exact ho21)
  · exact (OwnF.nil _ _)
  · rw [hv]; rfl
  · rw [hv]; first | done | rfl
 have hc1 : ¬ ((b = 63 ∧ p.dat.Args.length = 0) ∧ p.dat.Mark = false) := by show ¬ ((b = 63 ∧ p.Args.xs.length = 0) ∧ p.Mark = false); rintro ⟨⟨h1, h2⟩, h3⟩; rw [h3] at qh9; simp at qh9; omega
 refine WC.sr (WL.r 3 hs7 [] rfl (WL.pA tbk 2 Acts.nil hs7 [] rfl rfl rfl rfl (fun g_ => trivial) (WL.r 1 hs7 [] rfl (WL.nil (WC.cq rfl (fun h24 qh24 => ?_) (fun h24 qh24 => ?_))))))
 ·have hc2 : 48 ≤ b ∧ b ≤ 57 := by first | omega | (simp at qh24; omega)
  refine WC.seq (fun K25 hK25 => WC.r1 hs7 [2] rfl ?_)
  refine WC.cD rfl (fun qh26 => ?_) (fun qh26 => ?_)
  ·have gb : 0 ≤ gat encI (p.Args.xs ++ [0]) (((p.Args.xs ++ [0]).length : Int) - 1).toNat ∧ gat encI (p.Args.xs ++ [0]) (((p.Args.xs ++ [0]).length : Int) - 1).toNat ≤ 9999 := by (have hnil : p.Args.xs = [] := List.eq_nil_of_length_eq_zero (by omega); rw [hnil]; decide)
   refine WC.region (WL.r 2 hs7 [2] rfl (WL.buildSlice hs7 Tryz.runUnderlying23 Tryz.sizeOf3 Tryz.zeroValue3 rfl rfl rfl rfl rfl rfl rfl rfl rfl rfl (fun b27 whs28 hs28 => ?_)))
   obtain ⟨L29, L30, hs33, ho31, ho32⟩ := ownVpR.op hs28 o_p
   have hs34 := ((((hs33.fb b2).fb b4).fb b6).fb b27)
   refine WL.appendG (hs34.fr L29) ho31 (srcI1 Tryz.underlying23 (hs34.own _ (nthL_mem (i := 0) rfl)).1) Tryz.underlying23 inf3 rfl rfl rfl rfl rfl rfl rfl rfl rfl rfl ?_ (fun A38 c39 L35 whs36 hs36 ho37 => ?_)
   · first | omega | (simp; done) | (simp; omega) | omega
   replace hs36 := St.back [_, _, _, _] hs36
   refine WL.r 1 hs36 [] rfl (WL.st tbk hs36 3 rfl rfl (fun _ hs40 => WL.nil (hK25 _ _ (WC.sr ?_))))
   refine WL.run tbk 6 hs40 [3, 3] rfl ⟨by first | omega | (simp; done) | (simp; omega) | omega, rfl, rfl, trivial⟩ (WL.val rfl rfl rfl (Run.idx Tryz.runUnderlying23 Tryz.sizeOf3 rfl rfl rfl ?_ ?_ ?_) ?_)
   · exact SlF.some_ (SlF.ofOwn ho37 (hs40.ow L35))
   · first | omega | (simp; done) | (simp; omega) | omega
   · first | omega | (simp; done) | (simp; omega) | omega
   refine WL.val rfl rfl rfl (Run.load Tryz.isAgg3 rfl rfl (SlF.one1 (SlF.ofOwn ho37 (hs40.ow L35)) ?_ rfl)) ?_
   · first | omega | (simp; done) | (simp; omega) | omega
   refine WL.run tbk 5 hs40 [] rfl ⟨by first | omega | (simp; done) | (simp; omega) | omega, by first | omega | (simp; done) | (simp; omega) | omega, by first | omega | (simp; done) | (simp; omega) | omega, trivial⟩ (WL.nil (WC.seq (fun K41 hK41 => WC.r1 hs40 [] rfl ?_)))
   refine WC.cD rfl (fun qh42 => ?_) (fun qh42 => ?_)
   ·refine WC.region (WL.r 1 hs40 [] rfl (WL.nil (hK41 _ _ (WC.region ?_))))
    refine WL.run tbk 7 hs40 [3, 3] rfl ⟨by first | omega | (simp; done) | (simp; omega) | omega, rfl, rfl, trivial⟩ (WL.val rfl rfl rfl (Run.idx Tryz.runUnderlying23 Tryz.sizeOf3 rfl rfl rfl ?_ ?_ ?_) ?_)
    · exact SlF.some_ (SlF.ofOwn ho37 (hs40.ow L35))
    · first | omega | (simp; done) | (simp; omega) | omega
    · first | omega | (simp; done) | (simp; omega) | omega
    refine WL.storeF1 (x' := _) (hs40.fr L35) ho37 Tryz.sizeOf3 rfl rfl rfl rfl rfl rfl rfl rfl rfl ?_ rfl (fun L43 whs44 hs44 ho45 _ => ?_)
    · first | omega | (simp; done) | (simp; omega) | omega
    replace hs44 := St.back [_, _, _, _] hs44
    refine WL.nil (hK8 _ _ (WC.sr (WL.r 1 hs44 [3] rfl ?_)))
    refine WL.val rfl rfl rfl (Run.build rfl rfl rfl rfl (built_59)) (WL.st tbk hs44 2 rfl rfl (fun _ hs46 => WL.st tbk hs46 1 rfl rfl (fun _ hs47 => WL.nil (WC.ret (retV2 rfl (resV.cellA tbk hs47 2 rfl rfl rfl rfl) (resV.cellA tbk hs47 1 rfl rfl rfl rfl) ?_)))))
    have hv : vpCsi p.dat b = (vpDigit p.dat (b - 48), act0) := by unfold vpCsi; rw [if_neg hc1, if_pos hc2]
    have hnil : p.Args.xs = [] := List.eq_nil_of_length_eq_zero (by omega)
    obtain ⟨L49, hs48, ho50⟩ := ownVpR.fl hs47 ho45 ho32
    have hs51 := ((((hs48.fb b2).fb b4).fb b6).fb b27)
    refine ⟨⟨p.State, p.Mark, SlD.of ho45, SlD.of ho32⟩, _, ⟨0, 0, false, ⟨none, 0, 0, []⟩⟩, _, rfl, (St.drop ((hs51.fr ([] : Hp)).fr L49) (List.Sublist.append_left (List.sublist_append_left ([] : Hp) _) L49)), ?_, ?_, ?_, ?_⟩
    · exact (by exact ho50)
    · exact (OwnF.nil _ _)
    · rw [hv, vpDigit_A (show p.dat.Args.length = 0 from (by omega : p.Args.xs.length = 0))]; exact VpD.ext' rfl rfl (by show ((p.Args.xs ++ [0]).set _ _ : List Int) = _; simp only [hnil, List.nil_append] at *; have ez : gat encI [0] ((([0] : List Int).length : Int) - 1).toNat = 0 := rfl; have ez0 : gat encI [0] 0 = 0 := rfl; show [_] = [_]; congr 1; omega) rfl
    · rw [hv]; first | done | rfl
   refine WC.skip (hK41 _ _ (WC.region ?_))
   refine WL.run tbk 7 hs40 [3, 3] rfl ⟨by first | omega | (simp; done) | (simp; omega) | omega, rfl, rfl, trivial⟩ (WL.val rfl rfl rfl (Run.idx Tryz.runUnderlying23 Tryz.sizeOf3 rfl rfl rfl ?_ ?_ ?_) ?_)
   · exact SlF.some_ (SlF.ofOwn ho37 (hs40.ow L35))
   · first | omega | (simp; done) | (simp; omega) | omega
   · first | omega | (simp; done) | (simp; omega) | omega
   refine WL.storeF1 (x' := _) (hs40.fr L35) ho37 Tryz.sizeOf3 rfl rfl rfl rfl rfl rfl rfl rfl rfl ?_ rfl (fun L53 whs54 hs54 ho55 _ => ?_)
   · first | omega | (simp; done) | (simp; omega) | omega
   replace hs54 := St.back [_, _, _, _] hs54
   refine WL.nil (hK8 _ _ (WC.sr (WL.r 1 hs54 [3] rfl ?_)))
   refine WL.val rfl rfl rfl (Run.build rfl rfl rfl rfl (built_59)) (WL.st tbk hs54 2 rfl rfl (fun _ hs56 => WL.st tbk hs56 1 rfl rfl (fun _ hs57 => WL.nil (WC.ret (retV2 rfl (resV.cellA tbk hs57 2 rfl rfl rfl rfl) (resV.cellA tbk hs57 1 rfl rfl rfl rfl) ?_)))))
   have hv : vpCsi p.dat b = (vpDigit p.dat (b - 48), act0) := by unfold vpCsi; rw [if_neg hc1, if_pos hc2]
   have hnil : p.Args.xs = [] := List.eq_nil_of_length_eq_zero (by omega)
   obtain ⟨L59, hs58, ho60⟩ := ownVpR.fl hs57 ho55 ho32
   have hs61 := ((((hs58.fb b2).fb b4).fb b6).fb b27)
   refine ⟨⟨p.State, p.Mark, SlD.of ho55, SlD.of ho32⟩, _, ⟨0, 0, false, ⟨none, 0, 0, []⟩⟩, _, rfl, (St.drop ((hs61.fr ([] : Hp)).fr L59) (List.Sublist.append_left (List.sublist_append_left ([] : Hp) _) L59)), ?_, ?_, ?_, ?_⟩
   · exact (by exact ho60)
   · exact (OwnF.nil _ _)
   · rw [hv, vpDigit_A (show p.dat.Args.length = 0 from (by omega : p.Args.xs.length = 0))]; exact VpD.ext' rfl rfl (by show ((p.Args.xs ++ [0]).set _ _ : List Int) = _; simp only [hnil, List.nil_append] at *; have ez : gat encI [0] ((([0] : List Int).length : Int) - 1).toNat = 0 := rfl; have ez0 : gat encI [0] 0 = 0 := rfl; show [_] = [_]; congr 1; omega) rfl
   · rw [hv]; first | done | rfl
  have gb := areArgs_gat (k := ((p.Args.n : Int) - 1).toNat) hok (by show _ < p.Args.xs.length; omega)
  have e0 : p.dat.Args = p.Args.xs := rfl
  rw [e0] at gb
  refine WC.skip (hK25 _ _ (WC.sr ?_))
  refine WL.run tbk 6 hs7 [2, 2] rfl ⟨by first | omega | (simp; done) | (simp; omega) | omega, rfl, rfl, trivial⟩ (WL.val rfl rfl rfl (Run.idx Tryz.runUnderlying23 Tryz.sizeOf3 rfl rfl rfl ?_ ?_ ?_) ?_)
  · exact SlF.some_ (ownVpR.ok (B := 549755813888) o_p (hs7.ow L_p) (by assumption)).Args
  · first | omega | (simp; done) | (simp; omega) | omega
  · first | omega | (simp; done) | (simp; omega) | omega
  refine WL.val rfl rfl rfl (Run.load Tryz.isAgg3 rfl rfl (SlF.one1 (ownVpR.ok (B := 549755813888) o_p (hs7.ow L_p) (by assumption)).Args ?_ rfl)) ?_
  · first | omega | (simp; done) | (simp; omega) | omega
  refine WL.run tbk 5 hs7 [] rfl ⟨by first | omega | (simp; done) | (simp; omega) | omega, by first | omega | (simp; done) | (simp; omega) | omega, by first | omega | (simp; done) | (simp; omega) | omega, trivial⟩ (WL.nil (WC.seq (fun K63 hK63 => WC.r1 hs7 [] rfl ?_)))
  refine WC.cD rfl (fun qh64 => ?_) (fun qh64 => ?_)
  ·refine WC.region (WL.r 1 hs7 [] rfl (WL.nil (hK63 _ _ (WC.region ?_))))
   refine WL.run tbk 7 hs7 [2, 2] rfl ⟨by first | omega | (simp; done) | (simp; omega) | omega, rfl, rfl, trivial⟩ (WL.val rfl rfl rfl (Run.idx Tryz.runUnderlying23 Tryz.sizeOf3 rfl rfl rfl ?_ ?_ ?_) ?_)
   · exact SlF.some_ (ownVpR.ok (B := 549755813888) o_p (hs7.ow L_p) (by assumption)).Args
   · first | omega | (simp; done) | (simp; omega) | omega
   · first | omega | (simp; done) | (simp; omega) | omega
   obtain ⟨L65, L66, hs69, ho67, ho68⟩ := ownVpR.op hs7 o_p
   have hs70 := (((hs69.fb b2).fb b4).fb b6)
   refine WL.storeF1 (x' := _) (hs70.fr L65) ho67 Tryz.sizeOf3 rfl rfl rfl rfl rfl rfl rfl rfl rfl ?_ rfl (fun L71 whs72 hs72 ho73 _ => ?_)
   · first | omega | (simp; done) | (simp; omega) | omega
   replace hs72 := St.back [_, _, _] hs72
   refine WL.nil (hK8 _ _ (WC.sr (WL.r 1 hs72 [2] rfl ?_)))
   refine WL.val rfl rfl rfl (Run.build rfl rfl rfl rfl (built_59)) (WL.st tbk hs72 1 rfl rfl (fun _ hs74 => WL.st tbk hs74 0 rfl rfl (fun _ hs75 => WL.nil (WC.ret (retV2 rfl (resV.cellA tbk hs75 1 rfl rfl rfl rfl) (resV.cellA tbk hs75 0 rfl rfl rfl rfl) ?_)))))
   have hv : vpCsi p.dat b = (vpDigit p.dat (b - 48), act0) := by unfold vpCsi; rw [if_neg hc1, if_pos hc2]
   obtain ⟨L77, hs76, ho78⟩ := ownVpR.fl hs75 ho73 ho68
   have hs79 := (((hs76.fb b2).fb b4).fb b6)
   refine ⟨⟨p.State, p.Mark, SlD.of ho73, SlD.of ho68⟩, _, ⟨0, 0, false, ⟨none, 0, 0, []⟩⟩, _, rfl, (St.drop ((hs79.fr ([] : Hp)).fr L77) (List.Sublist.append_left (List.sublist_append_left ([] : Hp) _) L77)), ?_, ?_, ?_, ?_⟩
   · exact (by exact ho78)
   · exact (OwnF.nil _ _)
   · rw [hv, vpDigit_B (show ¬ p.dat.Args.length = 0 from (by omega : ¬ p.Args.xs.length = 0))]; exact VpD.ext' rfl rfl (by have e9 : ((p.Args.n : Int) - 1).toNat = p.Args.xs.length - 1 := (by omega); show (p.Args.xs.set _ _ : List Int) = _; show _ = p.Args.xs.set (p.Args.xs.length - 1) (min 9999 (10 * gat encI p.Args.xs (p.Args.xs.length - 1) + (b - 48))); have e10 : gat encI p.Args.xs ((p.Args.n : Int) - 1).toNat = gat encI p.Args.xs (p.Args.xs.length - 1) := (by rw [e9]); rw [e9]; congr 1; omega) rfl
   · rw [hv]; first | done | rfl
  refine WC.skip (hK63 _ _ (WC.region ?_))
  refine WL.run tbk 7 hs7 [2, 2] rfl ⟨by first | omega | (simp; done) | (simp; omega) | omega, rfl, rfl, trivial⟩ (WL.val rfl rfl rfl (Run.idx Tryz.runUnderlying23 Tryz.sizeOf3 rfl rfl rfl ?_ ?_ ?_) ?_)
  · exact SlF.some_ (ownVpR.ok (B := 549755813888) o_p (hs7.ow L_p) (by assumption)).Args
  · first | omega | (simp; done) | (simp; omega) | omega
  · first | omega | (simp; done) | (simp; omega) | omega
  obtain ⟨L81, L82, hs85, ho83, ho84⟩ := ownVpR.op hs7 o_p
  have hs86 := (((hs85.fb b2).fb b4).fb b6)
  refine WL.storeF1 (x' := _) (hs86.fr L81) ho83 Tryz.sizeOf3 rfl rfl rfl rfl rfl rfl rfl rfl rfl ?_ rfl (fun L87 whs88 hs88 ho89 _ => ?_)
  · first | omega | (simp; done) | (simp; omega) | omega
  replace hs88 := St.back [_, _, _] hs88
  refine WL.nil (hK8 _ _ (WC.sr (WL.r 1 hs88 [2] rfl ?_)))
  refine WL.val rfl rfl rfl (Run.build rfl rfl rfl rfl (built_59)) (WL.st tbk hs88 1 rfl rfl (fun _ hs90 => WL.st tbk hs90 0 rfl rfl (fun _ hs91 => WL.nil (WC.ret (retV2 rfl (resV.cellA tbk hs91 1 rfl rfl rfl rfl) (resV.cellA tbk hs91 0 rfl rfl rfl rfl) ?_)))))
  have hv : vpCsi p.dat b = (vpDigit p.dat (b - 48), act0) := by unfold vpCsi; rw [if_neg hc1, if_pos hc2]
  obtain ⟨L93, hs92, ho94⟩ := ownVpR.fl hs91 ho89 ho84
  have hs95 := (((hs92.fb b2).fb b4).fb b6)
  refine ⟨⟨p.State, p.Mark, SlD.of ho89, SlD.of ho84⟩, _, ⟨0, 0, false, ⟨none, 0, 0, []⟩⟩, _, rfl, (St.drop ((hs95.fr ([] : Hp)).fr L93) (List.Sublist.append_left (List.sublist_append_left ([] : Hp) _) L93)), ?_, ?_, ?_, ?_⟩
  · exact (by exact ho94)
  · exact (OwnF.nil _ _)
  · rw [hv, vpDigit_B (show ¬ p.dat.Args.length = 0 from (by omega : ¬ p.Args.xs.length = 0))]; exact VpD.ext' rfl rfl (by have e9 : ((p.Args.n : Int) - 1).toNat = p.Args.xs.length - 1 := (by omega); show (p.Args.xs.set _ _ : List Int) = _; show _ = p.Args.xs.set (p.Args.xs.length - 1) (min 9999 (10 * gat encI p.Args.xs (p.Args.xs.length - 1) + (b - 48))); have e10 : gat encI p.Args.xs ((p.Args.n : Int) - 1).toNat = gat encI p.Args.xs (p.Args.xs.length - 1) := (by rw [e9]); rw [e9]; congr 1; omega) rfl
  · rw [hv]; first | done | rfl
 have hc2 : ¬ (48 ≤ b ∧ b ≤ 57) := by first | omega | (simp at qh24; omega)
 refine WC.r1 hs7 [] rfl (WC.cD rfl (fun qh97 => ?_) (fun qh97 => ?_))
 ·have hc3 : b = 59 := by first | omega | (simp at qh97; omega)
  refine WC.seq (fun K98 hK98 => WC.r1 hs7 [2] rfl ?_)
  refine WC.cD rfl (fun qh99 => ?_) (fun qh99 => ?_)
  ·refine WC.region (WL.r 2 hs7 [2] rfl (WL.buildSlice hs7 Tryz.runUnderlying23 Tryz.sizeOf3 Tryz.zeroValue3 rfl rfl rfl rfl rfl rfl rfl rfl rfl rfl (fun b100 whs101 hs101 => ?_)))
   obtain ⟨L102, L103, hs106, ho104, ho105⟩ := ownVpR.op hs101 o_p
   have hs107 := ((((hs106.fb b2).fb b4).fb b6).fb b100)
   refine WL.appendG (hs107.fr L102) ho104 (srcI1 Tryz.underlying23 (hs107.own _ (nthL_mem (i := 0) rfl)).1) Tryz.underlying23 inf3 rfl rfl rfl rfl rfl rfl rfl rfl rfl rfl ?_ (fun A111 c112 L108 whs109 hs109 ho110 => ?_)
   · first | omega | (simp; done) | (simp; omega) | omega
   replace hs109 := St.back [_, _, _, _] hs109
   refine WL.r 1 hs109 [] rfl (WL.st tbk hs109 3 rfl rfl (fun _ hs113 => WL.nil (hK98 _ _ (WC.r1 hs113 [3] rfl ?_))))
   refine WC.cD rfl (fun qh114 => ?_) (fun qh114 => ?_)
   ·refine WC.region (WL.r 1 hs113 [] rfl (WL.st tbk hs113 3 rfl rfl (fun _ hs115 => WL.nil (hK8 _ _ (WC.sr (WL.r 1 hs115 [3] rfl ?_))))))
    refine WL.val rfl rfl rfl (Run.build rfl rfl rfl rfl (built_59)) (WL.st tbk hs115 2 rfl rfl (fun _ hs116 => WL.st tbk hs116 1 rfl rfl (fun _ hs117 => WL.nil (WC.ret (retV2 rfl (resV.cellA tbk hs117 2 rfl rfl rfl rfl) (resV.cellA tbk hs117 1 rfl rfl rfl rfl) ?_)))))
    exfalso
    simp at qh114 <;> omega
   refine WC.region (WL.r 2 hs113 [3] rfl (WL.buildSlice hs113 Tryz.runUnderlying23 Tryz.sizeOf3 Tryz.zeroValue3 rfl rfl rfl rfl rfl rfl rfl rfl rfl rfl (fun b118 whs119 hs119 => ?_)))
   refine WL.appendG (hs119.fr L108) ho110 (srcI1 Tryz.underlying23 (hs119.own _ (nthL_mem (i := 0) rfl)).1) Tryz.underlying23 inf3 rfl rfl rfl rfl rfl rfl rfl rfl rfl rfl ?_ (fun A123 c124 L120 whs121 hs121 ho122 => ?_)
   · first | omega | (simp; done) | (simp; omega) | omega
   replace hs121 := St.back [_, _, _, _, _] hs121
   refine WL.r 1 hs121 [] rfl (WL.st tbk hs121 4 rfl rfl (fun _ hs125 => WL.nil (hK8 _ _ (WC.sr (WL.r 1 hs125 [4] rfl ?_)))))
   refine WL.val rfl rfl rfl (Run.build rfl rfl rfl rfl (built_59)) (WL.st tbk hs125 3 rfl rfl (fun _ hs126 => WL.st tbk hs126 2 rfl rfl (fun _ hs127 => WL.nil (WC.ret (retV2 rfl (resV.cellA tbk hs127 3 rfl rfl rfl rfl) (resV.cellA tbk hs127 2 rfl rfl rfl rfl) ?_)))))
   have hv : vpCsi p.dat b = (vpNext p.dat, act0) := by unfold vpCsi; rw [if_neg hc1, if_neg hc2, if_pos hc3]
   have hnil : p.Args.xs = [] := List.eq_nil_of_length_eq_zero (by omega)
   obtain ⟨L129, hs128, ho130⟩ := ownVpR.fl hs127 ho122 ho105
   have hs131 := (((((hs128.fb b2).fb b4).fb b6).fb b100).fb b118)
   refine ⟨⟨p.State, p.Mark, SlD.of ho122, SlD.of ho105⟩, _, ⟨0, 0, false, ⟨none, 0, 0, []⟩⟩, _, rfl, (St.drop ((hs131.fr ([] : Hp)).fr L129) (List.Sublist.append_left (List.sublist_append_left ([] : Hp) _) L129)), ?_, ?_, ?_, ?_⟩
   · exact (by exact ho130)
   · exact (OwnF.nil _ _)
   · rw [hv, vpNext_A (show p.dat.Args.length = 0 from (by omega : p.Args.xs.length = 0))]; exact VpD.ext' rfl rfl (by show (p.Args.xs ++ [0]) ++ [0] = _; rw [hnil]; rfl) rfl
   · rw [hv]; first | done | rfl
  refine WC.skip (hK98 _ _ (WC.r1 hs7 [2] rfl ?_))
  refine WC.cD rfl (fun qh133 => ?_) (fun qh133 => ?_)
  ·refine WC.region (WL.r 1 hs7 [] rfl (WL.st tbk hs7 2 rfl rfl (fun _ hs134 => WL.nil (hK8 _ _ (WC.sr (WL.r 1 hs134 [2] rfl ?_))))))
   refine WL.val rfl rfl rfl (Run.build rfl rfl rfl rfl (built_59)) (WL.st tbk hs134 1 rfl rfl (fun _ hs135 => WL.st tbk hs135 0 rfl rfl (fun _ hs136 => WL.nil (WC.ret (retV2 rfl (resV.cellA tbk hs136 1 rfl rfl rfl rfl) (resV.cellA tbk hs136 0 rfl rfl rfl rfl) ?_)))))
   have hv : vpCsi p.dat b = (vpNext p.dat, act0) := by unfold vpCsi; rw [if_neg hc1, if_neg hc2, if_pos hc3]
   obtain ⟨L137, L138, hs141, ho139, ho140⟩ := ownVpR.op hs136 o_p
   have hs142 := (((hs141.fb b2).fb b4).fb b6)
   obtain ⟨L144, hs143, ho145⟩ := ownVpR.fl hs142 ho139 ho140
   have hs146 := (((hs143.fb b2).fb b4).fb b6)
   refine ⟨⟨(3), p.Mark, SlD.of ho139, SlD.of ho140⟩, _, ⟨0, 0, false, ⟨none, 0, 0, []⟩⟩, _, rfl, (St.drop ((hs146.fr ([] : Hp)).fr L144) (List.Sublist.append_left (List.sublist_append_left ([] : Hp) _) L144)), ?_, ?_, ?_, ?_⟩
   · exact (by exact ho145)
   · exact (OwnF.nil _ _)
   · rw [hv, vpNext_D (show p.dat.Args.length = 8 from (by omega : p.Args.xs.length = 8))]; rfl
   · rw [hv]; first | done | rfl
  refine WC.region (WL.r 2 hs7 [2] rfl (WL.buildSlice hs7 Tryz.runUnderlying23 Tryz.sizeOf3 Tryz.zeroValue3 rfl rfl rfl rfl rfl rfl rfl rfl rfl rfl (fun b148 whs149 hs149 => ?_)))
  obtain ⟨L150, L151, hs154, ho152, ho153⟩ := ownVpR.op hs149 o_p
  have hs155 := ((((hs154.fb b2).fb b4).fb b6).fb b148)
  refine WL.appendG (hs155.fr L150) ho152 (srcI1 Tryz.underlying23 (hs155.own _ (nthL_mem (i := 0) rfl)).1) Tryz.underlying23 inf3 rfl rfl rfl rfl rfl rfl rfl rfl rfl rfl ?_ (fun A159 c160 L156 whs157 hs157 ho158 => ?_)
  · first | omega | (simp; done) | (simp; omega) | omega
  replace hs157 := St.back [_, _, _, _] hs157
  refine WL.r 1 hs157 [] rfl (WL.st tbk hs157 3 rfl rfl (fun _ hs161 => WL.nil (hK8 _ _ (WC.sr (WL.r 1 hs161 [3] rfl ?_)))))
  refine WL.val rfl rfl rfl (Run.build rfl rfl rfl rfl (built_59)) (WL.st tbk hs161 2 rfl rfl (fun _ hs162 => WL.st tbk hs162 1 rfl rfl (fun _ hs163 => WL.nil (WC.ret (retV2 rfl (resV.cellA tbk hs163 2 rfl rfl rfl rfl) (resV.cellA tbk hs163 1 rfl rfl rfl rfl) ?_)))))
  have hv : vpCsi p.dat b = (vpNext p.dat, act0) := by unfold vpCsi; rw [if_neg hc1, if_neg hc2, if_pos hc3]
  obtain ⟨L165, hs164, ho166⟩ := ownVpR.fl hs163 ho158 ho153
  have hs167 := ((((hs164.fb b2).fb b4).fb b6).fb b148)
  refine ⟨⟨p.State, p.Mark, SlD.of ho158, SlD.of ho153⟩, _, ⟨0, 0, false, ⟨none, 0, 0, []⟩⟩, _, rfl, (St.drop ((hs167.fr ([] : Hp)).fr L165) (List.Sublist.append_left (List.sublist_append_left ([] : Hp) _) L165)), ?_, ?_, ?_, ?_⟩
  · exact (by exact ho166)
  · exact (OwnF.nil _ _)
  · rw [hv, vpNext_B (show ¬ p.dat.Args.length = 0 from (by omega : ¬ p.Args.xs.length = 0)) (show p.dat.Args.length + 1 ≤ 8 from (by omega : p.Args.xs.length + 1 ≤ 8))]; rfl
  · rw [hv]; first | done | rfl
 have hc3 : ¬ (b = 59) := by first | omega | (simp at qh97; omega)
 refine WC.sr (WL.r 3 hs7 [] rfl (WL.pA tbk 2 Acts.nil hs7 [] rfl rfl rfl rfl (fun g_ => trivial) (WL.r 1 hs7 [] rfl (WL.nil (WC.cq rfl (fun h169 qh169 => ?_) (fun h169 qh169 => ?_))))))
 ·have hc4 : 64 ≤ b ∧ b ≤ 126 := by first | omega | (simp at qh169; omega)
  refine WC.seq (fun K170 hK170 => WC.rH hs7.d1.d1 hs7 (fun _ hs171 => ?_))
  refine WH.take 0 rfl (by kernel_rfl) rfl rfl rfl hs171.d1.d1 (fun w_ hs_ => (Run.build rfl rfl rfl rfl (built_25))) ?_
  refine WH.rn [1, 2, 3, 4, 5] hs171.d1.d1 [0, 0] rfl rfl ?_
  refine WH.take 6 rfl (by kernel_rfl) rfl rfl rfl hs171.d1.d1 (fun w_ hs_ => (Run.build rfl rfl rfl rfl (built_59_0_1_2_3 _ _ _ _ _ _))) ?_
  refine WH.o1 7 rfl (WL.st tbk hs171 1 rfl rfl (fun _ hs172 => WL.nil ⟨hs172.d1.d1, WH.o1 8 rfl (WL.st tbk hs172 0 rfl rfl (fun _ hs173 => WL.nil ⟨hs173.d1.d1, WH.dn (hK170 _ _ ?_)⟩))⟩))
  refine WC.ret (ibR (tkR ?_))
  clear hK8
  refine retV2 rfl (resV.cellA tbk hs173 1 rfl rfl rfl rfl) (resV.cellA tbk hs173 0 rfl rfl rfl rfl) ?_
  have hv : vpCsi p.dat b = (vp0, ⟨4, b, p.dat.Mark, p.dat.Args⟩) := by unfold vpCsi; rw [if_neg hc1, if_neg hc2, if_neg hc3, if_pos hc4]
  obtain ⟨L177, hs176, ho178⟩ := ownVpR.fl hs173 (OwnF.nil _ _) (OwnF.nil _ _)
  have hs179 := (((hs176.fb b2).fb b4).fb b6)
  obtain ⟨L180, L181, hs184, ho182, ho183⟩ := ownVpR.op hs179 o_p
  have hs185 := (((hs184.fb b2).fb b4).fb b6)
  refine ⟨⟨0, false, ⟨none, 0, 0, []⟩, ⟨none, 0, 0, []⟩⟩, _, ⟨(4), b, p.Mark, SlD.of ho182⟩, _, rfl, (St.drop ((hs185.fr L180).fr L177) (List.Sublist.append_left (List.sublist_append_left L180 _) L177)), ?_, ?_, ?_, ?_⟩
  · exact (by exact ho178)
  · exact ho182
  · rw [hv]; rfl
  · rw [hv]; rfl
 have hc4 : ¬ (64 ≤ b ∧ b ≤ 126) := by first | omega | (simp at qh169; omega)
 refine WC.sr (WL.r 3 hs7 [] rfl (WL.pO tbk 2 Acts.nil hs7 [] rfl rfl rfl rfl (fun g_ => trivial) (WL.r 1 hs7 [] rfl (WL.nil (WC.cq rfl (fun h186 qh186 => ?_) (fun h186 qh186 => ?_))))))
 ·have hc5 : b < 32 ∨ b = 127 := by first | omega | (simp at qh186; omega)
  refine WC.sr (WL.r 2 hs7 [2] rfl ?_)
  refine WL.val rfl rfl rfl (Run.build rfl rfl rfl rfl (built_59_0_1 _ _)) (WL.st tbk hs7 1 rfl rfl (fun _ hs187 => WL.st tbk hs187 0 rfl rfl (fun _ hs188 => WL.nil (WC.ret (ibR (tkR ?_))))))
  clear hK8
  refine retV2 rfl (resV.cellA tbk hs188 1 rfl rfl rfl rfl) (resV.cellA tbk hs188 0 rfl rfl rfl rfl) ?_
  have hv : vpCsi p.dat b = (p.dat, ⟨2, b, false, []⟩) := by unfold vpCsi; rw [if_neg hc1, if_neg hc2, if_neg hc3, if_neg hc4, if_pos hc5]
  refine ⟨p, _, ⟨(2), b, false, ⟨none, 0, 0, []⟩⟩, _, rfl, (St.drop ((hs188.fr ([] : Hp)).fr L_p) (List.Sublist.append_left (List.sublist_append_left ([] : Hp) _) L_p)), ?_, ?_, ?_, ?_⟩
  · exact o_p
  · exact (OwnF.nil _ _)
  · rw [hv]; first | done | rfl
  · rw [hv]; first | done | rfl
 have hc5 : ¬ (b < 32 ∨ b = 127) := by first | omega | (simp at qh186; omega)
 refine WC.region (WL.r 1 hs7 [] rfl (WL.st tbk hs7 2 rfl rfl (fun _ hs190 => WL.nil (hK8 _ _ (WC.sr (WL.r 1 hs190 [2] rfl ?_))))))
 refine WL.val rfl rfl rfl (Run.build rfl rfl rfl rfl (built_59)) (WL.st tbk hs190 1 rfl rfl (fun _ hs191 => WL.st tbk hs191 0 rfl rfl (fun _ hs192 => WL.nil (WC.ret (retV2 rfl (resV.cellA tbk hs192 1 rfl rfl rfl rfl) (resV.cellA tbk hs192 0 rfl rfl rfl rfl) ?_)))))
 have hv : vpCsi p.dat b = ({ p.dat with State := 3 }, act0) := by unfold vpCsi; rw [if_neg hc1, if_neg hc2, if_neg hc3, if_neg hc4, if_neg hc5]
 obtain ⟨L193, L194, hs197, ho195, ho196⟩ := ownVpR.op hs192 o_p
 have hs198 := (((hs197.fb b2).fb b4).fb b6)
 obtain ⟨L200, hs199, ho201⟩ := ownVpR.fl hs198 ho195 ho196
 have hs202 := (((hs199.fb b2).fb b4).fb b6)
 refine ⟨⟨(3), p.Mark, SlD.of ho195, SlD.of ho196⟩, _, ⟨0, 0, false, ⟨none, 0, 0, []⟩⟩, _, rfl, (St.drop ((hs202.fr ([] : Hp)).fr L200) (List.Sublist.append_left (List.sublist_append_left ([] : Hp) _) L200)), ?_, ?_, ?_, ?_⟩
 · exact (by exact ho201)
 · exact (OwnF.nil _ _)
 · rw [hv]; rfl
 · rw [hv]; first | done | rfl
theorem k182_ (p : VpR) (b : Int) (w : World) (f_p : okVpR 549755813888 w p) (hsm : smVp 1048576 p.dat) :
    Calls Tryz.prog 167 #[.agg #[i64 p.State, .bool p.Mark, .slice p.Args.A p.Args.n p.Args.c, .slice p.Part.A p.Part.n p.Part.c], i64 b] w fun e w' => ∃ r0 L0 r1 L1, e = .returned (.tuple #[.agg #[i64 r0.State, .bool r0.Mark, .slice r0.Args.A r0.Args.n r0.Args.c, .slice r0.Part.A r0.Part.n r0.Part.c], .agg #[i64 r1.Kind, i64 r1.R, .bool r1.Mark, .slice r1.Args.A r1.Args.n r1.Args.c]]) ∧ St w [] (L0 ++ L1) w' ∧ ownVpR r0 L0 ∧ ownActR r1 L1 ∧ r0.dat = (vpByte p.dat b).1 ∧ r1.dat = (vpByte p.dat b).2 := by
 have nb_p_Args := f_p.Args_n
 have nl_p_Args := f_p.Args.len
 have nb_p_Part := f_p.Part_n
 have nl_p_Part := f_p.Part.len
 have hsB : smVp 549755813888 p.dat := ⟨Nat.le_trans hsm.1 (by decide), Nat.le_trans hsm.2 (by decide)⟩
 have hsa : p.Args.xs.length ≤ 1048576 := hsm.1
 have hsp : p.Part.xs.length ≤ 1048576 := hsm.2
 refine enter 78 Tryz.func167 rfl Tryz.ntmps167 rfl rfl ?_
 have hs1 := St.init w
 refine WC.sr (WL.bx hs1 rfl (fun b2 _ hs3 => WL.al hs3 Tryz.zeroValue25 rfl rfl (fun b4 _ hs5 => WL.al hs5 Tryz.zeroValue59 rfl rfl (fun b6 _ hs7 => WL.nil (WC.seq (fun K8 hK8 => WC.sr (WL.r 1 hs7 [2] rfl ?_)))))))
 refine WL.cl Tryz.call165 rfl (k116_ p _ (okVpR.st0 f_p hs7)) ?_
 rintro _ whs9 ⟨rfl, hs9⟩
 replace hs9 := hs7.call0 hs9
 refine ⟨_, rfl, WL.r 2 hs9 [] rfl (WL.pO tbk 2 Acts.nil hs9 [] rfl rfl rfl rfl (fun g_ => trivial) (WL.r 1 hs9 [] rfl (WL.pO tbk 2 Acts.nil hs9 [] rfl rfl rfl rfl (fun g_ => trivial) (WL.nil (WC.cq rfl (fun h10 qh10 => ?_) (fun h10 qh10 => ?_))))))⟩
 ·have k0 : ¬ (vpOk p.dat = true ∧ 0 ≤ b ∧ b ≤ 255) := by rintro ⟨h1, h2⟩; rw [h1] at qh10; simp at qh10; omega
  refine WC.sr ?_
  refine WL.val rfl rfl rfl (Run.build rfl rfl rfl rfl (built_25)) ?_
  refine WL.val rfl rfl rfl (Run.build rfl rfl rfl rfl (built_59)) (WL.st tbk hs9 1 rfl rfl (fun _ hs11 => WL.st tbk hs11 0 rfl rfl (fun _ hs12 => WL.nil (WC.ret (tkR ?_)))))
  clear hK8
  refine retV2 rfl (resV.cellA tbk hs12 1 rfl rfl rfl rfl) (resV.cellA tbk hs12 0 rfl rfl rfl rfl) ?_
  have hv : vpByte p.dat b = (vp0, act0) := by unfold vpByte; rw [if_neg k0]
  obtain ⟨L16, hs15, ho17⟩ := ownVpR.fl hs12 (OwnF.nil _ _) (OwnF.nil _ _)
  have hs18 := (((hs15.fb b2).fb b4).fb b6)
  refine ⟨⟨0, false, ⟨none, 0, 0, []⟩, ⟨none, 0, 0, []⟩⟩, _, ⟨0, 0, false, ⟨none, 0, 0, []⟩⟩, _, rfl, (St.drop ((hs18.fr ([] : Hp)).fr L16) (List.Sublist.append_left (List.sublist_append_left ([] : Hp) _) L16)), ?_, ?_, ?_, ?_⟩
  · exact (by exact ho17)
  · exact (OwnF.nil _ _)
  · rw [hv]; first | done | rfl
  · rw [hv]; first | done | rfl
 have k0 : vpOk p.dat = true ∧ 0 ≤ b ∧ b ≤ 255 := by first | exact qh10 | (simp at qh10; exact ⟨qh10.1.1, by omega⟩)
 have hok := k0.1
 have hb := k0.2
 have hb1 : vpByte p.dat b = vpStep p.dat b := by unfold vpByte; rw [if_pos k0]
 refine WC.skip (hK8 _ _ (WC.seq (fun K20 hK20 => WC.r1 hs9 [] rfl ?_)))
 refine WC.cD rfl (fun qh21 => ?_) (fun qh21 => ?_)
 ·have k1 : b = 27 := by first | exact qh21 | omega | (simp at qh21; omega)
  refine WC.sr ?_
  refine WL.val rfl rfl rfl (Run.build rfl rfl rfl rfl (built_25_0 _)) ?_
  refine WL.val rfl rfl rfl (Run.build rfl rfl rfl rfl (built_59)) (WL.st tbk hs9 1 rfl rfl (fun _ hs22 => WL.st tbk hs22 0 rfl rfl (fun _ hs23 => WL.nil (WC.ret (tkR ?_)))))
  clear hK20
  refine retV2 rfl (resV.cellA tbk hs23 1 rfl rfl rfl rfl) (resV.cellA tbk hs23 0 rfl rfl rfl rfl) ?_
  have hv : vpStep p.dat b = (⟨1, false, [], []⟩, act0) := by unfold vpStep; rw [if_pos k1]
  obtain ⟨L27, hs26, ho28⟩ := ownVpR.fl hs23 (OwnF.nil _ _) (OwnF.nil _ _)
  have hs29 := (((hs26.fb b2).fb b4).fb b6)
  refine ⟨⟨(1), false, ⟨none, 0, 0, []⟩, ⟨none, 0, 0, []⟩⟩, _, ⟨0, 0, false, ⟨none, 0, 0, []⟩⟩, _, rfl, (St.drop ((hs29.fr ([] : Hp)).fr L27) (List.Sublist.append_left (List.sublist_append_left ([] : Hp) _) L27)), ?_, ?_, ?_, ?_⟩
  · exact (by exact ho28)
  · exact (OwnF.nil _ _)
  · rw [hb1, hv]; first | exact rfl | rfl
  · rw [hb1, hv]; first | exact rfl | rfl
 have k1 : ¬ (b = 27) := by first | exact qh21 | omega | (simp at qh21; omega)
 refine WC.skip (hK20 _ _ (WC.seq (fun K31 hK31 => WC.sr (WL.r 3 hs9 [] rfl (WL.pO tbk 2 Acts.nil hs9 [] rfl rfl rfl rfl (fun g_ => trivial) (WL.nil ?_))))))
 refine WC.cq rfl (fun h32 qh32 => ?_) (fun h32 qh32 => ?_)
 ·have k2 : b = 24 ∨ b = 26 := by first | exact qh32 | omega | (simp at qh32; omega)
  refine WC.sr ?_
  refine WL.val rfl rfl rfl (Run.build rfl rfl rfl rfl (built_25)) ?_
  refine WL.val rfl rfl rfl (Run.build rfl rfl rfl rfl (built_59)) (WL.st tbk hs9 1 rfl rfl (fun _ hs33 => WL.st tbk hs33 0 rfl rfl (fun _ hs34 => WL.nil (WC.ret (tkR ?_)))))
  clear hK31
  refine retV2 rfl (resV.cellA tbk hs34 1 rfl rfl rfl rfl) (resV.cellA tbk hs34 0 rfl rfl rfl rfl) ?_
  have hv : vpStep p.dat b = (vp0, act0) := by unfold vpStep; rw [if_neg k1, if_pos k2]
  obtain ⟨L38, hs37, ho39⟩ := ownVpR.fl hs34 (OwnF.nil _ _) (OwnF.nil _ _)
  have hs40 := (((hs37.fb b2).fb b4).fb b6)
  refine ⟨⟨0, false, ⟨none, 0, 0, []⟩, ⟨none, 0, 0, []⟩⟩, _, ⟨0, 0, false, ⟨none, 0, 0, []⟩⟩, _, rfl, (St.drop ((hs40.fr ([] : Hp)).fr L38) (List.Sublist.append_left (List.sublist_append_left ([] : Hp) _) L38)), ?_, ?_, ?_, ?_⟩
  · exact (by exact ho39)
  · exact (OwnF.nil _ _)
  · rw [hb1, hv]; first | exact rfl | rfl
  · rw [hb1, hv]; first | exact rfl | rfl
 have k2 : ¬ (b = 24 ∨ b = 26) := by first | exact qh32 | omega | (simp at qh32; omega)
 refine WC.skip (hK31 _ _ (WC.sr (WL.r 1 hs9 [2] rfl ?_)))
 refine WL.cl Tryz.call166 rfl (k144_ p _ (okVpR.st0 f_p hs9) ?_) ?_
 · first | assumption | rfl | omega | (rw [rfl]; assumption) | (simp; omega)
 rintro _ whs42 ⟨r43, L1_44, rfl, hs42, ho45, hd46⟩
 replace hs42 := hs9.callF hs42
 refine ⟨_, rfl, ?_⟩
 replace hs42 := St.back [_, _, _] hs42
 skip
 refine WL.al hs42 Tryz.zeroValue25 rfl rfl (fun b47 _ hs48 => WL.st tbk hs48 0 rfl rfl (fun _ hs49 => WL.nil (WC.seq (fun K50 hK50 => WC.r1 hs49 [3] rfl (WC.block (WC.r1 hs49 [] rfl ?_))))))
 refine WC.cD rfl (fun qh51 => ?_) (fun qh51 => ?_)
 ·have k3 : p.dat.State = 0 := by show p.State = 0; first | exact qh51 | omega | (simp at qh51; omega)
  refine WC.sr (WL.r 3 hs49 [3] rfl (WL.cl Tryz.call221 rfl (k145_ _ _ _ _ _ _ (SlF.st0 f_p.Part hs49) ?_) ?_))
  · first | assumption | rfl | omega | (rw [hd46]; assumption) | (simp; omega)
  rintro _ whs52 ⟨r0_53, L0_54, r1_55, L1_56, rfl, hs52, ho57, ho58, hd0_59, hd1_60⟩
  replace hs52 := hs49.callF hs52
  refine ⟨_, rfl, ?_⟩
  replace hs52 := St.assoc hs52
  replace hs52 := St.back2 [_, _, _, _] hs52
  refine WL.r 2 hs52 [] rfl (WL.st tbk hs52 2 rfl rfl (fun _ hs61 => WL.st tbk hs61 1 rfl rfl (fun _ hs62 => WL.nil (WC.ret (ibR (tkR ?_))))))
  clear hK50
  refine retV2 rfl (resV.cellA tbk hs62 2 rfl rfl rfl rfl) (resV.cellA tbk hs62 1 rfl rfl rfl rfl) ?_
  have hv : vpStep p.dat b = vpPlain p.dat.Part b := by unfold vpStep; rw [if_neg k1, if_neg k2, if_pos k3]
  refine ⟨r0_53, _, r1_55, _, rfl, (St.drop ((hs62.fr L1_56).fr L0_54) (List.Sublist.append_left (List.sublist_append_left L1_56 _) L0_54)), ?_, ?_, ?_, ?_⟩
  · exact ho57
  · exact ho58
  · rw [hb1, hv]; first | exact hd0_59 | rfl
  · rw [hb1, hv]; first | exact hd1_60 | rfl
 have k3 : ¬ (p.dat.State = 0) := by show ¬ (p.State = 0); first | exact qh51 | omega | (simp at qh51; omega)
 refine WC.r1 hs49 [] rfl (WC.cD rfl (fun qh63 => ?_) (fun qh63 => ?_))
 ·have k4 : p.dat.State = 1 := by show p.State = 1; first | exact qh63 | omega | (simp at qh63; omega)
  refine WC.seq (fun K64 hK64 => WC.r1 hs49 [] rfl ?_)
  refine WC.cD rfl (fun qh65 => ?_) (fun qh65 => ?_)
  ·have k5 : b = 91 := by first | exact qh65 | omega | (simp at qh65; omega)
   refine WC.sr ?_
   refine WL.val rfl rfl rfl (Run.build rfl rfl rfl rfl (built_25_0 _)) ?_
   refine WL.val rfl rfl rfl (Run.build rfl rfl rfl rfl (built_59)) (WL.st tbk hs49 2 rfl rfl (fun _ hs66 => WL.st tbk hs66 1 rfl rfl (fun _ hs67 => WL.nil (WC.ret (tkR (ibR (tkR ?_)))))))
   clear hK64 hK50
   refine retV2 rfl (resV.cellA tbk hs67 2 rfl rfl rfl rfl) (resV.cellA tbk hs67 1 rfl rfl rfl rfl) ?_
   have hv : vpStep p.dat b = (⟨2, false, [], []⟩, act0) := by unfold vpStep; rw [if_neg k1, if_neg k2, if_neg k3, if_pos k4, if_pos k5]
   obtain ⟨L71, hs70, ho72⟩ := ownVpR.fl hs67 (OwnF.nil _ _) (OwnF.nil _ _)
   have hs73 := ((((hs70.fb b2).fb b4).fb b6).fb b47)
   refine ⟨⟨(2), false, ⟨none, 0, 0, []⟩, ⟨none, 0, 0, []⟩⟩, _, ⟨0, 0, false, ⟨none, 0, 0, []⟩⟩, _, rfl, (St.drop ((hs73.fr ([] : Hp)).fr L71) (List.Sublist.append_left (List.sublist_append_left ([] : Hp) _) L71)), ?_, ?_, ?_, ?_⟩
   · exact (by exact ho72)
   · exact (OwnF.nil _ _)
   · rw [hb1, hv]; first | exact rfl | rfl
   · rw [hb1, hv]; first | exact rfl | rfl
  have k5 : ¬ (b = 91) := by first | exact qh65 | omega | (simp at qh65; omega)
  refine WC.skip (hK64 _ _ (WC.seq (fun K75 hK75 => WC.sr (WL.r 3 hs49 [] rfl (WL.pA tbk 2 Acts.nil hs49 [] rfl rfl rfl rfl (fun g_ => trivial) (WL.nil ?_))))))
  refine WC.cq rfl (fun h76 qh76 => ?_) (fun h76 qh76 => ?_)
  ·have k6 : 48 ≤ b ∧ b ≤ 126 := by first | exact qh76 | omega | (simp at qh76; omega)
   refine WC.sr ?_
   refine WL.val rfl rfl rfl (Run.build rfl rfl rfl rfl (built_25)) (WL.r 1 hs49 [] rfl ?_)
   refine WL.val rfl rfl rfl (Run.build rfl rfl rfl rfl (built_59_0_1 _ _)) (WL.st tbk hs49 2 rfl rfl (fun _ hs77 => WL.st tbk hs77 1 rfl rfl (fun _ hs78 => WL.nil (WC.ret (tkR (ibR (tkR ?_)))))))
   clear hK75 hK50
   refine retV2 rfl (resV.cellA tbk hs78 2 rfl rfl rfl rfl) (resV.cellA tbk hs78 1 rfl rfl rfl rfl) ?_
   have hv : vpStep p.dat b = (vp0, ⟨3, b, false, []⟩) := by unfold vpStep; rw [if_neg k1, if_neg k2, if_neg k3, if_pos k4, if_neg k5, if_pos k6]
   obtain ⟨L82, hs81, ho83⟩ := ownVpR.fl hs78 (OwnF.nil _ _) (OwnF.nil _ _)
   have hs84 := ((((hs81.fb b2).fb b4).fb b6).fb b47)
   refine ⟨⟨0, false, ⟨none, 0, 0, []⟩, ⟨none, 0, 0, []⟩⟩, _, ⟨(3), b, false, ⟨none, 0, 0, []⟩⟩, _, rfl, (St.drop ((hs84.fr ([] : Hp)).fr L82) (List.Sublist.append_left (List.sublist_append_left ([] : Hp) _) L82)), ?_, ?_, ?_, ?_⟩
   · exact (by exact ho83)
   · exact (OwnF.nil _ _)
   · rw [hb1, hv]; first | exact rfl | rfl
   · rw [hb1, hv]; first | exact rfl | rfl
  have k6 : ¬ (48 ≤ b ∧ b ≤ 126) := by first | exact qh76 | omega | (simp at qh76; omega)
  refine WC.skip (hK75 _ _ (WC.sr ?_))
  refine WL.val rfl rfl rfl (Run.build rfl rfl rfl rfl (built_25)) ?_
  refine WL.val rfl rfl rfl (Run.build rfl rfl rfl rfl (built_59)) (WL.st tbk hs49 2 rfl rfl (fun _ hs86 => WL.st tbk hs86 1 rfl rfl (fun _ hs87 => WL.nil (WC.ret (ibR (tkR ?_))))))
  clear hK50
  refine retV2 rfl (resV.cellA tbk hs87 2 rfl rfl rfl rfl) (resV.cellA tbk hs87 1 rfl rfl rfl rfl) ?_
  have hv : vpStep p.dat b = (vp0, act0) := by unfold vpStep; rw [if_neg k1, if_neg k2, if_neg k3, if_pos k4, if_neg k5, if_neg k6]
  obtain ⟨L91, hs90, ho92⟩ := ownVpR.fl hs87 (OwnF.nil _ _) (OwnF.nil _ _)
  have hs93 := ((((hs90.fb b2).fb b4).fb b6).fb b47)
  refine ⟨⟨0, false, ⟨none, 0, 0, []⟩, ⟨none, 0, 0, []⟩⟩, _, ⟨0, 0, false, ⟨none, 0, 0, []⟩⟩, _, rfl, (St.drop ((hs93.fr ([] : Hp)).fr L91) (List.Sublist.append_left (List.sublist_append_left ([] : Hp) _) L91)), ?_, ?_, ?_, ?_⟩
  · exact (by exact ho92)
  · exact (OwnF.nil _ _)
  · rw [hb1, hv]; first | exact rfl | rfl
  · rw [hb1, hv]; first | exact rfl | rfl
 have k4 : ¬ (p.dat.State = 1) := by show ¬ (p.State = 1); first | exact qh63 | omega | (simp at qh63; omega)
 refine WC.r1 hs49 [] rfl (WC.cD rfl (fun qh95 => ?_) (fun qh95 => ?_))
 ·have k7 : p.dat.State = 2 := by show p.State = 2; first | exact qh95 | omega | (simp at qh95; omega)
  have hoa : areArgs p.dat.Args = true := by have h_ := hok; rw [vpOk_csi (.inl k7), Bool.and_eq_true] at h_; exact h_.1
  refine WC.sr (WL.r 2 hs49 [0] rfl (WL.cl Tryz.call222 rfl (k181_ r43 _ _ _ ho45 (hs49.ow L1_44) (St.nodupL (hs49.fr L1_44)) ?_ ?_ ?_) ?_))
  iterate 3 first | assumption | rfl | omega | (rw [hd46]; assumption) | (simp; omega)
  rintro _ whs96 ⟨r0_97, L0_98, r1_99, L1_100, rfl, hs96, ho101, ho102, hd0_103, hd1_104⟩
  replace hs96 := St.lend (hs49.fr L1_44) hs96
  refine ⟨_, rfl, ?_⟩
  replace hs96 := St.assoc hs96
  replace hs96 := St.back2 [_, _, _, _] hs96
  refine WL.r 2 hs96 [] rfl (WL.st tbk hs96 2 rfl rfl (fun _ hs105 => WL.st tbk hs105 1 rfl rfl (fun _ hs106 => WL.nil (WC.ret (ibR (tkR ?_))))))
  clear hK50
  refine retV2 rfl (resV.cellA tbk hs106 2 rfl rfl rfl rfl) (resV.cellA tbk hs106 1 rfl rfl rfl rfl) ?_
  have hv : vpStep p.dat b = vpCsi p.dat b := by unfold vpStep; rw [if_neg k1, if_neg k2, if_neg k3, if_neg k4, if_pos k7]
  refine ⟨r0_97, _, r1_99, _, rfl, (St.drop ((hs106.fr L1_100).fr L0_98) (List.Sublist.append_left (List.sublist_append_left L1_100 _) L0_98)), ?_, ?_, ?_, ?_⟩
  · exact ho101
  · exact ho102
  · rw [hb1, hv]; rw [hd46] at hd0_103; exact hd0_103
  · rw [hb1, hv]; rw [hd46] at hd1_104; exact hd1_104
 have k7 : ¬ (p.dat.State = 2) := by show ¬ (p.State = 2); first | exact qh95 | omega | (simp at qh95; omega)
 refine WC.skip (hK50 _ _ (WC.seq (fun K107 hK107 => WC.sr (WL.r 3 hs49 [] rfl (WL.pA tbk 2 Acts.nil hs49 [] rfl rfl rfl rfl (fun g_ => trivial) (WL.nil ?_))))))
 refine WC.cq rfl (fun h108 qh108 => ?_) (fun h108 qh108 => ?_)
 ·have k8 : 64 ≤ b ∧ b ≤ 126 := by first | exact qh108 | omega | (simp at qh108; omega)
  refine WC.sr ?_
  refine WL.val rfl rfl rfl (Run.build rfl rfl rfl rfl (built_25)) ?_
  refine WL.val rfl rfl rfl (Run.build rfl rfl rfl rfl (built_59)) (WL.st tbk hs49 2 rfl rfl (fun _ hs109 => WL.st tbk hs109 1 rfl rfl (fun _ hs110 => WL.nil (WC.ret (tkR ?_)))))
  clear hK107
  refine retV2 rfl (resV.cellA tbk hs110 2 rfl rfl rfl rfl) (resV.cellA tbk hs110 1 rfl rfl rfl rfl) ?_
  have hv : vpStep p.dat b = (vp0, act0) := by unfold vpStep; rw [if_neg k1, if_neg k2, if_neg k3, if_neg k4, if_neg k7, if_pos k8]
  obtain ⟨L114, hs113, ho115⟩ := ownVpR.fl hs110 (OwnF.nil _ _) (OwnF.nil _ _)
  have hs116 := ((((hs113.fb b2).fb b4).fb b6).fb b47)
  refine ⟨⟨0, false, ⟨none, 0, 0, []⟩, ⟨none, 0, 0, []⟩⟩, _, ⟨0, 0, false, ⟨none, 0, 0, []⟩⟩, _, rfl, (St.drop ((hs116.fr ([] : Hp)).fr L114) (List.Sublist.append_left (List.sublist_append_left ([] : Hp) _) L114)), ?_, ?_, ?_, ?_⟩
  · exact (by exact ho115)
  · exact (OwnF.nil _ _)
  · rw [hb1, hv]; first | exact rfl | rfl
  · rw [hb1, hv]; first | exact rfl | rfl
 have k8 : ¬ (64 ≤ b ∧ b ≤ 126) := by first | exact qh108 | omega | (simp at qh108; omega)
 refine WC.skip (hK107 _ _ (WC.sr (WL.r 1 hs49 [0] rfl ?_)))
 refine WL.val rfl rfl rfl (Run.build rfl rfl rfl rfl (built_59)) (WL.st tbk hs49 2 rfl rfl (fun _ hs118 => WL.st tbk hs118 1 rfl rfl (fun _ hs119 => WL.nil (WC.ret (retV2 rfl (resV.cellA tbk hs119 2 rfl rfl rfl rfl) (resV.cellA tbk hs119 1 rfl rfl rfl rfl) ?_)))))
 have hv : vpStep p.dat b = (p.dat, act0) := by unfold vpStep; rw [if_neg k1, if_neg k2, if_neg k3, if_neg k4, if_neg k7, if_neg k8]
 refine ⟨r43, _, ⟨0, 0, false, ⟨none, 0, 0, []⟩⟩, _, rfl, (St.drop ((hs119.fr ([] : Hp)).fr L1_44) (List.Sublist.append_left (List.sublist_append_left ([] : Hp) _) L1_44)), ?_, ?_, ?_, ?_⟩
 · exact ho45
 · exact (OwnF.nil _ _)
 · rw [hb1, hv]; exact hd46
 · rw [hb1, hv]; first | done | rfl
theorem k183_ (p : VpR) (A_b : Option Addr) (n_b c_b : Nat) (b : List UInt8) (w : World) (f_p : okVpR 549755813888 w p) (f_b : SlF encB w A_b n_b b) (hsm : smVp 1048576 p.dat) (hn : n_b ≤ 1048576) :
    Calls Tryz.prog 87 #[.agg #[i64 p.State, .bool p.Mark, .slice p.Args.A p.Args.n p.Args.c, .slice p.Part.A p.Part.n p.Part.c], .slice A_b n_b c_b] w fun e w' => ∃ r0 L0 A1 c1 x1 L1, e = .returned (.tuple #[.agg #[i64 r0.State, .bool r0.Mark, .slice r0.Args.A r0.Args.n r0.Args.c, .slice r0.Part.A r0.Part.n r0.Part.c], .slice A1 x1.length c1]) ∧ St w [] (L0 ++ L1) w' ∧ ownVpR r0 L0 ∧ OwnN encActR ownActR 59 (.slice A1 x1.length c1) x1 L1 ∧ r0.dat = (vpBytes p.dat b).1 ∧ x1.map ActR.dat = (vpBytes p.dat b).2 := by
 have nb_p_Args := f_p.Args_n
 have nl_p_Args := f_p.Args.len
 have nb_p_Part := f_p.Part_n
 have nl_p_Part := f_p.Part.len
 have hsB : smVp 549755813888 p.dat := ⟨Nat.le_trans hsm.1 (by decide), Nat.le_trans hsm.2 (by decide)⟩
 have hsa : p.Args.xs.length ≤ 1048576 := hsm.1
 have hsp : p.Part.xs.length ≤ 1048576 := hsm.2
 have hbl := f_b.len
 refine enter 43 Tryz.func87 rfl Tryz.ntmps87 rfl rfl ?_
 have hs1 := St.init w
 refine WC.sr (WL.bx hs1 rfl (fun b2 _ hs3 => WL.al hs3 Tryz.zeroValue25 rfl rfl (fun b4 _ hs5 => WL.r 1 hs5 [] rfl (WL.nil (WC.seq (fun K6 hK6 => WC.sr (WL.r 1 hs5 [1] rfl ?_)))))))
 refine WL.cl Tryz.call165 rfl (k116_ p _ (okVpR.st0 f_p hs5)) ?_
 rintro _ whs7 ⟨rfl, hs7⟩
 replace hs7 := hs5.call0 hs7
 refine ⟨_, rfl, WL.r 1 hs7 [] rfl (WL.nil (WC.cq rfl (fun h8 qh8 => ?_) (fun h8 qh8 => ?_)))⟩
 ·refine WC.sr ?_
  refine WL.val rfl rfl rfl (Run.build rfl rfl rfl rfl (built_25)) (WL.st tbk hs7 0 rfl rfl (fun _ hs9 => WL.r 1 hs9 [] rfl (WL.nil (WC.ret (tkR ?_)))))
  clear hK6
  refine retV2 rfl (resV.cellA tbk hs9 0 rfl rfl rfl rfl) (resV.tmp rfl) ?_
  have hvb : vpBytes p.dat b = (vp0, []) := by unfold vpBytes; rw [if_neg (by simpa using h8)]
  obtain ⟨L13, hs12, ho14⟩ := ownVpR.fl hs9 (OwnF.nil _ _) (OwnF.nil _ _)
  have hs15 := ((hs12.fb b2).fb b4)
  refine ⟨⟨0, false, ⟨none, 0, 0, []⟩, ⟨none, 0, 0, []⟩⟩, _, none, 0, [], _, rfl, (St.drop ((hs15.fr ([] : Hp)).fr L13) (List.Sublist.append_left (List.sublist_append_left ([] : Hp) _) L13)), ?_, ?_, ?_, ?_⟩
  · exact (by exact ho14)
  · exact (OwnN.nil _ _ _)
  · rw [hvb]; rfl
  · rw [hvb]; rfl
 have hok : vpOk p.dat = true := by simpa using h8
 have hvb : vpBytes p.dat b = vpParse p.dat b := by unfold vpBytes; rw [if_pos hok]
 refine WC.skip (hK6 _ _ (WC.sr (WL.r 1 hs7 [1] rfl ?_)))
 refine WL.cl Tryz.call166 rfl (k144_ p _ (okVpR.st0 f_p hs7) ?_) ?_
 · first | assumption | rfl | omega | exact ⟨by omega, by omega⟩ | (simp; omega)
 rintro _ whs17 ⟨r18, L1_19, rfl, hs17, ho20, hd21⟩
 replace hs17 := hs7.callF hs17
 refine ⟨_, rfl, ?_⟩
 replace hs17 := St.back [_, _] hs17
 skip
 refine WL.al hs17 Tryz.zeroValue25 rfl rfl (fun b22 _ hs23 => WL.st tbk hs23 0 rfl rfl (fun _ hs24 => WL.nil (WC.sr (WL.buildF (F := encActR) hs24 ([]) Tryz.runUnderlying126 Tryz.sizeOf59 Tryz.zeroValue59 rfl rfl rfl rfl rfl rfl rfl rfl rfl rfl rfl rfl (fun A28 c29 L25 whs26 hs26 ho27 => ?_)))))
 replace hs26 := St.back [_, _, _] hs26
 obtain ⟨L30, hs31, ho32⟩ := OwnN.fresh (own := ownActR) (hs26.fr L25) ho27 Bag.nil
 have hs33 := (((hs31.fb b2).fb b4).fb b22)
 refine WL.r 1 hs33 [] rfl (WL.nil (WC.seq (fun K34 hK34 => WC.r1 hs33 [] rfl (WC.block ?_))))
 have hM43 := (St.grp2 (L1 := L1_19) (L2 := L30) [_] (((((hs33.fb b2).fb b4).fr L30).fr L1_19).fb b22))
 refine WC.lV [4, 5, 6, 14, 19, 20] rfl hM43 (fun k_ (a_ : Hp) f => ∃ (i : Nat) (acts : List ActR) (r : VpR) (L37 : Hp) (A39 : Option Addr) (c40 : Nat) (L41 : Hp), k_ = n_b - i ∧ a_ = [(b22, .cells (List.toArray [i64 r.State, .bool r.Mark, .slice r.Args.A r.Args.n r.Args.c, .slice r.Part.A r.Part.n r.Part.c]) 25 (0, 0))] ++ (L37 ++ L41) ∧ (i ≤ n_b) ∧ (r.dat = (vpParse p.dat (b.take i)).1) ∧ (acts.map ActR.dat = (vpParse p.dat (b.take i)).2) ∧ (acts.length ≤ i) ∧ ownVpR r L37 ∧ OwnN encActR ownActR 59 (.slice A39 (acts).length c40) (acts) L41 ∧ Sub [(7, .slice A39 (acts).length c40), (21, .int .i64 i)] f) (((fun (i : Nat) (acts : List ActR) => n_b - i) (0) ([]))) ?_ ?_
 ·refine ⟨0, [], r18, L1_19, A28, c29, L30, rfl, rfl, ?_, ?_, ?_, ?_, ho20, ho32, ⟨rfl, rfl, trivial⟩⟩
  · exact Nat.zero_le _
  · exact hd21
  · rfl
  · exact Nat.le_refl _
 rintro _ _ f w ⟨i, acts, r, L37, A39, c40, L41, rfl, rfl, p0, p1, p2, p3, ho38, ho42, hG⟩ hF hs44
 refine WC.sub _ (hG.app hF) ?_
 clear hG hF
 replace hs44 := St.ungrp2 [_] hs44
 have hs45 := (((hs44.fb b2).fb b4).fb b22)
 have hvr : vpOk r.dat = true := by rw [p1]; exact vpParse_ok hok
 have hlr := vpOk_len hvr
 have hsmr : smVp 1048576 r.dat := ⟨by omega, by omega⟩
 have hsmB : smVp 549755813888 r.dat := ⟨by omega, by omega⟩
 have hxb := (gat encB b i).toNat_lt
 refine WC.r1 hs45 [] rfl (WC.seq (fun K46 hK46 => ?_))
 refine WC.cq rfl (fun h47 qh47 => ?_) (fun h47 qh47 => ?_)
 ·refine WC.skip (hK46 _ _ (WC.seq (fun K48 hK48 => WC.block (WC.sr ?_))))
  refine WL.val rfl rfl rfl (Run.idxN Tryz.runUnderlying22 Tryz.sizeOf5 rfl rfl rfl ?_ ?_ ?_) ?_
  · exact SlF.some_ (SlF.st0 f_b hs45)
  · omega
  · omega
  refine WL.val rfl rfl rfl (Run.load Tryz.isAgg5 rfl rfl (SlF.one1 (SlF.st0 f_b hs45) ?_ rfl)) ?_
  · omega
  refine WL.r 1 hs45 [] rfl (WL.nil (WC.sr (WL.r 3 hs45 [0] rfl (WL.cl Tryz.call167 rfl (k182_ r _ _ (ownVpR.ok (B := 549755813888) ho38 (hs45.ow L37) (by assumption)) ?_) ?_))))
  · first | assumption | rfl | omega | exact ⟨by omega, by omega⟩ | (simp; omega)
  rintro _ whs49 ⟨r0_50, L0_51, r1_52, L1_53, rfl, hs49, ho54, ho55, hd0_56, hd1_57⟩
  replace hs49 := hs45.callF hs49
  refine ⟨_, rfl, ?_⟩
  replace hs49 := St.assoc hs49
  replace hs49 := St.back2 [_, _, _] hs49
  refine WL.r 3 hs49 [] rfl (WL.al hs49 Tryz.zeroValue25 rfl rfl (fun b58 _ hs59 => WL.al hs59 Tryz.zeroValue59 rfl rfl (fun b60 _ hs61 => WL.st tbk hs61 1 rfl rfl (fun _ hs62 => WL.st tbk hs62 0 rfl rfl (fun _ hs63 => WL.nil (WC.sr (WL.r 1 hs63 [1] rfl ?_)))))))
  refine WL.st tbk hs63 2 rfl rfl (fun _ hs64 => WL.nil (WC.r1 hs64 [0] rfl ?_))
  refine WC.cq rfl (fun h65 qh65 => ?_) (fun h65 qh65 => ?_)
  ·have hb1 : vpByte r.dat (gat encB b i).toNat = vpStep r.dat (gat encB b i).toNat := by unfold vpByte; rw [if_pos ⟨hvr, by omega, by omega⟩]
   rw [hb1] at hd0_56 hd1_57
   have hk0 := hd0_56
   have hk1 := hd1_57
   have hkk : r1_52.Kind = (vpStep r.dat (gat encB b i).toNat).2.Kind := congrArg ActD.Kind hd1_57
   have hk : ¬ (vpStep r.dat (gat encB b i).toNat).2.Kind = 0 := by omega
   refine WC.region (WL.r 2 hs64 [0] rfl (WL.buildSlice hs64 Tryz.runUnderlying126 Tryz.sizeOf59 Tryz.zeroValue59 rfl rfl rfl rfl rfl rfl rfl rfl rfl rfl (fun b66 whs67 hs67 => ?_)))
   obtain ⟨L68, L69, hs72, ho70, ho71⟩ := OwnN.open_ (hs67.fr L41) ho42
   have hs73 := ((((((hs72.fb b2).fb b4).fb b22).fb b58).fb b60).fb b66)
   refine WL.appendG (hs73.fr L68) ho70 (srcF (F := encActR) (ys := [(r1_52 : ActR)]) Tryz.underlying126 rfl rfl (hs73.own _ (nthL_mem (i := 0) rfl)).1) Tryz.underlying126 inf59 rfl rfl rfl rfl rfl rfl rfl rfl rfl rfl ?_ (fun A77 c78 L74 whs75 hs75 ho76 => ?_)
   · (try simp only [List.length_append, List.length_singleton]); omega
   replace hs75 := St.back [_, _, _, _, _, _] hs75
   obtain ⟨L79, hs80, hb81⟩ := Bag.put (x := (r1_52 : ActR)) ((hs75.fr L1_53).fr L69) ho71 ho55
   have hs82 := ((((((hs80.fb b2).fb b4).fb b22).fb b58).fb b60).fb b66)
   obtain ⟨L84, hs83, ho85⟩ := OwnN.fold ((hs82.fr L79).fr L74) ho76 hb81
   have hs86 := ((((((hs83.fb b2).fb b4).fb b22).fb b58).fb b60).fb b66)
   refine WL.r 1 hs86 [] rfl (WL.nil (hK48 _ _ (WC.region (WL.r 2 hs86 [] rfl (WL.nil (tkN ?_))))))
   have hst := vpParse_take (v := p.dat) (l := b) (i := i) (by omega)
   replace hs86 := (hs86.d1.d1.d1.rm L37)
   have hF87 := (St.grp2 (L1 := L0_51) (L2 := L84) [_] (((((hs86.fb b2).fb b4).fr L84).fr L0_51).fb b22))
   refine ⟨sbF rfl, _, hF87, _, ?_, i + 1, ((acts) ++ [(r1_52 : ActR)]), r0_50, L0_51, A77, c78, L84, rfl, rfl, ?_, ?_, ?_, ?_, ho54, ho85, ⟨rfl, rfl, trivial⟩⟩
   · omega
   · omega
   · rw [hst, ← p1]; exact hk0
   · rw [hst, ← p2, ← p1, if_neg hk, List.map_append]; congr 1; show [_] = [_]; rw [← hk1]
   · (try simp only [List.length_append, List.length_singleton]); omega
  have hb1 : vpByte r.dat (gat encB b i).toNat = vpStep r.dat (gat encB b i).toNat := by unfold vpByte; rw [if_pos ⟨hvr, by omega, by omega⟩]
  rw [hb1] at hd0_56 hd1_57
  have hk0 := hd0_56
  have hk1 := hd1_57
  have hkk : r1_52.Kind = (vpStep r.dat (gat encB b i).toNat).2.Kind := congrArg ActD.Kind hd1_57
  have hk : (vpStep r.dat (gat encB b i).toNat).2.Kind = 0 := by omega
  refine WC.skip (hK48 _ _ (WC.region (WL.r 2 hs64 [] rfl (WL.nil (tkN ?_)))))
  have hst := vpParse_take (v := p.dat) (l := b) (i := i) (by omega)
  replace hs64 := ((hs64.d1.d1.rm L1_53).rm L37)
  have hF88 := (St.grp2 (L1 := L0_51) (L2 := L41) [_] (((((hs64.fb b2).fb b4).fr L41).fr L0_51).fb b22))
  refine ⟨sbF rfl, _, hF88, _, ?_, i + 1, acts, r0_50, L0_51, A39, c40, L41, rfl, rfl, ?_, ?_, ?_, ?_, ho54, ho42, ⟨rfl, rfl, trivial⟩⟩
  · omega
  · omega
  · rw [hst, ← p1]; exact hk0
  · rw [hst, ← p2, ← p1, if_pos hk, List.append_nil]
  · (try simp only [List.length_append, List.length_singleton]); omega
 refine WC.exit (hK34 _ _ (WC.sr (WL.r 2 hs45 [0] rfl (WL.st tbk hs45 1 rfl rfl (fun _ hs89 => WL.r 1 hs89 [] rfl (WL.nil (WC.ret ?_)))))))
 refine retV2 rfl (resV.cellA tbk hs89 1 rfl rfl rfl rfl) (resV.tmp rfl) ?_
 have hi_ : i = n_b := by omega
 have ht : b.take i = b := List.take_of_length_le (by omega)
 rw [ht] at p1 p2
 refine ⟨r, _, _, _, _, _, rfl, (St.drop ((hs89.fr L41).fr L37) (List.Sublist.append_left (List.sublist_append_left L41 _) L37)), ?_, ?_, ?_, ?_⟩
 · exact ho38
 · exact ho42
 · rw [hvb, p1]
 · rw [hvb, p2]
theorem k184_ (t : TermR) (A_b : Option Addr) (n_b c_b : Nat) (b : List UInt8) (w : World) (f_t : okTermR 549755813888 w t) (f_b : SlF encB w A_b n_b b) (hsm : smTerm 1048576 t.dat) (hn : n_b ≤ 1048576) :
    Calls Tryz.prog 48 #[.agg #[i64 t.P.State, .bool t.P.Mark, .slice t.P.Args.A t.P.Args.n t.P.Args.c, .slice t.P.Part.A t.P.Part.n t.P.Part.c, i64 t.S.W, i64 t.S.H, i64 t.S.Main.W, i64 t.S.Main.H, .slice t.S.Main.Cells.A t.S.Main.Cells.n t.S.Main.Cells.c, i64 t.S.Alt.W, i64 t.S.Alt.H, .slice t.S.Alt.Cells.A t.S.Alt.Cells.n t.S.Alt.Cells.c, .bool t.S.OnAlt, i64 t.S.X, i64 t.S.Y, .bool t.S.Wrap, i64 t.S.A.Fg, i64 t.S.A.Bg, .bool t.S.A.Bold, .bool t.S.A.Under, .bool t.S.A.Turn, i64 t.S.Top, i64 t.S.Bot, .bool t.S.NoWrap, .bool t.S.Hide, i64 t.S.SaveX, i64 t.S.SaveY, i64 t.S.SaveA.Fg, i64 t.S.SaveA.Bg, .bool t.S.SaveA.Bold, .bool t.S.SaveA.Under, .bool t.S.SaveA.Turn, .slice t.S.Tabs.A t.S.Tabs.n t.S.Tabs.c, i64 t.S.Limit, .slice t.S.Back.A t.S.Back.n t.S.Back.c], .slice A_b n_b c_b] w fun e w' => ∃ r L1, e = .returned (.agg #[i64 r.P.State, .bool r.P.Mark, .slice r.P.Args.A r.P.Args.n r.P.Args.c, .slice r.P.Part.A r.P.Part.n r.P.Part.c, i64 r.S.W, i64 r.S.H, i64 r.S.Main.W, i64 r.S.Main.H, .slice r.S.Main.Cells.A r.S.Main.Cells.n r.S.Main.Cells.c, i64 r.S.Alt.W, i64 r.S.Alt.H, .slice r.S.Alt.Cells.A r.S.Alt.Cells.n r.S.Alt.Cells.c, .bool r.S.OnAlt, i64 r.S.X, i64 r.S.Y, .bool r.S.Wrap, i64 r.S.A.Fg, i64 r.S.A.Bg, .bool r.S.A.Bold, .bool r.S.A.Under, .bool r.S.A.Turn, i64 r.S.Top, i64 r.S.Bot, .bool r.S.NoWrap, .bool r.S.Hide, i64 r.S.SaveX, i64 r.S.SaveY, i64 r.S.SaveA.Fg, i64 r.S.SaveA.Bg, .bool r.S.SaveA.Bold, .bool r.S.SaveA.Under, .bool r.S.SaveA.Turn, .slice r.S.Tabs.A r.S.Tabs.n r.S.Tabs.c, i64 r.S.Limit, .slice r.S.Back.A r.S.Back.n r.S.Back.c]) ∧ St w [] L1 w' ∧ ownTermR r L1 ∧ r.dat = termFeedRes t.dat b := by
 have nb_t_P_Args := f_t.P.Args_n
 have nl_t_P_Args := f_t.P.Args.len
 have nb_t_P_Part := f_t.P.Part_n
 have nl_t_P_Part := f_t.P.Part.len
 have nb_t_S_Main_Cells := f_t.S.Main.Cells_n
 have nl_t_S_Main_Cells := f_t.S.Main.Cells.len
 have nb_t_S_Alt_Cells := f_t.S.Alt.Cells_n
 have nl_t_S_Alt_Cells := f_t.S.Alt.Cells.len
 have nb_t_S_Tabs := f_t.S.Tabs_n
 have nl_t_S_Tabs := f_t.S.Tabs.len
 have nb_t_S_Back := f_t.S.Back_n
 have nl_t_S_Back := f_t.S.Back.sl.len
 have hsmB : smTerm 549755813888 t.dat := smTerm_mono hsm (by decide)
 have hbl := f_b.len
 refine enter 37 Tryz.func48 rfl Tryz.ntmps48 rfl rfl ?_
 have hs1 := St.init w
 refine WC.sr (WL.bx hs1 rfl (fun b2 _ hs3 => WL.al hs3 Tryz.zeroValue35 rfl rfl (fun b4 _ hs5 => WL.nil (WC.seq (fun K6 hK6 => WC.sr (WL.r 1 hs5 [1] rfl (WL.cl Tryz.call105 rfl (k153_ t _ (okTermR.st0 f_t hs5)) ?_)))))))
 rintro _ whs7 ⟨rfl, hs7⟩
 replace hs7 := hs5.call0 hs7
 refine ⟨_, rfl, WL.r 1 hs7 [] rfl (WL.nil (WC.cq rfl (fun h8 qh8 => ?_) (fun h8 qh8 => ?_)))⟩
 ·have hok : termOk t.dat = false := by have h9 := h8; simpa using h9
  refine WC.sr ?_
  refine WL.val rfl rfl rfl (Run.build rfl rfl rfl rfl (built_35)) (WL.st tbk hs7 0 rfl rfl (fun _ hs9 => WL.nil (WC.ret (tkR ?_))))
  clear hK6
  refine retV1 rfl (resV.cellA tbk hs9 0 rfl rfl rfl rfl) ?_
  obtain ⟨L17, hs16, ho18⟩ := ownTermR.fl hs9 (OwnF.nil _ _) (OwnF.nil _ _) (OwnF.nil _ _) (OwnF.nil _ _) (OwnF.nil _ _) (OwnN.nil _ _ _)
  have hs19 := ((hs16.fb b2).fb b4)
  refine ownTermR.ret rfl (St.keep1 (hs19.fr L17)) ho18 ?_
  · unfold termFeedRes; rw [hok]; rfl
 have hok : termOk t.dat = true := by have h9 := h8; simpa using h9
 obtain ⟨hv, hs⟩ := termOk_P hok
 have hargs := vpParse_args (l := b) hv
 refine WC.skip (hK6 _ _ (WC.sr (WL.r 3 hs7 [1] rfl ?_)))
 refine WL.cl Tryz.call87 rfl (k183_ t.P _ _ _ _ _ (okVpR.st0 f_t.P hs7) (SlF.st0 f_b hs7) ?_ ?_) ?_
 iterate 2 first | assumption | rfl | omega | exact hsm.1 | exact hsm.2
 rintro _ whs20 ⟨r0_21, L0_22, A1_23, c1_24, x1_25, L1_26, rfl, hs20, ho27, ho28, hd0_29, hd1_30⟩
 replace hs20 := hs7.callF hs20
 refine ⟨_, rfl, ?_⟩
 replace hs20 := St.assoc hs20
 replace hs20 := St.back2 [_, _] hs20
 have hpe : vpBytes t.P.dat b = vpParse t.P.dat b := by unfold vpBytes; exact if_pos hv
 have hpp : r0_21.dat = (vpParse t.P.dat b).1 := by rw [← hpe]; exact hd0_29
 have hpx : x1_25.map ActR.dat = (vpParse t.P.dat b).2 := by rw [← hpe]; exact hd1_30
 have s1 : ∀ y, y ∈ x1_25.map ActR.dat → smAct 549755813888 y := by rw [hpx]; exact fun y hy => Nat.le_trans (areArgs_iff.1 (hargs y hy)).1 (by decide)
 have hxl : x1_25.length ≤ 1048576 := by have h9 := congrArg List.length hpx; rw [List.length_map] at h9; have h8 := vpParse_len (v := t.P.dat) (l := b); omega
 refine WL.r 3 hs20 [] rfl (WL.al hs20 Tryz.zeroValue25 rfl rfl (fun b31 _ hs32 => WL.st tbk hs32 0 rfl rfl (fun _ hs33 => WL.r 1 hs33 [] rfl (WL.nil (WC.sr (WL.r 2 hs33 [2] rfl ?_))))))
 refine WL.cl Tryz.call64 rfl (k82_ t.S _ (okScrR.st0 f_t.S hs33) ?_) ?_
 · first | assumption | rfl | omega | exact hsm.1 | exact hsm.2
 rintro _ whs34 ⟨r35, L1_36, rfl, hs34, ho37, hd38⟩
 replace hs34 := hs33.callF hs34
 refine ⟨_, rfl, ?_⟩
 replace hs34 := St.back [_, _, _] hs34
 skip
 refine WL.al hs34 Tryz.zeroValue33 rfl rfl (fun b39 _ hs40 => WL.st tbk hs40 0 rfl rfl (fun _ hs41 => WL.nil (WC.seq (fun K42 hK42 => WC.r1 hs41 [] rfl (WC.block ?_)))))
 have hM47 := (St.grp1 (L1 := L1_36) [_] (((((((hs41.fr L1_26).fr L0_22).fb b2).fb b4).fb b31).fr L1_36).fb b39))
 refine WC.lV [4, 5, 7, 12, 24, 25] rfl hM47 (fun k_ (a_ : Hp) f => ∃ (i : Nat) (r : ScrR) (L45 : Hp), k_ = x1_25.length - i ∧ a_ = [(b39, .cells (List.toArray (cScr r)) 33 (0, 0))] ++ L45 ∧ (i ≤ x1_25.length) ∧ (r.dat = actsD t.S.dat ((x1_25.take i).map ActR.dat)) ∧ ownScrR r L45 ∧ Sub [(26, .int .i64 i)] f) (((fun (i : Nat) => x1_25.length - i) (0))) ?_ ?_
 ·refine ⟨0, r35, L1_36, rfl, rfl, ?_, ?_, ho37, ⟨rfl, trivial⟩⟩
  · exact Nat.zero_le _
  · exact hd38
 rintro _ _ f w ⟨i, r, L45, rfl, rfl, p0, p1, ho46, hG⟩ hF hs48
 refine WC.sub _ (hG.app hF) ?_
 clear hG hF
 replace hs48 := St.ungrp1 [_] hs48
 have hs49 := ((((hs48.fb b2).fb b4).fb b31).fb b39)
 have hfr : ScrFine r.dat := by rw [p1]; exact (ScrFine.of hs).acts (acts_take hpx hargs)
 have hsmr : smScr 549755813888 r.dat := fine_smB hfr (by decide)
 have hsm1 : smScr 1048576 r.dat := fine_smB hfr (by decide)
 refine WC.r1 hs49 [] rfl (WC.seq (fun K50 hK50 => ?_))
 refine WC.cq rfl (fun h51 qh51 => ?_) (fun h51 qh51 => ?_)
 ·have hil : i < x1_25.length := by have h9 := h51; simp at h9; omega
  have haa : areArgs (gat encActR x1_25 i).dat.Args = true := acts_gat hpx hargs hil
  have hanA := (SlN.nth (OwnN.ok ho28 (hs49.ow L1_26) (fun y Li hy h3 hl => h3.ok hl (by have h9_ := List.mem_map_of_mem (f := ActR.dat) hy; first | exact s1 _ h9_))) hil).Args_n
  refine WC.skip (hK50 _ _ (WC.seq (fun K52 hK52 => WC.block (WC.sr ?_))))
  refine WL.val rfl rfl rfl (Run.idxN Tryz.runUnderlying126 Tryz.sizeOf59 rfl rfl rfl ?_ ?_ ?_) ?_
  · exact SlF.some_ (OwnN.sl ho28 (hs49.ow L1_26))
  · omega
  · omega
  refine WL.val rfl rfl rfl (Run.loadA Tryz.isAgg59 Tryz.sizeOf59 rfl rfl (SlF.whole (OwnN.sl ho28 (hs49.ow L1_26)) ?_)) ?_
  · omega
  refine WL.al hs49 Tryz.zeroValue59 rfl rfl (fun b53 _ hs54 => WL.st tbk hs54 0 rfl rfl (fun _ hs55 => WL.nil (WC.region (WL.r 2 hs55 [1, 0] rfl ?_))))
  refine WL.cl Tryz.call41 rfl (k180_ r (gat encActR x1_25 i) _ (ownScrR.ok (B := 549755813888) ho46 (hs55.ow L45) hsmr) (SlN.nth (OwnN.ok ho28 (hs55.ow L1_26) (fun y Li hy h3 hl => h3.ok hl (by have h9_ := List.mem_map_of_mem (f := ActR.dat) hy; first | exact s1 _ h9_))) (by omega)) ?_) ?_
  · first | assumption | rfl | omega | exact hsm.1 | exact hsm.2
  rintro _ whs56 ⟨r57, L1_58, rfl, hs56, ho59, hd60⟩
  replace hs56 := hs55.callF hs56
  refine ⟨_, rfl, ?_⟩
  replace hs56 := St.back [_, _, _, _, _] hs56
  refine WL.st tbk hs56 1 rfl rfl (fun _ hs61 => WL.nil (hK52 _ _ (WC.region (WL.r 2 hs61 [] rfl (WL.nil (tkN ?_))))))
  replace hs61 := (hs61.d1.rm L45)
  have hF62 := (St.grp1 (L1 := L1_58) [_] (((((((hs61.fr L1_26).fr L0_22).fb b2).fb b4).fb b31).fr L1_58).fb b39))
  refine ⟨sbF rfl, _, hF62, _, ?_, i + 1, r57, L1_58, rfl, rfl, ?_, ?_, ho59, ⟨rfl, trivial⟩⟩
  · omega
  · omega
  · rw [actsD_next (by omega), ← p1]; exact hd60.trans (act_res hfr haa)
 have hil : i = x1_25.length := by have h9 := h51; simp at h9; omega
 have hfin : r.dat = actsD t.S.dat (vpParse t.P.dat b).2 := by rw [p1, hil, List.take_length, hpx]
 refine WC.exit (hK42 _ _ (WC.sr (WL.r 2 hs49 [1, 0] rfl ?_)))
 refine WL.val rfl rfl rfl (Run.build rfl rfl rfl rfl (built_35_0_1 _ _ _ _ _ _ _ _ _ _ _ _ _ _ _ _ _ _ _ _ _ _ _ _ _ _ _ _ _ _ _ _ _ _ _)) (WL.st tbk hs49 2 rfl rfl (fun _ hs63 => WL.nil (WC.ret (retV1 rfl (resV.cellA tbk hs63 2 rfl rfl rfl rfl) ?_))))
 obtain ⟨L64, L65, hs68, ho66, ho67⟩ := ownVpR.op hs63 ho27
 have hs69 := ((((hs68.fb b2).fb b4).fb b31).fb b39)
 obtain ⟨L70, L71, L72, L73, hs78, ho74, ho75, ho76, ho77⟩ := ownScrR.op hs69 ho46
 have hs79 := ((((hs78.fb b2).fb b4).fb b31).fb b39)
 obtain ⟨L81, hs80, ho82⟩ := ownTermR.fl hs79 ho66 ho67 ho74 ho75 ho76 ho77
 have hs83 := ((((hs80.fb b2).fb b4).fb b31).fb b39)
 refine ownTermR.ret rfl (St.keep1 (hs83.fr L81)) ho82 ?_
 · unfold termFeedRes; rw [if_pos hok]; exact TermD.ext' hpp hfin
set_option maxHeartbeats 4000000 in
theorem k185_ (a : ScrR) (w : World) (f_a : okScrR 549755813888 w a) :
    Calls Tryz.prog 21 #[.agg (cScr a).toArray] w fun e w' => ∃ r L1, e = .returned (.agg (cScr r).toArray) ∧ St w [] L1 w' ∧ ownScrR r L1 ∧ r.dat = a.dat := by
 have nb_a_Main_Cells := f_a.Main.Cells_n
 have nl_a_Main_Cells := f_a.Main.Cells.len
 have nb_a_Alt_Cells := f_a.Alt.Cells_n
 have nl_a_Alt_Cells := f_a.Alt.Cells.len
 have nb_a_Tabs := f_a.Tabs_n
 have nl_a_Tabs := f_a.Tabs.len
 have nb_a_Back := f_a.Back_n
 have nl_a_Back := f_a.Back.sl.len
 refine enter 68 Tryz.func21 rfl Tryz.ntmps21 rfl rfl ?_
 have hs1 := St.init w
 refine WC.sr (WL.bx hs1 rfl (fun b2 _ hs3 => WL.al hs3 Tryz.zeroValue33 rfl rfl (fun b4 _ hs5 => WL.nil (WC.sr (WL.al hs5 Tryz.zeroValue33 rfl rfl (fun b6 _ hs7 => WL.nil (WC.sr ?_)))))))
 refine WL.r 3 hs7 [2] rfl (WL.st tbk hs7 0 rfl rfl (fun _ hs8 => WL.nil (WC.sr (WL.r 3 hs8 [2] rfl (WL.st tbk hs8 0 rfl rfl (fun _ hs9 => WL.nil (WC.sr ?_)))))))
 refine WL.r 2 hs9 [2] rfl (WL.cl Tryz.call71 rfl (k21_ a.Main _ (okGridR.st0 f_a.Main hs9)) ?_)
 rintro _ whs10 ⟨r11, L1_12, rfl, hs10, ho13, hd14⟩
 replace hs10 := hs9.callF hs10
 refine ⟨_, rfl, ?_⟩
 replace hs10 := St.back [_, _, _] hs10
 refine WL.r 1 hs10 [] rfl (WL.st tbk hs10 0 rfl rfl (fun _ hs15 => WL.nil (WC.sr (WL.r 2 hs15 [2] rfl (WL.cl Tryz.call71 rfl (k21_ a.Alt _ (okGridR.st0 f_a.Alt hs15)) ?_)))))
 rintro _ whs16 ⟨r17, L1_18, rfl, hs16, ho19, hd20⟩
 replace hs16 := hs15.callF hs16
 refine ⟨_, rfl, ?_⟩
 replace hs16 := St.back [_, _, _] hs16
 refine WL.r 1 hs16 [] rfl (WL.st tbk hs16 0 rfl rfl (fun _ hs21 => WL.nil (WC.sr (WL.r 3 hs21 [2] rfl (WL.st tbk hs21 0 rfl rfl (fun _ hs22 => WL.nil (WC.sr ?_)))))))
 refine WL.r 3 hs22 [2] rfl (WL.st tbk hs22 0 rfl rfl (fun _ hs23 => WL.nil (WC.sr (WL.r 3 hs23 [2] rfl (WL.st tbk hs23 0 rfl rfl (fun _ hs24 => WL.nil (WC.sr ?_)))))))
 refine WL.r 3 hs24 [2] rfl (WL.st tbk hs24 0 rfl rfl (fun _ hs25 => WL.nil (WC.sr (WL.r 2 hs25 [2] rfl (WL.cl Tryz.call72 rfl (k5_ _ _ _ _ _ _) ?_)))))
 rintro _ whs26 ⟨rfl, hs26⟩
 replace hs26 := hs25.call0 hs26
 refine ⟨_, rfl, WL.r 1 hs26 [] rfl (WL.st tbk hs26 0 rfl rfl (fun _ hs27 => WL.nil (WC.sr (WL.r 3 hs27 [2] rfl (WL.st tbk hs27 0 rfl rfl (fun _ hs28 => WL.nil ?_))))))⟩
 refine WC.sr (WL.r 3 hs28 [2] rfl (WL.st tbk hs28 0 rfl rfl (fun _ hs29 => WL.nil (WC.sr (WL.r 3 hs29 [2] rfl (WL.st tbk hs29 0 rfl rfl (fun _ hs30 => WL.nil ?_)))))))
 refine WC.sr (WL.r 3 hs30 [2] rfl (WL.st tbk hs30 0 rfl rfl (fun _ hs31 => WL.nil (WC.sr (WL.r 3 hs31 [2] rfl (WL.st tbk hs31 0 rfl rfl (fun _ hs32 => WL.nil ?_)))))))
 refine WC.sr (WL.r 3 hs32 [2] rfl (WL.st tbk hs32 0 rfl rfl (fun _ hs33 => WL.nil (WC.sr (WL.r 2 hs33 [2] rfl (WL.cl Tryz.call72 rfl (k5_ _ _ _ _ _ _) ?_))))))
 rintro _ whs34 ⟨rfl, hs34⟩
 replace hs34 := hs33.call0 hs34
 refine ⟨_, rfl, WL.r 1 hs34 [] rfl (WL.st tbk hs34 0 rfl rfl (fun _ hs35 => WL.nil (WC.sr (WL.r 2 hs35 [2] rfl ?_))))⟩
 refine WL.cl Tryz.call31 rfl (k14_ _ _ _ _ _ (SlF.st0 f_a.Tabs hs35) ?_) ?_
 · first | assumption | rfl | omega
 rintro _ whs36 ⟨A37, c38, L1_39, rfl, hs36, ho40⟩
 replace hs36 := hs35.callF hs36
 refine ⟨_, rfl, ?_⟩
 replace hs36 := St.back [_, _, _] hs36
 refine WL.r 1 hs36 [] rfl (WL.st tbk hs36 0 rfl rfl (fun _ hs41 => WL.nil (WC.sr (WL.r 3 hs41 [2] rfl (WL.st tbk hs41 0 rfl rfl (fun _ hs42 => WL.nil (WC.sr ?_)))))))
 refine WL.r 2 hs42 [2] rfl (WL.cl Tryz.call73 rfl (k32_ _ _ _ _ _ (SlN.st0 okRowR.st0 f_a.Back hs42) ?_) ?_)
 · first | assumption | rfl | omega
 rintro _ whs43 ⟨A44, c45, xs46, L1_47, rfl, hs43, ho48, hd49⟩
 replace hs43 := hs42.callF hs43
 refine ⟨_, rfl, ?_⟩
 replace hs43 := St.back [_, _, _] hs43
 refine WL.r 1 hs43 [] rfl (WL.st tbk hs43 0 rfl rfl (fun _ hs50 => WL.nil (WC.sr (WL.r 1 hs50 [0] rfl (WL.st tbk hs50 1 rfl rfl (fun _ hs51 => WL.nil (WC.ret ?_)))))))
 refine retV1 rfl (resV.cellA tbk hs51 1 rfl rfl rfl rfl) ?_
 obtain ⟨L53, hs52, ho54⟩ := ownScrR.fl hs51 ho13 ho19 ho40 ho48
 have hs55 := (((hs52.fb b2).fb b4).fb b6)
 refine ⟨⟨a.W, a.H, ⟨r11.W, r11.H, SlD.of ho13⟩, ⟨r17.W, r17.H, SlD.of ho19⟩, a.OnAlt, a.X, a.Y, a.Wrap, ⟨_, _, _, _, _⟩, a.Top, a.Bot, a.NoWrap, a.Hide, a.SaveX, a.SaveY, ⟨_, _, _, _, _⟩, SlD.of ho40, a.Limit, SlD.ofN ho48⟩, _, rfl, (St.keep1 (hs55.fr L53)), ?_, ?_⟩
 · exact (by exact ho54)
 · exact ScrD.ext' rfl rfl hd14 hd20 rfl rfl rfl rfl rfl rfl rfl rfl rfl rfl rfl rfl rfl rfl hd49
set_option maxHeartbeats 4000000 in
theorem k186_ (a : ScrR) (b : ScrR) (w : World) (f_a : okScrR 549755813888 w a) (f_b : okScrR 549755813888 w b) (hab : a.dat = b.dat) :
    Calls Tryz.prog 23 #[.agg (cScr a).toArray, .agg (cScr b).toArray] w fun e w' => e = .returned (.bool true) ∧ St w [] [] w' := by
 have nb_a_Main_Cells := f_a.Main.Cells_n
 have nl_a_Main_Cells := f_a.Main.Cells.len
 have nb_a_Alt_Cells := f_a.Alt.Cells_n
 have nl_a_Alt_Cells := f_a.Alt.Cells.len
 have nb_a_Tabs := f_a.Tabs_n
 have nl_a_Tabs := f_a.Tabs.len
 have nb_a_Back := f_a.Back_n
 have nl_a_Back := f_a.Back.sl.len
 have nb_b_Main_Cells := f_b.Main.Cells_n
 have nl_b_Main_Cells := f_b.Main.Cells.len
 have nb_b_Alt_Cells := f_b.Alt.Cells_n
 have nl_b_Alt_Cells := f_b.Alt.Cells.len
 have nb_b_Tabs := f_b.Tabs_n
 have nl_b_Tabs := f_b.Tabs.len
 have nb_b_Back := f_b.Back_n
 have nl_b_Back := f_b.Back.sl.len
 have e_W : a.W = b.W := congrArg (fun d : ScrD => d.W) hab
 have e_H : a.H = b.H := congrArg (fun d : ScrD => d.H) hab
 have e_Main : a.Main.dat = b.Main.dat := congrArg (fun d : ScrD => d.Main) hab
 have e_Main_W : a.Main.W = b.Main.W := congrArg (fun d : ScrD => d.Main.W) hab
 have e_Main_H : a.Main.H = b.Main.H := congrArg (fun d : ScrD => d.Main.H) hab
 have e_Main_Cells : a.Main.Cells.xs = b.Main.Cells.xs := congrArg (fun d : ScrD => d.Main.Cells) hab
 have e_Alt : a.Alt.dat = b.Alt.dat := congrArg (fun d : ScrD => d.Alt) hab
 have e_Alt_W : a.Alt.W = b.Alt.W := congrArg (fun d : ScrD => d.Alt.W) hab
 have e_Alt_H : a.Alt.H = b.Alt.H := congrArg (fun d : ScrD => d.Alt.H) hab
 have e_Alt_Cells : a.Alt.Cells.xs = b.Alt.Cells.xs := congrArg (fun d : ScrD => d.Alt.Cells) hab
 have e_OnAlt : a.OnAlt = b.OnAlt := congrArg (fun d : ScrD => d.OnAlt) hab
 have e_X : a.X = b.X := congrArg (fun d : ScrD => d.X) hab
 have e_Y : a.Y = b.Y := congrArg (fun d : ScrD => d.Y) hab
 have e_Wrap : a.Wrap = b.Wrap := congrArg (fun d : ScrD => d.Wrap) hab
 have e_A : a.A = b.A := congrArg (fun d : ScrD => d.A) hab
 have e_A_Fg : a.A.Fg = b.A.Fg := congrArg (fun d : ScrD => d.A.Fg) hab
 have e_A_Bg : a.A.Bg = b.A.Bg := congrArg (fun d : ScrD => d.A.Bg) hab
 have e_A_Bold : a.A.Bold = b.A.Bold := congrArg (fun d : ScrD => d.A.Bold) hab
 have e_A_Under : a.A.Under = b.A.Under := congrArg (fun d : ScrD => d.A.Under) hab
 have e_A_Turn : a.A.Turn = b.A.Turn := congrArg (fun d : ScrD => d.A.Turn) hab
 have e_Top : a.Top = b.Top := congrArg (fun d : ScrD => d.Top) hab
 have e_Bot : a.Bot = b.Bot := congrArg (fun d : ScrD => d.Bot) hab
 have e_NoWrap : a.NoWrap = b.NoWrap := congrArg (fun d : ScrD => d.NoWrap) hab
 have e_Hide : a.Hide = b.Hide := congrArg (fun d : ScrD => d.Hide) hab
 have e_SaveX : a.SaveX = b.SaveX := congrArg (fun d : ScrD => d.SaveX) hab
 have e_SaveY : a.SaveY = b.SaveY := congrArg (fun d : ScrD => d.SaveY) hab
 have e_SaveA : a.SaveA = b.SaveA := congrArg (fun d : ScrD => d.SaveA) hab
 have e_SaveA_Fg : a.SaveA.Fg = b.SaveA.Fg := congrArg (fun d : ScrD => d.SaveA.Fg) hab
 have e_SaveA_Bg : a.SaveA.Bg = b.SaveA.Bg := congrArg (fun d : ScrD => d.SaveA.Bg) hab
 have e_SaveA_Bold : a.SaveA.Bold = b.SaveA.Bold := congrArg (fun d : ScrD => d.SaveA.Bold) hab
 have e_SaveA_Under : a.SaveA.Under = b.SaveA.Under := congrArg (fun d : ScrD => d.SaveA.Under) hab
 have e_SaveA_Turn : a.SaveA.Turn = b.SaveA.Turn := congrArg (fun d : ScrD => d.SaveA.Turn) hab
 have e_Tabs : a.Tabs.xs = b.Tabs.xs := congrArg (fun d : ScrD => d.Tabs) hab
 have e_Limit : a.Limit = b.Limit := congrArg (fun d : ScrD => d.Limit) hab
 have e_Back : a.Back.xs.map RowR.dat = b.Back.xs.map RowR.dat := congrArg (fun d : ScrD => d.Back) hab
 refine enter 106 Tryz.func23 rfl Tryz.ntmps23 rfl rfl ?_
 have hs1 := St.init w
 refine WC.sr (WL.bx hs1 rfl (fun b2 _ hs3 => WL.bx hs3 rfl (fun b4 _ hs5 => WL.r 1 hs5 [] rfl (WL.nil (WC.seq (fun K6 hK6 => WC.r1 hs5 [1, 0] rfl (WC.condF rfl (by simp [e_W, e_H, e_Main_W, e_Main_H, e_Alt_W, e_Alt_H, e_OnAlt, e_X, e_Y, e_Wrap, e_A_Fg, e_A_Bg, e_A_Bold, e_A_Under, e_A_Turn, e_Top, e_Bot, e_NoWrap, e_Hide, e_SaveX, e_SaveY, e_SaveA_Fg, e_SaveA_Bg, e_SaveA_Bold, e_SaveA_Under, e_SaveA_Turn, e_Limit]) ?_)))))))
 refine WC.skip (hK6 _ _ (WC.seq (fun K8 hK8 => WC.r1 hs5 [1, 0] rfl (WC.condF rfl (by simp [e_W, e_H, e_Main_W, e_Main_H, e_Alt_W, e_Alt_H, e_OnAlt, e_X, e_Y, e_Wrap, e_A_Fg, e_A_Bg, e_A_Bold, e_A_Under, e_A_Turn, e_Top, e_Bot, e_NoWrap, e_Hide, e_SaveX, e_SaveY, e_SaveA_Fg, e_SaveA_Bg, e_SaveA_Bold, e_SaveA_Under, e_SaveA_Turn, e_Limit]) (WC.skip (hK8 _ _ (WC.seq (fun K10 hK10 => ?_))))))))
 refine WC.sr (WL.r 4 hs5 [1, 0] rfl (WL.cl Tryz.call77 rfl (k22_ a.Main b.Main _ (okGridR.st0 f_a.Main hs5) (okGridR.st0 f_b.Main hs5) ?_) ?_))
 · first | assumption | rfl | omega
 rintro _ whs11 ⟨rfl, hs11⟩
 replace hs11 := hs5.call0 hs11
 refine ⟨_, rfl, WL.r 1 hs11 [] rfl (WL.nil (WC.condF rfl (by simp [e_W, e_H, e_Main_W, e_Main_H, e_Alt_W, e_Alt_H, e_OnAlt, e_X, e_Y, e_Wrap, e_A_Fg, e_A_Bg, e_A_Bold, e_A_Under, e_A_Turn, e_Top, e_Bot, e_NoWrap, e_Hide, e_SaveX, e_SaveY, e_SaveA_Fg, e_SaveA_Bg, e_SaveA_Bold, e_SaveA_Under, e_SaveA_Turn, e_Limit]) (WC.skip (hK10 _ _ (WC.seq (fun K13 hK13 => WC.sr ?_))))))⟩
 refine WL.r 4 hs11 [1, 0] rfl (WL.cl Tryz.call77 rfl (k22_ a.Alt b.Alt _ (okGridR.st0 f_a.Alt hs11) (okGridR.st0 f_b.Alt hs11) ?_) ?_)
 · first | assumption | rfl | omega
 rintro _ whs14 ⟨rfl, hs14⟩
 replace hs14 := hs11.call0 hs14
 refine ⟨_, rfl, WL.r 1 hs14 [] rfl (WL.nil (WC.condF rfl (by simp [e_W, e_H, e_Main_W, e_Main_H, e_Alt_W, e_Alt_H, e_OnAlt, e_X, e_Y, e_Wrap, e_A_Fg, e_A_Bg, e_A_Bold, e_A_Under, e_A_Turn, e_Top, e_Bot, e_NoWrap, e_Hide, e_SaveX, e_SaveY, e_SaveA_Fg, e_SaveA_Bg, e_SaveA_Bold, e_SaveA_Under, e_SaveA_Turn, e_Limit]) (WC.skip (hK13 _ _ (WC.seq (fun K16 hK16 => WC.r1 hs14 [1, 0] rfl ?_))))))⟩
 refine WC.condF rfl (by simp [e_W, e_H, e_Main_W, e_Main_H, e_Alt_W, e_Alt_H, e_OnAlt, e_X, e_Y, e_Wrap, e_A_Fg, e_A_Bg, e_A_Bold, e_A_Under, e_A_Turn, e_Top, e_Bot, e_NoWrap, e_Hide, e_SaveX, e_SaveY, e_SaveA_Fg, e_SaveA_Bg, e_SaveA_Bold, e_SaveA_Under, e_SaveA_Turn, e_Limit]) (WC.skip (hK16 _ _ (WC.seq (fun K18 hK18 => WC.r1 hs14 [1, 0] rfl (WC.condF rfl (by simp [e_W, e_H, e_Main_W, e_Main_H, e_Alt_W, e_Alt_H, e_OnAlt, e_X, e_Y, e_Wrap, e_A_Fg, e_A_Bg, e_A_Bold, e_A_Under, e_A_Turn, e_Top, e_Bot, e_NoWrap, e_Hide, e_SaveX, e_SaveY, e_SaveA_Fg, e_SaveA_Bg, e_SaveA_Bold, e_SaveA_Under, e_SaveA_Turn, e_Limit]) ?_)))))
 refine WC.skip (hK18 _ _ (WC.seq (fun K20 hK20 => WC.r1 hs14 [1, 0] rfl (WC.condF rfl (by simp [e_W, e_H, e_Main_W, e_Main_H, e_Alt_W, e_Alt_H, e_OnAlt, e_X, e_Y, e_Wrap, e_A_Fg, e_A_Bg, e_A_Bold, e_A_Under, e_A_Turn, e_Top, e_Bot, e_NoWrap, e_Hide, e_SaveX, e_SaveY, e_SaveA_Fg, e_SaveA_Bg, e_SaveA_Bold, e_SaveA_Under, e_SaveA_Turn, e_Limit]) (WC.skip (hK20 _ _ (WC.seq (fun K22 hK22 => ?_))))))))
 refine WC.r1 hs14 [1, 0] rfl (WC.condF rfl (by simp [e_W, e_H, e_Main_W, e_Main_H, e_Alt_W, e_Alt_H, e_OnAlt, e_X, e_Y, e_Wrap, e_A_Fg, e_A_Bg, e_A_Bold, e_A_Under, e_A_Turn, e_Top, e_Bot, e_NoWrap, e_Hide, e_SaveX, e_SaveY, e_SaveA_Fg, e_SaveA_Bg, e_SaveA_Bold, e_SaveA_Under, e_SaveA_Turn, e_Limit]) (WC.skip (hK22 _ _ (WC.seq (fun K24 hK24 => WC.sr (WL.r 4 hs14 [1, 0] rfl ?_))))))
 refine WL.cl Tryz.call78 rfl (k7_ _ _ _ _ _ _ _ _ _ _ _ ?_) ?_
 · first | assumption | rfl | omega
 rintro _ whs25 ⟨rfl, hs25⟩
 replace hs25 := hs14.call0 hs25
 refine ⟨_, rfl, WL.r 1 hs25 [] rfl (WL.nil (WC.condF rfl (by simp [e_W, e_H, e_Main_W, e_Main_H, e_Alt_W, e_Alt_H, e_OnAlt, e_X, e_Y, e_Wrap, e_A_Fg, e_A_Bg, e_A_Bold, e_A_Under, e_A_Turn, e_Top, e_Bot, e_NoWrap, e_Hide, e_SaveX, e_SaveY, e_SaveA_Fg, e_SaveA_Bg, e_SaveA_Bold, e_SaveA_Under, e_SaveA_Turn, e_Limit]) (WC.skip (hK24 _ _ (WC.seq (fun K27 hK27 => WC.r1 hs25 [1, 0] rfl ?_))))))⟩
 refine WC.condF rfl (by simp [e_W, e_H, e_Main_W, e_Main_H, e_Alt_W, e_Alt_H, e_OnAlt, e_X, e_Y, e_Wrap, e_A_Fg, e_A_Bg, e_A_Bold, e_A_Under, e_A_Turn, e_Top, e_Bot, e_NoWrap, e_Hide, e_SaveX, e_SaveY, e_SaveA_Fg, e_SaveA_Bg, e_SaveA_Bold, e_SaveA_Under, e_SaveA_Turn, e_Limit]) (WC.skip (hK27 _ _ (WC.seq (fun K29 hK29 => WC.r1 hs25 [1, 0] rfl (WC.condF rfl (by simp [e_W, e_H, e_Main_W, e_Main_H, e_Alt_W, e_Alt_H, e_OnAlt, e_X, e_Y, e_Wrap, e_A_Fg, e_A_Bg, e_A_Bold, e_A_Under, e_A_Turn, e_Top, e_Bot, e_NoWrap, e_Hide, e_SaveX, e_SaveY, e_SaveA_Fg, e_SaveA_Bg, e_SaveA_Bold, e_SaveA_Under, e_SaveA_Turn, e_Limit]) ?_)))))
 refine WC.skip (hK29 _ _ (WC.seq (fun K31 hK31 => WC.r1 hs25 [1, 0] rfl (WC.condF rfl (by simp [e_W, e_H, e_Main_W, e_Main_H, e_Alt_W, e_Alt_H, e_OnAlt, e_X, e_Y, e_Wrap, e_A_Fg, e_A_Bg, e_A_Bold, e_A_Under, e_A_Turn, e_Top, e_Bot, e_NoWrap, e_Hide, e_SaveX, e_SaveY, e_SaveA_Fg, e_SaveA_Bg, e_SaveA_Bold, e_SaveA_Under, e_SaveA_Turn, e_Limit]) (WC.skip (hK31 _ _ (WC.seq (fun K33 hK33 => ?_))))))))
 refine WC.r1 hs25 [1, 0] rfl (WC.condF rfl (by simp [e_W, e_H, e_Main_W, e_Main_H, e_Alt_W, e_Alt_H, e_OnAlt, e_X, e_Y, e_Wrap, e_A_Fg, e_A_Bg, e_A_Bold, e_A_Under, e_A_Turn, e_Top, e_Bot, e_NoWrap, e_Hide, e_SaveX, e_SaveY, e_SaveA_Fg, e_SaveA_Bg, e_SaveA_Bold, e_SaveA_Under, e_SaveA_Turn, e_Limit]) (WC.skip (hK33 _ _ (WC.seq (fun K35 hK35 => WC.r1 hs25 [1, 0] rfl (WC.condF rfl (by simp [e_W, e_H, e_Main_W, e_Main_H, e_Alt_W, e_Alt_H, e_OnAlt, e_X, e_Y, e_Wrap, e_A_Fg, e_A_Bg, e_A_Bold, e_A_Under, e_A_Turn, e_Top, e_Bot, e_NoWrap, e_Hide, e_SaveX, e_SaveY, e_SaveA_Fg, e_SaveA_Bg, e_SaveA_Bold, e_SaveA_Under, e_SaveA_Turn, e_Limit]) ?_))))))
 refine WC.skip (hK35 _ _ (WC.seq (fun K37 hK37 => WC.r1 hs25 [1, 0] rfl (WC.condF rfl (by simp [e_W, e_H, e_Main_W, e_Main_H, e_Alt_W, e_Alt_H, e_OnAlt, e_X, e_Y, e_Wrap, e_A_Fg, e_A_Bg, e_A_Bold, e_A_Under, e_A_Turn, e_Top, e_Bot, e_NoWrap, e_Hide, e_SaveX, e_SaveY, e_SaveA_Fg, e_SaveA_Bg, e_SaveA_Bold, e_SaveA_Under, e_SaveA_Turn, e_Limit]) (WC.skip (hK37 _ _ (WC.seq (fun K39 hK39 => ?_))))))))
 refine WC.sr (WL.r 4 hs25 [1, 0] rfl (WL.cl Tryz.call78 rfl (k7_ _ _ _ _ _ _ _ _ _ _ _ ?_) ?_))
 · first | assumption | rfl | omega
 rintro _ whs40 ⟨rfl, hs40⟩
 replace hs40 := hs25.call0 hs40
 refine ⟨_, rfl, WL.r 1 hs40 [] rfl (WL.nil (WC.condF rfl (by simp [e_W, e_H, e_Main_W, e_Main_H, e_Alt_W, e_Alt_H, e_OnAlt, e_X, e_Y, e_Wrap, e_A_Fg, e_A_Bg, e_A_Bold, e_A_Under, e_A_Turn, e_Top, e_Bot, e_NoWrap, e_Hide, e_SaveX, e_SaveY, e_SaveA_Fg, e_SaveA_Bg, e_SaveA_Bold, e_SaveA_Under, e_SaveA_Turn, e_Limit]) (WC.skip (hK39 _ _ (WC.seq (fun K42 hK42 => WC.sr ?_))))))⟩
 refine WL.r 4 hs40 [1, 0] rfl (WL.cl Tryz.call33 rfl (k12_ _ _ _ _ _ _ _ _ _ (SlF.st0 f_a.Tabs hs40) (SlF.st0 f_b.Tabs hs40) ?_ ?_) ?_)
 iterate 2 first | assumption | rfl | omega
 rintro _ whs43 ⟨rfl, hs43⟩
 replace hs43 := hs40.call0 hs43
 refine ⟨_, rfl, WL.r 1 hs43 [] rfl (WL.nil (WC.condF rfl (by simp [e_W, e_H, e_Main_W, e_Main_H, e_Alt_W, e_Alt_H, e_OnAlt, e_X, e_Y, e_Wrap, e_A_Fg, e_A_Bg, e_A_Bold, e_A_Under, e_A_Turn, e_Top, e_Bot, e_NoWrap, e_Hide, e_SaveX, e_SaveY, e_SaveA_Fg, e_SaveA_Bg, e_SaveA_Bold, e_SaveA_Under, e_SaveA_Turn, e_Limit]) (WC.skip (hK42 _ _ (WC.seq (fun K45 hK45 => WC.r1 hs43 [1, 0] rfl ?_))))))⟩
 refine WC.condF rfl (by simp [e_W, e_H, e_Main_W, e_Main_H, e_Alt_W, e_Alt_H, e_OnAlt, e_X, e_Y, e_Wrap, e_A_Fg, e_A_Bg, e_A_Bold, e_A_Under, e_A_Turn, e_Top, e_Bot, e_NoWrap, e_Hide, e_SaveX, e_SaveY, e_SaveA_Fg, e_SaveA_Bg, e_SaveA_Bold, e_SaveA_Under, e_SaveA_Turn, e_Limit]) (WC.skip (hK45 _ _ (WC.seq (fun K47 hK47 => WC.sr (WL.r 4 hs43 [1, 0] rfl ?_)))))
 refine WL.cl Tryz.call79 rfl (k31_ _ _ _ _ _ _ _ _ _ (SlN.st0 okRowR.st0 f_a.Back hs43) (SlN.st0 okRowR.st0 f_b.Back hs43) ?_ ?_) ?_
 iterate 2 first | assumption | rfl | omega
 rintro _ whs48 ⟨rfl, hs48⟩
 replace hs48 := hs43.call0 hs48
 refine ⟨_, rfl, WL.r 1 hs48 [] rfl (WL.nil (WC.condF rfl (by simp [e_W, e_H, e_Main_W, e_Main_H, e_Alt_W, e_Alt_H, e_OnAlt, e_X, e_Y, e_Wrap, e_A_Fg, e_A_Bg, e_A_Bold, e_A_Under, e_A_Turn, e_Top, e_Bot, e_NoWrap, e_Hide, e_SaveX, e_SaveY, e_SaveA_Fg, e_SaveA_Bg, e_SaveA_Bold, e_SaveA_Under, e_SaveA_Turn, e_Limit]) (WC.skip (hK47 _ _ (WC.r1 hs48 [] rfl (WC.ret ?_))))))⟩
 refine rtv rfl rfl hs48 ?_
 rfl
set_option maxHeartbeats 4000000 in
theorem k187_ (a : ScrR) (left : Int) (w : World) (f_a : okScrR 9223372036854775807 w a) (h1 : 0 ≤ left) (h2 : left ≤ 1048576) :
    Calls Tryz.prog 19 #[.agg (cScr a).toArray, i64 left] w fun e w' => e = .returned (.int .i64 (szR left (totScr a.dat))) ∧ St w [] [] w' := by
 have nb_a_Main_Cells := f_a.Main.Cells_n
 have nl_a_Main_Cells := f_a.Main.Cells.len
 have nb_a_Alt_Cells := f_a.Alt.Cells_n
 have nl_a_Alt_Cells := f_a.Alt.Cells.len
 have nb_a_Tabs := f_a.Tabs_n
 have nl_a_Tabs := f_a.Tabs.len
 have nb_a_Back := f_a.Back_n
 have nl_a_Back := f_a.Back.sl.len
 refine enter 30 Tryz.func19 rfl Tryz.ntmps19 rfl rfl ?_
 have hs1 := St.init w
 refine WC.sr (WL.bx hs1 rfl (fun b2 _ hs3 => WL.r 1 hs3 [] rfl (WL.nil (WC.sr (WL.r 3 hs3 [0] rfl ?_)))))
 refine WL.cl Tryz.call60 rfl (k23_ a.Main _ _ (okGridR.st0 f_a.Main hs3) ?_ ?_) ?_
 · first | assumption | omega
 · first | assumption | omega | exact szR_b (by assumption) (by omega) (by first | assumption | omega)
 rintro _ whs4 ⟨rfl, hs4⟩
 replace hs4 := hs3.call0 hs4
 refine ⟨_, rfl, WL.r 1 hs4 [] rfl (WL.nil (WC.seq (fun K5 hK5 => WC.r1 hs4 [] rfl ?_)))⟩
 refine WC.cD rfl (fun qh6 => ?_) (fun qh6 => ?_)
 ·try have soh6 := szR_ok qh6 (by omega)
  try have sbh6 := szR_b qh6 (by omega) (by first | assumption | omega)
  try have snh6 := szR_no qh6
  refine WC.r1 hs4 [] rfl (WC.ret (tkR ?_))
  clear hK5
  refine rtv rfl rfl hs4 ?_
  simp only [totGrid, totScr, GridR.dat, ScrR.dat] at *; first | (rw [szR_lt (by omega)]; done) | (refine congrArg (Value.int _) ?_; symm; refine (szR_le ?_).trans ?_ <;> omega) | rfl
 try have soh6 := szR_ok qh6 (by omega)
 try have sbh6 := szR_b qh6 (by omega) (by first | assumption | omega)
 try have snh6 := szR_no qh6
 refine WC.skip (hK5 _ _ (WC.sr (WL.r 3 hs4 [0] rfl ?_)))
 refine WL.cl Tryz.call60 rfl (k23_ a.Alt _ _ (okGridR.st0 f_a.Alt hs4) ?_ ?_) ?_
 · first | assumption | omega
 · first | assumption | omega | exact szR_b (by assumption) (by omega) (by first | assumption | omega)
 rintro _ whs7 ⟨rfl, hs7⟩
 replace hs7 := hs4.call0 hs7
 refine ⟨_, rfl, WL.r 1 hs7 [] rfl (WL.nil (WC.seq (fun K8 hK8 => WC.r1 hs7 [] rfl ?_)))⟩
 refine WC.cD rfl (fun qh9 => ?_) (fun qh9 => ?_)
 ·try have soh9 := szR_ok qh9 (by omega)
  try have sbh9 := szR_b qh9 (by omega) (by first | assumption | omega)
  try have snh9 := szR_no qh9
  refine WC.r1 hs7 [] rfl (WC.ret (tkR ?_))
  clear hK8
  refine rtv rfl rfl hs7 ?_
  simp only [totGrid, totScr, GridR.dat, ScrR.dat] at *; first | (rw [szR_lt (by omega)]; done) | (refine congrArg (Value.int _) ?_; symm; refine (szR_le ?_).trans ?_ <;> omega) | rfl
 try have soh9 := szR_ok qh9 (by omega)
 try have sbh9 := szR_b qh9 (by omega) (by first | assumption | omega)
 try have snh9 := szR_no qh9
 refine WC.skip (hK8 _ _ (WC.sr (WL.r 3 hs7 [0] rfl ?_)))
 refine WL.cl Tryz.call61 rfl (k13_ _ _ _ _ _ _ (SlF.st0 f_a.Tabs hs7) ?_ ?_ ?_) ?_
 · first | assumption | omega
 · first | assumption | omega | exact szR_b (by assumption) (by omega) (by first | assumption | omega)
 · first | assumption | omega
 rintro _ whs10 ⟨rfl, hs10⟩
 replace hs10 := hs7.call0 hs10
 refine ⟨_, rfl, WL.r 1 hs10 [] rfl (WL.nil (WC.seq (fun K11 hK11 => WC.r1 hs10 [] rfl ?_)))⟩
 refine WC.cD rfl (fun qh12 => ?_) (fun qh12 => ?_)
 ·try have soh12 := szR_ok qh12 (by omega)
  try have sbh12 := szR_b qh12 (by omega) (by first | assumption | omega)
  try have snh12 := szR_no qh12
  refine WC.r1 hs10 [] rfl (WC.ret (tkR ?_))
  clear hK11
  refine rtv rfl rfl hs10 ?_
  simp only [totGrid, totScr, GridR.dat, ScrR.dat] at *; first | (rw [szR_lt (by omega)]; done) | (refine congrArg (Value.int _) ?_; symm; refine (szR_le ?_).trans ?_ <;> omega) | rfl
 try have soh12 := szR_ok qh12 (by omega)
 try have sbh12 := szR_b qh12 (by omega) (by first | assumption | omega)
 try have snh12 := szR_no qh12
 refine WC.skip (hK11 _ _ (WC.sr (WL.r 3 hs10 [0] rfl ?_)))
 refine WL.cl Tryz.call62 rfl (k30_ _ _ _ _ _ _ (SlN.st0 okRowR.st0 f_a.Back hs10) ?_ ?_ ?_) ?_
 · first | assumption | omega
 · first | assumption | omega | exact szR_b (by assumption) (by omega) (by first | assumption | omega)
 · first | assumption | omega
 rintro _ whs13 ⟨rfl, hs13⟩
 replace hs13 := hs10.call0 hs13
 refine ⟨_, rfl, WL.r 1 hs13 [] rfl (WL.nil (WC.seq (fun K14 hK14 => WC.r1 hs13 [] rfl ?_)))⟩
 refine WC.cD rfl (fun qh15 => ?_) (fun qh15 => ?_)
 ·try have soh15 := szR_ok qh15 (by omega)
  try have sbh15 := szR_b qh15 (by omega) (by first | assumption | omega)
  try have snh15 := szR_no qh15
  refine WC.r1 hs13 [] rfl (WC.ret (tkR ?_))
  clear hK14
  refine rtv rfl rfl hs13 ?_
  simp only [totGrid, totScr, GridR.dat, ScrR.dat] at *; first | (rw [szR_lt (by omega)]; done) | (refine congrArg (Value.int _) ?_; symm; refine (szR_le ?_).trans ?_ <;> omega) | rfl
 try have soh15 := szR_ok qh15 (by omega)
 try have sbh15 := szR_b qh15 (by omega) (by first | assumption | omega)
 try have snh15 := szR_no qh15
 refine WC.skip (hK14 _ _ (WC.r1 hs13 [] rfl (WC.ret (rtv rfl rfl hs13 ?_))))
 simp only [totGrid, totScr, GridR.dat, ScrR.dat] at *; first | (rw [szR_lt (by omega)]; done) | (refine congrArg (Value.int _) ?_; symm; refine (szR_le ?_).trans ?_ <;> omega) | rfl
set_option maxHeartbeats 4000000 in
theorem k188_ (a : ScrR) (L_a : Hp) (k : Int) (w : World) (o_a : ownScrR a L_a) (h_a : Hh w L_a) (hd_ : ((L_a).map (·.1)).Nodup) (h1 : 0 ≤ k) (h2 : endScr k a ≤ 549755813888) (hb_Back : a.Back.xs.length ≤ 549755813888) :
    Calls Tryz.prog 24 #[.agg (cScr a).toArray, i64 k] w fun e w' => ∃ L1, e = .returned (.int .i64 (endScr k a)) ∧ St w (L_a.map (·.1)) L1 w' ∧ ownScrR (markScr k a) L1 := by
 have hq2 := h2
 simp only [endGrid, endScr] at hq2
 have hcn_Back := cnts_nonneg (c := cntERow) (fun x => by simp only [cntERow]; omega) a.Back.xs
 refine enter 22 Tryz.func24 rfl Tryz.ntmps24 rfl rfl ?_
 have hs1 := St.takes1 w L_a h_a hd_
 refine WC.sr (WL.bx hs1 rfl (fun b2 _ hs3 => WL.r 1 hs3 [] rfl (WL.nil (WC.sr (WL.r 3 hs3 [0] rfl ?_)))))
 obtain ⟨L4, L5, L6, L7, hs12, ho8, ho9, ho10, ho11⟩ := ownScrR.op hs3 o_a
 have hs13 := (hs12.fb b2)
 refine WL.cl Tryz.call80 rfl (k35_ ⟨a.Main.W, a.Main.H, SlD.of ho8⟩ _ _ _ ho8 (hs13.ow L4) (St.nodupL (hs13.fr L4)) ?_ ?_) ?_
 · first | assumption | omega | (simp only [endGrid, endScr]; omega)
 · first | assumption | omega | (simp only [endGrid]; omega) | (simp only [endGrid, endScr]; omega)
 rintro _ whs14 ⟨L1_15, rfl, hs14, ho16⟩
 replace hs14 := St.lend (hs13.fr L4) hs14
 refine ⟨_, rfl, ?_⟩
 replace hs14 := St.back [_] hs14
 refine WL.r 1 hs14 [] rfl (WL.nil (WC.sr (WL.r 3 hs14 [0] rfl (WL.cl Tryz.call80 rfl (k35_ ⟨a.Alt.W, a.Alt.H, SlD.of ho9⟩ _ _ _ ho9 (hs14.ow L5) (St.nodupL (hs14.fr L5)) ?_ ?_) ?_))))
 · first | assumption | omega | (simp only [endGrid, endScr]; omega)
 · first | assumption | omega | (simp only [endGrid]; omega) | (simp only [endGrid, endScr]; omega)
 rintro _ whs17 ⟨L1_18, rfl, hs17, ho19⟩
 replace hs17 := St.lend (hs14.fr L5) hs17
 refine ⟨_, rfl, ?_⟩
 replace hs17 := St.back [_] hs17
 refine WL.r 1 hs17 [] rfl (WL.nil (WC.sr (WL.r 3 hs17 [0] rfl (WL.cl Tryz.call34 rfl (k19_ _ _ _ _ _ ho10 (hs17.ow L6) ?_ ?_ ?_) ?_))))
 iterate 3 first | assumption | rfl | omega | (simp only [endGrid, endScr]; omega)
 rintro _ whs20 ⟨L1_21, rfl, hs20, ho22⟩
 replace hs20 := St.lend (hs17.fr L6) hs20
 refine ⟨_, rfl, ?_⟩
 replace hs20 := St.back [_] hs20
 refine WL.r 1 hs20 [] rfl (WL.nil (WC.sr (WL.r 3 hs20 [0] rfl (WL.cl Tryz.call81 rfl (k33_ _ _ _ _ _ ho11 (hs20.ow L7) (St.nodupL (hs20.fr L7)) ?_ ?_ ?_) ?_))))
 iterate 3 first | assumption | omega | (simp only [endGrid, endScr]; omega)
 rintro _ whs23 ⟨L1_24, rfl, hs23, ho25⟩
 replace hs23 := St.lend (hs20.fr L7) hs23
 refine ⟨_, rfl, ?_⟩
 replace hs23 := St.back [_] hs23
 refine WL.r 1 hs23 [] rfl (WL.nil (WC.r1 hs23 [] rfl (WC.ret (retV1 rfl (resV.tmp rfl) ?_))))
 obtain ⟨L27, hs26, ho28⟩ := ownScrR.fl hs23 ho16 ho19 ho22 ho25
 have hs29 := (hs26.fb b2)
 refine ⟨_, congrArg Ending.returned ?_, (St.keep1 (hs29.fr L27)), (by exact ho28)⟩
 first | rfl | (simp [endScr]; done) | (simp [endScr]; omega)
set_option maxHeartbeats 4000000 in
theorem k189_ (a : ScrR) (k : Int) (w : World) (f_a : okScrR 549755813888 w (markScr k a)) (h1 : 0 ≤ k) (h2 : endScr k a ≤ 549755813888) :
    Calls Tryz.prog 25 #[.agg (cScr a).toArray, i64 k] w fun e w' => e = .returned (.int .i64 (endScr k a)) ∧ St w [] [] w' := by
 have fm_Main : okGridR 549755813888 w (markGrid k a.Main) := f_a.Main
 have fm_Alt : okGridR 549755813888 w (markGrid (endGrid k a.Main) a.Alt) := f_a.Alt
 have nb_Main_Cells : a.Main.Cells.n ≤ 549755813888 := f_a.Main.Cells_n
 have nl_Main_Cells : a.Main.Cells.xs.length = a.Main.Cells.n := by have h_ := f_a.Main.Cells.len; simpa [markGrid, markScr, marks_len, mrks_len] using h_
 have nb_Alt_Cells : a.Alt.Cells.n ≤ 549755813888 := f_a.Alt.Cells_n
 have nl_Alt_Cells : a.Alt.Cells.xs.length = a.Alt.Cells.n := by have h_ := f_a.Alt.Cells.len; simpa [markGrid, markScr, marks_len, mrks_len] using h_
 have nb_Tabs : a.Tabs.n ≤ 549755813888 := f_a.Tabs_n
 have nl_Tabs : a.Tabs.xs.length = a.Tabs.n := by have h_ := f_a.Tabs.len; simpa [markGrid, markScr, marks_len, mrks_len] using h_
 have nb_Back : a.Back.n ≤ 549755813888 := f_a.Back_n
 have nl_Back : a.Back.xs.length = a.Back.n := by have h_ := f_a.Back.sl.len; simpa [markGrid, markScr, marks_len, mrks_len] using h_
 have fm_Main : okGridR 549755813888 w (markGrid k a.Main) := f_a.Main
 have fm_Alt : okGridR 549755813888 w (markGrid (endGrid k a.Main) a.Alt) := f_a.Alt
 have nb_Main_Cells : a.Main.Cells.n ≤ 549755813888 := f_a.Main.Cells_n
 have nl_Main_Cells : a.Main.Cells.xs.length = a.Main.Cells.n := by have h_ := f_a.Main.Cells.len; simpa [markGrid, markScr, marks_len, mrks_len] using h_
 have nb_Alt_Cells : a.Alt.Cells.n ≤ 549755813888 := f_a.Alt.Cells_n
 have nl_Alt_Cells : a.Alt.Cells.xs.length = a.Alt.Cells.n := by have h_ := f_a.Alt.Cells.len; simpa [markGrid, markScr, marks_len, mrks_len] using h_
 have nb_Tabs : a.Tabs.n ≤ 549755813888 := f_a.Tabs_n
 have nl_Tabs : a.Tabs.xs.length = a.Tabs.n := by have h_ := f_a.Tabs.len; simpa [markGrid, markScr, marks_len, mrks_len] using h_
 have nb_Back : a.Back.n ≤ 549755813888 := f_a.Back_n
 have nl_Back : a.Back.xs.length = a.Back.n := by have h_ := f_a.Back.sl.len; simpa [markGrid, markScr, marks_len, mrks_len] using h_
 have hq2 := h2
 simp only [endGrid, endScr] at hq2
 have hcn_Back := cnts_nonneg (c := cntERow) (fun x => by simp only [cntERow]; omega) a.Back.xs
 refine enter 30 Tryz.func25 rfl Tryz.ntmps25 rfl rfl ?_
 have hs1 := St.init w
 refine WC.sr (WL.bx hs1 rfl (fun b2 _ hs3 => WL.r 1 hs3 [] rfl (WL.nil (WC.sr (WL.r 3 hs3 [0] rfl ?_)))))
 refine WL.cl Tryz.call82 rfl (k36_ _ _ _ (okGridR.st0 fm_Main hs3) ?_ ?_) ?_
 · first | assumption | omega | (simp only [endGrid, endScr]; omega)
 · first | assumption | omega | (simp only [endGrid]; omega) | (simp only [endGrid, endScr]; omega)
 rintro _ whs4 ⟨rfl, hs4⟩
 replace hs4 := hs3.call0 hs4
 refine ⟨_, rfl, WL.r 1 hs4 [] rfl (WL.nil (WC.seq (fun K5 hK5 => WC.r1 hs4 [] rfl ?_)))⟩
 refine WC.condF rfl (by first | (simp; omega) | (rw [decide_eq_false_iff_not]; simp only [endGrid, endScr]; omega)) (WC.skip (hK5 _ _ (WC.sr (WL.r 3 hs4 [0] rfl ?_))))
 refine WL.cl Tryz.call82 rfl (k36_ _ _ _ (okGridR.st0 fm_Alt hs4) ?_ ?_) ?_
 · first | assumption | omega | (simp only [endGrid, endScr]; omega)
 · first | assumption | omega | (simp only [endGrid]; omega) | (simp only [endGrid, endScr]; omega)
 rintro _ whs7 ⟨rfl, hs7⟩
 replace hs7 := hs4.call0 hs7
 refine ⟨_, rfl, WL.r 1 hs7 [] rfl (WL.nil (WC.seq (fun K8 hK8 => WC.r1 hs7 [] rfl ?_)))⟩
 refine WC.condF rfl (by first | (simp; omega) | (rw [decide_eq_false_iff_not]; simp only [endGrid, endScr]; omega)) (WC.skip (hK8 _ _ (WC.sr (WL.r 3 hs7 [0] rfl ?_))))
 refine WL.cl Tryz.call83 rfl (k20_ _ _ _ _ _ _ _ (SlF.st0 f_a.Tabs hs7) rfl ?_ ?_ ?_) ?_
 iterate 3 first | assumption | rfl | omega | (simp only [endGrid, endScr]; omega)
 rintro _ whs10 ⟨rfl, hs10⟩
 replace hs10 := hs7.call0 hs10
 refine ⟨_, rfl, WL.r 1 hs10 [] rfl (WL.nil (WC.seq (fun K11 hK11 => WC.r1 hs10 [] rfl ?_)))⟩
 refine WC.condF rfl (by first | (simp; omega) | (rw [decide_eq_false_iff_not]; simp only [endGrid, endScr]; omega)) (WC.skip (hK11 _ _ (WC.sr (WL.r 3 hs10 [0] rfl ?_))))
 refine WL.cl Tryz.call84 rfl (k34_ _ _ _ _ _ _ (SlN.st0 okRowR.st0 f_a.Back hs10) ?_ ?_ ?_) ?_
 iterate 3 first | assumption | omega | (simp only [endGrid, endScr]; omega)
 rintro _ whs13 ⟨rfl, hs13⟩
 replace hs13 := hs10.call0 hs13
 refine ⟨_, rfl, WL.r 1 hs13 [] rfl (WL.nil (WC.seq (fun K14 hK14 => WC.r1 hs13 [] rfl ?_)))⟩
 refine WC.condF rfl (by first | (simp; omega) | (rw [decide_eq_false_iff_not]; simp only [endGrid, endScr]; omega)) (WC.skip (hK14 _ _ (WC.r1 hs13 [] rfl (WC.ret (rtv rfl rfl hs13 ?_)))))
 first | rfl | (simp [endGrid, endScr, *]; done) | (simp [endGrid, endScr, *]; omega)
set_option maxHeartbeats 4000000 in
theorem k190_ (a : TermR) (w : World) (f_a : okTermR 549755813888 w a) :
    Calls Tryz.prog 49 #[.agg #[i64 a.P.State, .bool a.P.Mark, .slice a.P.Args.A a.P.Args.n a.P.Args.c, .slice a.P.Part.A a.P.Part.n a.P.Part.c, i64 a.S.W, i64 a.S.H, i64 a.S.Main.W, i64 a.S.Main.H, .slice a.S.Main.Cells.A a.S.Main.Cells.n a.S.Main.Cells.c, i64 a.S.Alt.W, i64 a.S.Alt.H, .slice a.S.Alt.Cells.A a.S.Alt.Cells.n a.S.Alt.Cells.c, .bool a.S.OnAlt, i64 a.S.X, i64 a.S.Y, .bool a.S.Wrap, i64 a.S.A.Fg, i64 a.S.A.Bg, .bool a.S.A.Bold, .bool a.S.A.Under, .bool a.S.A.Turn, i64 a.S.Top, i64 a.S.Bot, .bool a.S.NoWrap, .bool a.S.Hide, i64 a.S.SaveX, i64 a.S.SaveY, i64 a.S.SaveA.Fg, i64 a.S.SaveA.Bg, .bool a.S.SaveA.Bold, .bool a.S.SaveA.Under, .bool a.S.SaveA.Turn, .slice a.S.Tabs.A a.S.Tabs.n a.S.Tabs.c, i64 a.S.Limit, .slice a.S.Back.A a.S.Back.n a.S.Back.c]] w fun e w' => ∃ r L1, e = .returned (.agg #[i64 r.P.State, .bool r.P.Mark, .slice r.P.Args.A r.P.Args.n r.P.Args.c, .slice r.P.Part.A r.P.Part.n r.P.Part.c, i64 r.S.W, i64 r.S.H, i64 r.S.Main.W, i64 r.S.Main.H, .slice r.S.Main.Cells.A r.S.Main.Cells.n r.S.Main.Cells.c, i64 r.S.Alt.W, i64 r.S.Alt.H, .slice r.S.Alt.Cells.A r.S.Alt.Cells.n r.S.Alt.Cells.c, .bool r.S.OnAlt, i64 r.S.X, i64 r.S.Y, .bool r.S.Wrap, i64 r.S.A.Fg, i64 r.S.A.Bg, .bool r.S.A.Bold, .bool r.S.A.Under, .bool r.S.A.Turn, i64 r.S.Top, i64 r.S.Bot, .bool r.S.NoWrap, .bool r.S.Hide, i64 r.S.SaveX, i64 r.S.SaveY, i64 r.S.SaveA.Fg, i64 r.S.SaveA.Bg, .bool r.S.SaveA.Bold, .bool r.S.SaveA.Under, .bool r.S.SaveA.Turn, .slice r.S.Tabs.A r.S.Tabs.n r.S.Tabs.c, i64 r.S.Limit, .slice r.S.Back.A r.S.Back.n r.S.Back.c]) ∧ St w [] L1 w' ∧ ownTermR r L1 ∧ r.dat = a.dat := by
 have nb_a_P_Args := f_a.P.Args_n
 have nl_a_P_Args := f_a.P.Args.len
 have nb_a_P_Part := f_a.P.Part_n
 have nl_a_P_Part := f_a.P.Part.len
 have nb_a_S_Main_Cells := f_a.S.Main.Cells_n
 have nl_a_S_Main_Cells := f_a.S.Main.Cells.len
 have nb_a_S_Alt_Cells := f_a.S.Alt.Cells_n
 have nl_a_S_Alt_Cells := f_a.S.Alt.Cells.len
 have nb_a_S_Tabs := f_a.S.Tabs_n
 have nl_a_S_Tabs := f_a.S.Tabs.len
 have nb_a_S_Back := f_a.S.Back_n
 have nl_a_S_Back := f_a.S.Back.sl.len
 refine enter 13 Tryz.func49 rfl Tryz.ntmps49 rfl rfl ?_
 have hs1 := St.init w
 refine WC.sr (WL.bx hs1 rfl (fun b2 _ hs3 => WL.al hs3 Tryz.zeroValue35 rfl rfl (fun b4 _ hs5 => WL.nil (WC.sr (WL.al hs5 Tryz.zeroValue35 rfl rfl (fun b6 _ hs7 => WL.nil (WC.sr ?_)))))))
 refine WL.r 2 hs7 [2] rfl (WL.cl Tryz.call120 rfl (k24_ a.P _ (okVpR.st0 f_a.P hs7)) ?_)
 rintro _ whs8 ⟨r9, L1_10, rfl, hs8, ho11, hd12⟩
 replace hs8 := hs7.callF hs8
 refine ⟨_, rfl, ?_⟩
 replace hs8 := St.back [_, _, _] hs8
 refine WL.r 1 hs8 [] rfl (WL.st tbk hs8 0 rfl rfl (fun _ hs13 => WL.nil (WC.sr (WL.r 2 hs13 [2] rfl (WL.cl Tryz.call21 rfl (k185_ a.S _ (okScrR.st0 f_a.S hs13)) ?_)))))
 rintro _ whs14 ⟨r15, L1_16, rfl, hs14, ho17, hd18⟩
 replace hs14 := hs13.callF hs14
 refine ⟨_, rfl, ?_⟩
 replace hs14 := St.back [_, _, _] hs14
 refine WL.r 1 hs14 [] rfl (WL.st tbk hs14 0 rfl rfl (fun _ hs19 => WL.nil (WC.sr (WL.r 1 hs19 [0] rfl (WL.st tbk hs19 1 rfl rfl (fun _ hs20 => WL.nil (WC.ret ?_)))))))
 refine retV1 rfl (resV.cellA tbk hs20 1 rfl rfl rfl rfl) ?_
 obtain ⟨L21, L22, hs25, ho23, ho24⟩ := ownVpR.op hs20 ho11
 have hs26 := (((hs25.fb b2).fb b4).fb b6)
 obtain ⟨L27, L28, L29, L30, hs35, ho31, ho32, ho33, ho34⟩ := ownScrR.op hs26 ho17
 have hs36 := (((hs35.fb b2).fb b4).fb b6)
 obtain ⟨L38, hs37, ho39⟩ := ownTermR.fl hs36 ho23 ho24 ho31 ho32 ho33 ho34
 have hs40 := (((hs37.fb b2).fb b4).fb b6)
 refine ⟨⟨⟨r9.State, r9.Mark, SlD.of ho23, SlD.of ho24⟩, ⟨r15.W, r15.H, ⟨r15.Main.W, r15.Main.H, SlD.of ho31⟩, ⟨r15.Alt.W, r15.Alt.H, SlD.of ho32⟩, r15.OnAlt, r15.X, r15.Y, r15.Wrap, ⟨r15.A.Fg, r15.A.Bg, r15.A.Bold, r15.A.Under, r15.A.Turn⟩, r15.Top, r15.Bot, r15.NoWrap, r15.Hide, r15.SaveX, r15.SaveY, ⟨r15.SaveA.Fg, r15.SaveA.Bg, r15.SaveA.Bold, r15.SaveA.Under, r15.SaveA.Turn⟩, SlD.of ho33, r15.Limit, SlD.ofN ho34⟩⟩, _, rfl, (St.keep1 (hs40.fr L38)), ?_, ?_⟩
 · exact (by exact ho39)
 · exact TermD.ext' hd12 hd18
set_option maxHeartbeats 4000000 in
theorem k191_ (a : TermR) (b : TermR) (w : World) (f_a : okTermR 549755813888 w a) (f_b : okTermR 549755813888 w b) (hab : a.dat = b.dat) :
    Calls Tryz.prog 14 #[.agg #[i64 a.P.State, .bool a.P.Mark, .slice a.P.Args.A a.P.Args.n a.P.Args.c, .slice a.P.Part.A a.P.Part.n a.P.Part.c, i64 a.S.W, i64 a.S.H, i64 a.S.Main.W, i64 a.S.Main.H, .slice a.S.Main.Cells.A a.S.Main.Cells.n a.S.Main.Cells.c, i64 a.S.Alt.W, i64 a.S.Alt.H, .slice a.S.Alt.Cells.A a.S.Alt.Cells.n a.S.Alt.Cells.c, .bool a.S.OnAlt, i64 a.S.X, i64 a.S.Y, .bool a.S.Wrap, i64 a.S.A.Fg, i64 a.S.A.Bg, .bool a.S.A.Bold, .bool a.S.A.Under, .bool a.S.A.Turn, i64 a.S.Top, i64 a.S.Bot, .bool a.S.NoWrap, .bool a.S.Hide, i64 a.S.SaveX, i64 a.S.SaveY, i64 a.S.SaveA.Fg, i64 a.S.SaveA.Bg, .bool a.S.SaveA.Bold, .bool a.S.SaveA.Under, .bool a.S.SaveA.Turn, .slice a.S.Tabs.A a.S.Tabs.n a.S.Tabs.c, i64 a.S.Limit, .slice a.S.Back.A a.S.Back.n a.S.Back.c], .agg #[i64 b.P.State, .bool b.P.Mark, .slice b.P.Args.A b.P.Args.n b.P.Args.c, .slice b.P.Part.A b.P.Part.n b.P.Part.c, i64 b.S.W, i64 b.S.H, i64 b.S.Main.W, i64 b.S.Main.H, .slice b.S.Main.Cells.A b.S.Main.Cells.n b.S.Main.Cells.c, i64 b.S.Alt.W, i64 b.S.Alt.H, .slice b.S.Alt.Cells.A b.S.Alt.Cells.n b.S.Alt.Cells.c, .bool b.S.OnAlt, i64 b.S.X, i64 b.S.Y, .bool b.S.Wrap, i64 b.S.A.Fg, i64 b.S.A.Bg, .bool b.S.A.Bold, .bool b.S.A.Under, .bool b.S.A.Turn, i64 b.S.Top, i64 b.S.Bot, .bool b.S.NoWrap, .bool b.S.Hide, i64 b.S.SaveX, i64 b.S.SaveY, i64 b.S.SaveA.Fg, i64 b.S.SaveA.Bg, .bool b.S.SaveA.Bold, .bool b.S.SaveA.Under, .bool b.S.SaveA.Turn, .slice b.S.Tabs.A b.S.Tabs.n b.S.Tabs.c, i64 b.S.Limit, .slice b.S.Back.A b.S.Back.n b.S.Back.c]] w fun e w' => e = .returned (.bool true) ∧ St w [] [] w' := by
 have nb_a_P_Args := f_a.P.Args_n
 have nl_a_P_Args := f_a.P.Args.len
 have nb_a_P_Part := f_a.P.Part_n
 have nl_a_P_Part := f_a.P.Part.len
 have nb_a_S_Main_Cells := f_a.S.Main.Cells_n
 have nl_a_S_Main_Cells := f_a.S.Main.Cells.len
 have nb_a_S_Alt_Cells := f_a.S.Alt.Cells_n
 have nl_a_S_Alt_Cells := f_a.S.Alt.Cells.len
 have nb_a_S_Tabs := f_a.S.Tabs_n
 have nl_a_S_Tabs := f_a.S.Tabs.len
 have nb_a_S_Back := f_a.S.Back_n
 have nl_a_S_Back := f_a.S.Back.sl.len
 have nb_b_P_Args := f_b.P.Args_n
 have nl_b_P_Args := f_b.P.Args.len
 have nb_b_P_Part := f_b.P.Part_n
 have nl_b_P_Part := f_b.P.Part.len
 have nb_b_S_Main_Cells := f_b.S.Main.Cells_n
 have nl_b_S_Main_Cells := f_b.S.Main.Cells.len
 have nb_b_S_Alt_Cells := f_b.S.Alt.Cells_n
 have nl_b_S_Alt_Cells := f_b.S.Alt.Cells.len
 have nb_b_S_Tabs := f_b.S.Tabs_n
 have nl_b_S_Tabs := f_b.S.Tabs.len
 have nb_b_S_Back := f_b.S.Back_n
 have nl_b_S_Back := f_b.S.Back.sl.len
 have e_P : a.P.dat = b.P.dat := congrArg (fun d : TermD => d.P) hab
 have e_P_State : a.P.State = b.P.State := congrArg (fun d : TermD => d.P.State) hab
 have e_P_Mark : a.P.Mark = b.P.Mark := congrArg (fun d : TermD => d.P.Mark) hab
 have e_P_Args : a.P.Args.xs = b.P.Args.xs := congrArg (fun d : TermD => d.P.Args) hab
 have e_P_Part : a.P.Part.xs = b.P.Part.xs := congrArg (fun d : TermD => d.P.Part) hab
 have e_S : a.S.dat = b.S.dat := congrArg (fun d : TermD => d.S) hab
 have e_S_W : a.S.W = b.S.W := congrArg (fun d : TermD => d.S.W) hab
 have e_S_H : a.S.H = b.S.H := congrArg (fun d : TermD => d.S.H) hab
 have e_S_Main : a.S.Main.dat = b.S.Main.dat := congrArg (fun d : TermD => d.S.Main) hab
 have e_S_Main_W : a.S.Main.W = b.S.Main.W := congrArg (fun d : TermD => d.S.Main.W) hab
 have e_S_Main_H : a.S.Main.H = b.S.Main.H := congrArg (fun d : TermD => d.S.Main.H) hab
 have e_S_Main_Cells : a.S.Main.Cells.xs = b.S.Main.Cells.xs := congrArg (fun d : TermD => d.S.Main.Cells) hab
 have e_S_Alt : a.S.Alt.dat = b.S.Alt.dat := congrArg (fun d : TermD => d.S.Alt) hab
 have e_S_Alt_W : a.S.Alt.W = b.S.Alt.W := congrArg (fun d : TermD => d.S.Alt.W) hab
 have e_S_Alt_H : a.S.Alt.H = b.S.Alt.H := congrArg (fun d : TermD => d.S.Alt.H) hab
 have e_S_Alt_Cells : a.S.Alt.Cells.xs = b.S.Alt.Cells.xs := congrArg (fun d : TermD => d.S.Alt.Cells) hab
 have e_S_OnAlt : a.S.OnAlt = b.S.OnAlt := congrArg (fun d : TermD => d.S.OnAlt) hab
 have e_S_X : a.S.X = b.S.X := congrArg (fun d : TermD => d.S.X) hab
 have e_S_Y : a.S.Y = b.S.Y := congrArg (fun d : TermD => d.S.Y) hab
 have e_S_Wrap : a.S.Wrap = b.S.Wrap := congrArg (fun d : TermD => d.S.Wrap) hab
 have e_S_A : a.S.A = b.S.A := congrArg (fun d : TermD => d.S.A) hab
 have e_S_A_Fg : a.S.A.Fg = b.S.A.Fg := congrArg (fun d : TermD => d.S.A.Fg) hab
 have e_S_A_Bg : a.S.A.Bg = b.S.A.Bg := congrArg (fun d : TermD => d.S.A.Bg) hab
 have e_S_A_Bold : a.S.A.Bold = b.S.A.Bold := congrArg (fun d : TermD => d.S.A.Bold) hab
 have e_S_A_Under : a.S.A.Under = b.S.A.Under := congrArg (fun d : TermD => d.S.A.Under) hab
 have e_S_A_Turn : a.S.A.Turn = b.S.A.Turn := congrArg (fun d : TermD => d.S.A.Turn) hab
 have e_S_Top : a.S.Top = b.S.Top := congrArg (fun d : TermD => d.S.Top) hab
 have e_S_Bot : a.S.Bot = b.S.Bot := congrArg (fun d : TermD => d.S.Bot) hab
 have e_S_NoWrap : a.S.NoWrap = b.S.NoWrap := congrArg (fun d : TermD => d.S.NoWrap) hab
 have e_S_Hide : a.S.Hide = b.S.Hide := congrArg (fun d : TermD => d.S.Hide) hab
 have e_S_SaveX : a.S.SaveX = b.S.SaveX := congrArg (fun d : TermD => d.S.SaveX) hab
 have e_S_SaveY : a.S.SaveY = b.S.SaveY := congrArg (fun d : TermD => d.S.SaveY) hab
 have e_S_SaveA : a.S.SaveA = b.S.SaveA := congrArg (fun d : TermD => d.S.SaveA) hab
 have e_S_SaveA_Fg : a.S.SaveA.Fg = b.S.SaveA.Fg := congrArg (fun d : TermD => d.S.SaveA.Fg) hab
 have e_S_SaveA_Bg : a.S.SaveA.Bg = b.S.SaveA.Bg := congrArg (fun d : TermD => d.S.SaveA.Bg) hab
 have e_S_SaveA_Bold : a.S.SaveA.Bold = b.S.SaveA.Bold := congrArg (fun d : TermD => d.S.SaveA.Bold) hab
 have e_S_SaveA_Under : a.S.SaveA.Under = b.S.SaveA.Under := congrArg (fun d : TermD => d.S.SaveA.Under) hab
 have e_S_SaveA_Turn : a.S.SaveA.Turn = b.S.SaveA.Turn := congrArg (fun d : TermD => d.S.SaveA.Turn) hab
 have e_S_Tabs : a.S.Tabs.xs = b.S.Tabs.xs := congrArg (fun d : TermD => d.S.Tabs) hab
 have e_S_Limit : a.S.Limit = b.S.Limit := congrArg (fun d : TermD => d.S.Limit) hab
 have e_S_Back : a.S.Back.xs.map RowR.dat = b.S.Back.xs.map RowR.dat := congrArg (fun d : TermD => d.S.Back) hab
 refine enter 17 Tryz.func14 rfl Tryz.ntmps14 rfl rfl ?_
 have hs1 := St.init w
 refine WC.sr (WL.bx hs1 rfl (fun b2 _ hs3 => WL.bx hs3 rfl (fun b4 _ hs5 => WL.r 1 hs5 [] rfl (WL.nil (WC.seq (fun K6 hK6 => WC.sr (WL.r 4 hs5 [1, 0] rfl ?_)))))))
 refine WL.cl Tryz.call57 rfl (k25_ a.P b.P _ (okVpR.st0 f_a.P hs5) (okVpR.st0 f_b.P hs5) ?_) ?_
 · first | assumption | rfl | omega
 rintro _ whs7 ⟨rfl, hs7⟩
 replace hs7 := hs5.call0 hs7
 refine ⟨_, rfl, WL.r 1 hs7 [] rfl (WL.nil (WC.condF rfl (by simp [e_P_State, e_P_Mark, e_S_W, e_S_H, e_S_Main_W, e_S_Main_H, e_S_Alt_W, e_S_Alt_H, e_S_OnAlt, e_S_X, e_S_Y, e_S_Wrap, e_S_A_Fg, e_S_A_Bg, e_S_A_Bold, e_S_A_Under, e_S_A_Turn, e_S_Top, e_S_Bot, e_S_NoWrap, e_S_Hide, e_S_SaveX, e_S_SaveY, e_S_SaveA_Fg, e_S_SaveA_Bg, e_S_SaveA_Bold, e_S_SaveA_Under, e_S_SaveA_Turn, e_S_Limit]) (WC.skip (hK6 _ _ (WC.seq (fun K9 hK9 => WC.sr ?_))))))⟩
 refine WL.r 4 hs7 [1, 0] rfl (WL.cl Tryz.call23 rfl (k186_ a.S b.S _ (okScrR.st0 f_a.S hs7) (okScrR.st0 f_b.S hs7) ?_) ?_)
 · first | assumption | rfl | omega
 rintro _ whs10 ⟨rfl, hs10⟩
 replace hs10 := hs7.call0 hs10
 refine ⟨_, rfl, WL.r 1 hs10 [] rfl (WL.nil (WC.condF rfl (by simp [e_P_State, e_P_Mark, e_S_W, e_S_H, e_S_Main_W, e_S_Main_H, e_S_Alt_W, e_S_Alt_H, e_S_OnAlt, e_S_X, e_S_Y, e_S_Wrap, e_S_A_Fg, e_S_A_Bg, e_S_A_Bold, e_S_A_Under, e_S_A_Turn, e_S_Top, e_S_Bot, e_S_NoWrap, e_S_Hide, e_S_SaveX, e_S_SaveY, e_S_SaveA_Fg, e_S_SaveA_Bg, e_S_SaveA_Bold, e_S_SaveA_Under, e_S_SaveA_Turn, e_S_Limit]) (WC.skip (hK9 _ _ (WC.r1 hs10 [] rfl (WC.ret ?_))))))⟩
 refine rtv rfl rfl hs10 ?_
 rfl
set_option maxHeartbeats 4000000 in
theorem k192_ (a : TermR) (left : Int) (w : World) (f_a : okTermR 9223372036854775807 w a) (h1 : 0 ≤ left) (h2 : left ≤ 1048576) :
    Calls Tryz.prog 47 #[.agg #[i64 a.P.State, .bool a.P.Mark, .slice a.P.Args.A a.P.Args.n a.P.Args.c, .slice a.P.Part.A a.P.Part.n a.P.Part.c, i64 a.S.W, i64 a.S.H, i64 a.S.Main.W, i64 a.S.Main.H, .slice a.S.Main.Cells.A a.S.Main.Cells.n a.S.Main.Cells.c, i64 a.S.Alt.W, i64 a.S.Alt.H, .slice a.S.Alt.Cells.A a.S.Alt.Cells.n a.S.Alt.Cells.c, .bool a.S.OnAlt, i64 a.S.X, i64 a.S.Y, .bool a.S.Wrap, i64 a.S.A.Fg, i64 a.S.A.Bg, .bool a.S.A.Bold, .bool a.S.A.Under, .bool a.S.A.Turn, i64 a.S.Top, i64 a.S.Bot, .bool a.S.NoWrap, .bool a.S.Hide, i64 a.S.SaveX, i64 a.S.SaveY, i64 a.S.SaveA.Fg, i64 a.S.SaveA.Bg, .bool a.S.SaveA.Bold, .bool a.S.SaveA.Under, .bool a.S.SaveA.Turn, .slice a.S.Tabs.A a.S.Tabs.n a.S.Tabs.c, i64 a.S.Limit, .slice a.S.Back.A a.S.Back.n a.S.Back.c], i64 left] w fun e w' => e = .returned (.int .i64 (szR left (totTerm a.dat))) ∧ St w [] [] w' := by
 have nb_a_P_Args := f_a.P.Args_n
 have nl_a_P_Args := f_a.P.Args.len
 have nb_a_P_Part := f_a.P.Part_n
 have nl_a_P_Part := f_a.P.Part.len
 have nb_a_S_Main_Cells := f_a.S.Main.Cells_n
 have nl_a_S_Main_Cells := f_a.S.Main.Cells.len
 have nb_a_S_Alt_Cells := f_a.S.Alt.Cells_n
 have nl_a_S_Alt_Cells := f_a.S.Alt.Cells.len
 have nb_a_S_Tabs := f_a.S.Tabs_n
 have nl_a_S_Tabs := f_a.S.Tabs.len
 have nb_a_S_Back := f_a.S.Back_n
 have nl_a_S_Back := f_a.S.Back.sl.len
 refine enter 18 Tryz.func47 rfl Tryz.ntmps47 rfl rfl ?_
 have hs1 := St.init w
 refine WC.sr (WL.bx hs1 rfl (fun b2 _ hs3 => WL.r 1 hs3 [] rfl (WL.nil (WC.sr (WL.r 3 hs3 [0] rfl ?_)))))
 refine WL.cl Tryz.call119 rfl (k26_ a.P _ _ (okVpR.st0 f_a.P hs3) ?_ ?_) ?_
 · first | assumption | omega
 · first | assumption | omega | exact szR_b (by assumption) (by omega) (by first | assumption | omega)
 rintro _ whs4 ⟨rfl, hs4⟩
 replace hs4 := hs3.call0 hs4
 refine ⟨_, rfl, WL.r 1 hs4 [] rfl (WL.nil (WC.seq (fun K5 hK5 => WC.r1 hs4 [] rfl ?_)))⟩
 refine WC.cD rfl (fun qh6 => ?_) (fun qh6 => ?_)
 ·try have soh6 := szR_ok qh6 (by omega)
  try have sbh6 := szR_b qh6 (by omega) (by first | assumption | omega)
  try have snh6 := szR_no qh6
  refine WC.r1 hs4 [] rfl (WC.ret (tkR ?_))
  clear hK5
  refine rtv rfl rfl hs4 ?_
  simp only [totGrid, totScr, totTerm, totVp, GridR.dat, ScrR.dat, TermR.dat, VpR.dat] at *; first | (rw [szR_lt (by omega)]; done) | (refine congrArg (Value.int _) ?_; symm; refine (szR_le ?_).trans ?_ <;> omega) | rfl
 try have soh6 := szR_ok qh6 (by omega)
 try have sbh6 := szR_b qh6 (by omega) (by first | assumption | omega)
 try have snh6 := szR_no qh6
 refine WC.skip (hK5 _ _ (WC.sr (WL.r 3 hs4 [0] rfl ?_)))
 refine WL.cl Tryz.call19 rfl (k187_ a.S _ _ (okScrR.st0 f_a.S hs4) ?_ ?_) ?_
 · first | assumption | omega
 · first | assumption | omega | exact szR_b (by assumption) (by omega) (by first | assumption | omega)
 rintro _ whs7 ⟨rfl, hs7⟩
 replace hs7 := hs4.call0 hs7
 refine ⟨_, rfl, WL.r 1 hs7 [] rfl (WL.nil (WC.seq (fun K8 hK8 => WC.r1 hs7 [] rfl ?_)))⟩
 refine WC.cD rfl (fun qh9 => ?_) (fun qh9 => ?_)
 ·try have soh9 := szR_ok qh9 (by omega)
  try have sbh9 := szR_b qh9 (by omega) (by first | assumption | omega)
  try have snh9 := szR_no qh9
  refine WC.r1 hs7 [] rfl (WC.ret (tkR ?_))
  clear hK8
  refine rtv rfl rfl hs7 ?_
  simp only [totGrid, totScr, totTerm, totVp, GridR.dat, ScrR.dat, TermR.dat, VpR.dat] at *; first | (rw [szR_lt (by omega)]; done) | (refine congrArg (Value.int _) ?_; symm; refine (szR_le ?_).trans ?_ <;> omega) | rfl
 try have soh9 := szR_ok qh9 (by omega)
 try have sbh9 := szR_b qh9 (by omega) (by first | assumption | omega)
 try have snh9 := szR_no qh9
 refine WC.skip (hK8 _ _ (WC.r1 hs7 [] rfl (WC.ret (rtv rfl rfl hs7 ?_))))
 simp only [totGrid, totScr, totTerm, totVp, GridR.dat, ScrR.dat, TermR.dat, VpR.dat] at *; first | (rw [szR_lt (by omega)]; done) | (refine congrArg (Value.int _) ?_; symm; refine (szR_le ?_).trans ?_ <;> omega) | rfl
set_option maxHeartbeats 4000000 in
theorem k193_ (a : TermR) (L_a : Hp) (k : Int) (w : World) (o_a : ownTermR a L_a) (h_a : Hh w L_a) (hd_ : ((L_a).map (·.1)).Nodup) (h1 : 0 ≤ k) (h2 : endTerm k a ≤ 549755813888) (hb_S_Back : a.S.Back.xs.length ≤ 549755813888) :
    Calls Tryz.prog 17 #[.agg #[i64 a.P.State, .bool a.P.Mark, .slice a.P.Args.A a.P.Args.n a.P.Args.c, .slice a.P.Part.A a.P.Part.n a.P.Part.c, i64 a.S.W, i64 a.S.H, i64 a.S.Main.W, i64 a.S.Main.H, .slice a.S.Main.Cells.A a.S.Main.Cells.n a.S.Main.Cells.c, i64 a.S.Alt.W, i64 a.S.Alt.H, .slice a.S.Alt.Cells.A a.S.Alt.Cells.n a.S.Alt.Cells.c, .bool a.S.OnAlt, i64 a.S.X, i64 a.S.Y, .bool a.S.Wrap, i64 a.S.A.Fg, i64 a.S.A.Bg, .bool a.S.A.Bold, .bool a.S.A.Under, .bool a.S.A.Turn, i64 a.S.Top, i64 a.S.Bot, .bool a.S.NoWrap, .bool a.S.Hide, i64 a.S.SaveX, i64 a.S.SaveY, i64 a.S.SaveA.Fg, i64 a.S.SaveA.Bg, .bool a.S.SaveA.Bold, .bool a.S.SaveA.Under, .bool a.S.SaveA.Turn, .slice a.S.Tabs.A a.S.Tabs.n a.S.Tabs.c, i64 a.S.Limit, .slice a.S.Back.A a.S.Back.n a.S.Back.c], i64 k] w fun e w' => ∃ L1, e = .returned (.int .i64 (endTerm k a)) ∧ St w (L_a.map (·.1)) L1 w' ∧ ownTermR (markTerm k a) L1 := by
 have hq2 := h2
 simp only [endGrid, endScr, endTerm, endVp] at hq2
 have hcn_S_Back := cnts_nonneg (c := cntERow) (fun x => by simp only [cntERow]; omega) a.S.Back.xs
 refine enter 14 Tryz.func17 rfl Tryz.ntmps17 rfl rfl ?_
 have hs1 := St.takes1 w L_a h_a hd_
 refine WC.sr (WL.bx hs1 rfl (fun b2 _ hs3 => WL.r 1 hs3 [] rfl (WL.nil (WC.sr (WL.r 3 hs3 [0] rfl ?_)))))
 obtain ⟨L4, L5, L6, L7, L8, L9, hs16, ho10, ho11, ho12, ho13, ho14, ho15⟩ := ownTermR.op hs3 o_a
 have hs17 := (hs16.fb b2)
 obtain ⟨L19, hs18, ho20⟩ := ownVpR.fl hs17 ho10 ho11
 have hs21 := (hs18.fb b2)
 refine WL.cl Tryz.call58 rfl (k37_ ⟨a.P.State, a.P.Mark, SlD.of ho10, SlD.of ho11⟩ _ _ _ (by exact ho20) (hs21.ow L19) (St.nodupL (hs21.fr L19)) ?_ ?_) ?_
 · first | assumption | omega | (simp only [endGrid, endScr, endTerm, endVp]; omega)
 · first | assumption | omega | (simp only [endVp]; omega) | (simp only [endGrid, endScr, endTerm, endVp]; omega)
 rintro _ whs22 ⟨L1_23, rfl, hs22, ho24⟩
 replace hs22 := St.lend (hs21.fr L19) hs22
 refine ⟨_, rfl, ?_⟩
 replace hs22 := St.back [_] hs22
 refine WL.r 1 hs22 [] rfl (WL.nil (WC.sr (WL.r 3 hs22 [0] rfl ?_)))
 obtain ⟨L26, hs25, ho27⟩ := ownScrR.fl hs22 ho12 ho13 ho14 ho15
 have hs28 := (hs25.fb b2)
 refine WL.cl Tryz.call24 rfl (k188_ ⟨a.S.W, a.S.H, ⟨a.S.Main.W, a.S.Main.H, SlD.of ho12⟩, ⟨a.S.Alt.W, a.S.Alt.H, SlD.of ho13⟩, a.S.OnAlt, a.S.X, a.S.Y, a.S.Wrap, ⟨a.S.A.Fg, a.S.A.Bg, a.S.A.Bold, a.S.A.Under, a.S.A.Turn⟩, a.S.Top, a.S.Bot, a.S.NoWrap, a.S.Hide, a.S.SaveX, a.S.SaveY, ⟨a.S.SaveA.Fg, a.S.SaveA.Bg, a.S.SaveA.Bold, a.S.SaveA.Under, a.S.SaveA.Turn⟩, SlD.of ho14, a.S.Limit, SlD.ofN ho15⟩ _ _ _ (by exact ho27) (hs28.ow L26) (St.nodupL (hs28.fr L26)) ?_ ?_ ?_) ?_
 · first | assumption | omega | (simp only [endGrid, endScr, endTerm, endVp]; omega)
 · first | assumption | omega | (simp only [endGrid, endScr]; omega) | (simp only [endGrid, endScr, endTerm, endVp]; omega)
 · first | assumption | omega | (simp only [endGrid, endScr, endTerm, endVp]; omega)
 rintro _ whs29 ⟨L1_30, rfl, hs29, ho31⟩
 replace hs29 := St.lend (hs28.fr L26) hs29
 refine ⟨_, rfl, ?_⟩
 replace hs29 := St.back [_] hs29
 refine WL.r 1 hs29 [] rfl (WL.nil (WC.r1 hs29 [] rfl (WC.ret (retV1 rfl (resV.tmp rfl) ?_))))
 obtain ⟨L32, L33, hs36, ho34, ho35⟩ := ownVpR.op hs29 ho24
 have hs37 := (hs36.fb b2)
 obtain ⟨L38, L39, L40, L41, hs46, ho42, ho43, ho44, ho45⟩ := ownScrR.op hs37 ho31
 have hs47 := (hs46.fb b2)
 obtain ⟨L49, hs48, ho50⟩ := ownTermR.fl hs47 ho34 ho35 ho42 ho43 ho44 ho45
 have hs51 := (hs48.fb b2)
 refine ⟨_, congrArg Ending.returned ?_, (St.keep1 (hs51.fr L49)), (by exact ho50)⟩
 first | rfl | (simp [endTerm]; done) | (simp [endTerm]; omega)
set_option maxHeartbeats 4000000 in
theorem k194_ (a : TermR) (k : Int) (w : World) (f_a : okTermR 549755813888 w (markTerm k a)) (h1 : 0 ≤ k) (h2 : endTerm k a ≤ 549755813888) :
    Calls Tryz.prog 18 #[.agg #[i64 a.P.State, .bool a.P.Mark, .slice a.P.Args.A a.P.Args.n a.P.Args.c, .slice a.P.Part.A a.P.Part.n a.P.Part.c, i64 a.S.W, i64 a.S.H, i64 a.S.Main.W, i64 a.S.Main.H, .slice a.S.Main.Cells.A a.S.Main.Cells.n a.S.Main.Cells.c, i64 a.S.Alt.W, i64 a.S.Alt.H, .slice a.S.Alt.Cells.A a.S.Alt.Cells.n a.S.Alt.Cells.c, .bool a.S.OnAlt, i64 a.S.X, i64 a.S.Y, .bool a.S.Wrap, i64 a.S.A.Fg, i64 a.S.A.Bg, .bool a.S.A.Bold, .bool a.S.A.Under, .bool a.S.A.Turn, i64 a.S.Top, i64 a.S.Bot, .bool a.S.NoWrap, .bool a.S.Hide, i64 a.S.SaveX, i64 a.S.SaveY, i64 a.S.SaveA.Fg, i64 a.S.SaveA.Bg, .bool a.S.SaveA.Bold, .bool a.S.SaveA.Under, .bool a.S.SaveA.Turn, .slice a.S.Tabs.A a.S.Tabs.n a.S.Tabs.c, i64 a.S.Limit, .slice a.S.Back.A a.S.Back.n a.S.Back.c], i64 k] w fun e w' => e = .returned (.int .i64 (endTerm k a)) ∧ St w [] [] w' := by
 have fm_P : okVpR 549755813888 w (markVp k a.P) := f_a.P
 have fm_S : okScrR 549755813888 w (markScr (endVp k a.P) a.S) := f_a.S
 have nb_P_Args : a.P.Args.n ≤ 549755813888 := f_a.P.Args_n
 have nl_P_Args : a.P.Args.xs.length = a.P.Args.n := by have h_ := f_a.P.Args.len; simpa [markGrid, markScr, markTerm, markVp, marks_len, mrks_len] using h_
 have nb_P_Part : a.P.Part.n ≤ 549755813888 := f_a.P.Part_n
 have nl_P_Part : a.P.Part.xs.length = a.P.Part.n := by have h_ := f_a.P.Part.len; simpa [markGrid, markScr, markTerm, markVp, marks_len, mrks_len] using h_
 have nb_S_Main_Cells : a.S.Main.Cells.n ≤ 549755813888 := f_a.S.Main.Cells_n
 have nl_S_Main_Cells : a.S.Main.Cells.xs.length = a.S.Main.Cells.n := by have h_ := f_a.S.Main.Cells.len; simpa [markGrid, markScr, markTerm, markVp, marks_len, mrks_len] using h_
 have nb_S_Alt_Cells : a.S.Alt.Cells.n ≤ 549755813888 := f_a.S.Alt.Cells_n
 have nl_S_Alt_Cells : a.S.Alt.Cells.xs.length = a.S.Alt.Cells.n := by have h_ := f_a.S.Alt.Cells.len; simpa [markGrid, markScr, markTerm, markVp, marks_len, mrks_len] using h_
 have nb_S_Tabs : a.S.Tabs.n ≤ 549755813888 := f_a.S.Tabs_n
 have nl_S_Tabs : a.S.Tabs.xs.length = a.S.Tabs.n := by have h_ := f_a.S.Tabs.len; simpa [markGrid, markScr, markTerm, markVp, marks_len, mrks_len] using h_
 have nb_S_Back : a.S.Back.n ≤ 549755813888 := f_a.S.Back_n
 have nl_S_Back : a.S.Back.xs.length = a.S.Back.n := by have h_ := f_a.S.Back.sl.len; simpa [markGrid, markScr, markTerm, markVp, marks_len, mrks_len] using h_
 have fm_P : okVpR 549755813888 w (markVp k a.P) := f_a.P
 have fm_S : okScrR 549755813888 w (markScr (endVp k a.P) a.S) := f_a.S
 have nb_P_Args : a.P.Args.n ≤ 549755813888 := f_a.P.Args_n
 have nl_P_Args : a.P.Args.xs.length = a.P.Args.n := by have h_ := f_a.P.Args.len; simpa [markGrid, markScr, markTerm, markVp, marks_len, mrks_len] using h_
 have nb_P_Part : a.P.Part.n ≤ 549755813888 := f_a.P.Part_n
 have nl_P_Part : a.P.Part.xs.length = a.P.Part.n := by have h_ := f_a.P.Part.len; simpa [markGrid, markScr, markTerm, markVp, marks_len, mrks_len] using h_
 have nb_S_Main_Cells : a.S.Main.Cells.n ≤ 549755813888 := f_a.S.Main.Cells_n
 have nl_S_Main_Cells : a.S.Main.Cells.xs.length = a.S.Main.Cells.n := by have h_ := f_a.S.Main.Cells.len; simpa [markGrid, markScr, markTerm, markVp, marks_len, mrks_len] using h_
 have nb_S_Alt_Cells : a.S.Alt.Cells.n ≤ 549755813888 := f_a.S.Alt.Cells_n
 have nl_S_Alt_Cells : a.S.Alt.Cells.xs.length = a.S.Alt.Cells.n := by have h_ := f_a.S.Alt.Cells.len; simpa [markGrid, markScr, markTerm, markVp, marks_len, mrks_len] using h_
 have nb_S_Tabs : a.S.Tabs.n ≤ 549755813888 := f_a.S.Tabs_n
 have nl_S_Tabs : a.S.Tabs.xs.length = a.S.Tabs.n := by have h_ := f_a.S.Tabs.len; simpa [markGrid, markScr, markTerm, markVp, marks_len, mrks_len] using h_
 have nb_S_Back : a.S.Back.n ≤ 549755813888 := f_a.S.Back_n
 have nl_S_Back : a.S.Back.xs.length = a.S.Back.n := by have h_ := f_a.S.Back.sl.len; simpa [markGrid, markScr, markTerm, markVp, marks_len, mrks_len] using h_
 have hq2 := h2
 simp only [endGrid, endScr, endTerm, endVp] at hq2
 have hcn_S_Back := cnts_nonneg (c := cntERow) (fun x => by simp only [cntERow]; omega) a.S.Back.xs
 refine enter 18 Tryz.func18 rfl Tryz.ntmps18 rfl rfl ?_
 have hs1 := St.init w
 refine WC.sr (WL.bx hs1 rfl (fun b2 _ hs3 => WL.r 1 hs3 [] rfl (WL.nil (WC.sr (WL.r 3 hs3 [0] rfl ?_)))))
 refine WL.cl Tryz.call59 rfl (k38_ _ _ _ (okVpR.st0 fm_P hs3) ?_ ?_) ?_
 · first | assumption | omega | (simp only [endGrid, endScr, endTerm, endVp]; omega)
 · first | assumption | omega | (simp only [endVp]; omega) | (simp only [endGrid, endScr, endTerm, endVp]; omega)
 rintro _ whs4 ⟨rfl, hs4⟩
 replace hs4 := hs3.call0 hs4
 refine ⟨_, rfl, WL.r 1 hs4 [] rfl (WL.nil (WC.seq (fun K5 hK5 => WC.r1 hs4 [] rfl ?_)))⟩
 refine WC.condF rfl (by first | (simp; omega) | (rw [decide_eq_false_iff_not]; simp only [endGrid, endScr, endTerm, endVp]; omega)) (WC.skip (hK5 _ _ (WC.sr (WL.r 3 hs4 [0] rfl ?_))))
 refine WL.cl Tryz.call25 rfl (k189_ _ _ _ (okScrR.st0 fm_S hs4) ?_ ?_) ?_
 · first | assumption | omega | (simp only [endGrid, endScr, endTerm, endVp]; omega)
 · first | assumption | omega | (simp only [endGrid, endScr]; omega) | (simp only [endGrid, endScr, endTerm, endVp]; omega)
 rintro _ whs7 ⟨rfl, hs7⟩
 replace hs7 := hs4.call0 hs7
 refine ⟨_, rfl, WL.r 1 hs7 [] rfl (WL.nil (WC.seq (fun K8 hK8 => WC.r1 hs7 [] rfl ?_)))⟩
 refine WC.condF rfl (by first | (simp; omega) | (rw [decide_eq_false_iff_not]; simp only [endGrid, endScr, endTerm, endVp]; omega)) (WC.skip (hK8 _ _ (WC.r1 hs7 [] rfl (WC.ret (rtv rfl rfl hs7 ?_)))))
 first | rfl | (simp [endGrid, endScr, endTerm, endVp, *]; done) | (simp [endGrid, endScr, endTerm, endVp, *]; omega)
set_option maxHeartbeats 8000000 in
theorem k195_ (aT : TermR) (A_aB : Option Addr) (n_aB c_aB : Nat) (aB : List UInt8) (w : World) (f_aT : okTermR 9223372036854775807 w aT) (f_aB : SlF encB w A_aB n_aB aB) :
    Calls Tryz.prog 10 #[.agg #[i64 aT.P.State, .bool aT.P.Mark, .slice aT.P.Args.A aT.P.Args.n aT.P.Args.c, .slice aT.P.Part.A aT.P.Part.n aT.P.Part.c, i64 aT.S.W, i64 aT.S.H, i64 aT.S.Main.W, i64 aT.S.Main.H, .slice aT.S.Main.Cells.A aT.S.Main.Cells.n aT.S.Main.Cells.c, i64 aT.S.Alt.W, i64 aT.S.Alt.H, .slice aT.S.Alt.Cells.A aT.S.Alt.Cells.n aT.S.Alt.Cells.c, .bool aT.S.OnAlt, i64 aT.S.X, i64 aT.S.Y, .bool aT.S.Wrap, i64 aT.S.A.Fg, i64 aT.S.A.Bg, .bool aT.S.A.Bold, .bool aT.S.A.Under, .bool aT.S.A.Turn, i64 aT.S.Top, i64 aT.S.Bot, .bool aT.S.NoWrap, .bool aT.S.Hide, i64 aT.S.SaveX, i64 aT.S.SaveY, i64 aT.S.SaveA.Fg, i64 aT.S.SaveA.Bg, .bool aT.S.SaveA.Bold, .bool aT.S.SaveA.Under, .bool aT.S.SaveA.Turn, .slice aT.S.Tabs.A aT.S.Tabs.n aT.S.Tabs.c, i64 aT.S.Limit, .slice aT.S.Back.A aT.S.Back.n aT.S.Back.c], .slice A_aB n_aB c_aB] w fun e w' => e = .returned (.bool true) ∧ St w [] [] w' := by
 have nb_aT_P_Args := f_aT.P.Args_n
 have nl_aT_P_Args := f_aT.P.Args.len
 have nb_aT_P_Part := f_aT.P.Part_n
 have nl_aT_P_Part := f_aT.P.Part.len
 have nb_aT_S_Main_Cells := f_aT.S.Main.Cells_n
 have nl_aT_S_Main_Cells := f_aT.S.Main.Cells.len
 have nb_aT_S_Alt_Cells := f_aT.S.Alt.Cells_n
 have nl_aT_S_Alt_Cells := f_aT.S.Alt.Cells.len
 have nb_aT_S_Tabs := f_aT.S.Tabs_n
 have nl_aT_S_Tabs := f_aT.S.Tabs.len
 have nb_aT_S_Back := f_aT.S.Back_n
 have nl_aT_S_Back := f_aT.S.Back.sl.len
 refine enter 90 Tryz.func10 rfl Tryz.ntmps10 rfl rfl ?_
 have hs1 := St.init w
 refine WC.sr (WL.bx hs1 rfl (fun b2 _ hs3 => WL.r 1 hs3 [] rfl (WL.nil (WC.seq (fun K4 hK4 => WC.r1 hs3 [] rfl ?_)))))
 refine WC.cD rfl (fun qh5 => ?_) (fun qh5 => ?_)
 ·refine WC.r1 hs3 [] rfl (WC.ret (tkR ?_))
  clear hK4
  refine rtv rfl rfl hs3 ?_
  rfl
 have hn : n_aB ≤ 1048576 := by have h9 := qh5; first | omega | (simp at h9; omega)
 have hbl := f_aB.len
 refine WC.skip (hK4 _ _ (WC.r1 hs3 [] rfl (WC.sr (WL.r 2 hs3 [0] rfl ?_))))
 refine WL.cl Tryz.call47 rfl (k192_ aT _ _ (okTermR.st0 f_aT hs3) ?_ ?_) ?_
 · first | assumption | omega | (simp only [endAct, endGrid, endScr, endTerm, endVp]; first | done | assumption | omega)
 · first | assumption | omega | exact szR_b (by assumption) (by omega) (by first | assumption | omega) | (simp only [endAct, endGrid, endScr, endTerm, endVp]; first | done | assumption | omega)
 rintro _ whs6 ⟨rfl, hs6⟩
 replace hs6 := hs3.call0 hs6
 refine ⟨_, rfl, WL.r 1 hs6 [] rfl (WL.nil (WC.seq (fun K7 hK7 => WC.r1 hs6 [] rfl ?_)))⟩
 refine WC.cD rfl (fun qh8 => ?_) (fun qh8 => ?_)
 ·refine WC.r1 hs6 [] rfl (WC.ret (tkR ?_))
  clear hK7
  refine rtv rfl rfl hs6 ?_
  rfl
 simp only [szR] at qh8
 have hb_aT : totTerm aT.dat ≤ 1048576 := by split at qh8 <;> omega
 have hsm_aT : smTerm 1048576 aT.dat := totTerm_sm hb_aT
 have hsB_aT : smTerm 549755813888 aT.dat := totTerm_sm (by omega)
 have f_aT := f_aT.to hsB_aT
 have hT := termFeedRes_tot (t := aT.dat) (b := aB)
 have hTB : smTerm 549755813888 (termFeedRes aT.dat aB) := totTerm_sm (by omega)
 refine WC.skip (hK7 _ _ (WC.sr (WL.r 1 hs6 [0] rfl (WL.cl Tryz.call49 rfl (k190_ aT _ (okTermR.st0 f_aT hs6)) ?_))))
 rintro _ whs9 ⟨r10, L1_11, rfl, hs9, ho12, hd13⟩
 replace hs9 := hs6.callF hs9
 refine ⟨_, rfl, ?_⟩
 replace hs9 := St.back [_] hs9
 refine WL.r 1 hs9 [] rfl (WL.cl Tryz.call12 rfl (k3_ _ _ _ _ _ (SlF.st0 f_aB hs9) ?_) ?_)
 · first | assumption | rfl | omega | (simp only [hd13, endAct, endGrid, endScr, endTerm, endVp]; first | done | assumption | omega)
 rintro _ whs14 ⟨A15, c16, L1_17, rfl, hs14, ho18⟩
 replace hs14 := hs9.callF hs14
 refine ⟨_, rfl, ?_⟩
 replace hs14 := St.back [_] hs14
 refine WL.cl Tryz.call48 rfl (k184_ r10 _ _ _ _ _ (ownTermR.ok (B := 549755813888) ho12 (hs14.ow L1_11) (by rw [hd13]; assumption)) (SlF.ofOwn ho18 (hs14.ow L1_17)) ?_ ?_) ?_
 iterate 2 first | assumption | omega | (simp only [hd13, endAct, endGrid, endScr, endTerm, endVp]; first | done | assumption | omega)
 rintro _ whs19 ⟨r20, L1_21, rfl, hs19, ho22, hd23⟩
 try simp only [hd13] at hd23
 replace hs19 := hs14.callF hs19
 refine ⟨_, rfl, ?_⟩
 replace hs19 := St.back [_] hs19
 refine WL.al hs19 Tryz.zeroValue35 rfl rfl (fun b24 _ hs25 => WL.st tbk hs25 0 rfl rfl (fun _ hs26 => WL.nil (WC.sr (WL.r 1 hs26 [1] rfl (WL.cl Tryz.call49 rfl (k190_ aT _ (okTermR.st0 f_aT hs26)) ?_)))))
 rintro _ whs27 ⟨r28, L1_29, rfl, hs27, ho30, hd31⟩
 try simp only [hd13, hd23] at hd31
 replace hs27 := hs26.callF hs27
 refine ⟨_, rfl, ?_⟩
 replace hs27 := St.back [_, _] hs27
 have el0 := endTerm_le 1 r28
 rw [hd31] at el0
 have eg0 := endTerm_ge 1 r28
 have eb0 : endTerm 1 r28 ≤ 549755813888 := by omega
 have en0_S_Back : r28.S.Back.xs.length ≤ 549755813888 := by have h1 := tots_len totRow (r28.S.Back.xs.map RowR.dat); rw [List.length_map] at h1; have h2 : totTerm r28.dat ≤ 1048576 := (by rw [hd31]; exact hb_aT); simp only [GridR.dat, ScrR.dat, TermR.dat, VpR.dat, totGrid, totScr, totTerm, totVp] at h2; omega
 refine WL.al hs27 Tryz.zeroValue35 rfl rfl (fun b32 _ hs33 => WL.st tbk hs33 0 rfl rfl (fun _ hs34 => WL.nil (WC.sr (WL.r 1 hs34 [] rfl ?_))))
 refine WL.cl Tryz.call12 rfl (k3_ _ _ _ _ _ (SlF.st0 f_aB hs34) ?_) ?_
 · first | assumption | rfl | omega | (simp only [hd13, hd23, hd31, endAct, endGrid, endScr, endTerm, endVp]; first | done | assumption | omega)
 rintro _ whs35 ⟨A36, c37, L1_38, rfl, hs35, ho39⟩
 replace hs35 := hs34.callF hs35
 refine ⟨_, rfl, ?_⟩
 replace hs35 := St.back [_, _, _] hs35
 refine WL.r 1 hs35 [] rfl (WL.nil (WC.sr (WL.r 2 hs35 [0] rfl ?_)))
 refine WL.cl Tryz.call46 rfl (k155_ r28 _ _ _ _ _ (ownTermR.ok (B := 549755813888) ho30 (hs35.ow L1_29) (by rw [hd31]; assumption)) (SlF.ofOwn ho39 (hs35.ow L1_38)) ?_ ?_) ?_
 iterate 2 first | assumption | omega | (simp only [hd13, hd23, hd31, endAct, endGrid, endScr, endTerm, endVp]; first | done | assumption | omega)
 rintro _ whs40 ⟨r41, L1_42, rfl, hs40, ho43, hd44⟩
 try simp only [hd13, hd23, hd31] at hd44
 replace hs40 := hs35.callF hs40
 refine ⟨_, rfl, ?_⟩
 replace hs40 := St.back [_, _, _] hs40
 have el1 := endTerm_le 1 r41
 rw [hd44] at el1
 have eg1 := endTerm_ge 1 r41
 have eb1 : endTerm 1 r41 ≤ 549755813888 := by omega
 have en1_S_Back : r41.S.Back.xs.length ≤ 549755813888 := by have h1 := tots_len totRow (r41.S.Back.xs.map RowR.dat); rw [List.length_map] at h1; have h2 : totTerm r41.dat ≤ 20230 := (by rw [hd44]; exact hT); simp only [GridR.dat, ScrR.dat, TermR.dat, VpR.dat, totGrid, totScr, totTerm, totVp] at h2; omega
 refine WL.al hs40 Tryz.zeroValue35 rfl rfl (fun b45 _ hs46 => WL.st tbk hs46 0 rfl rfl (fun _ hs47 => WL.nil (WC.seq (fun K48 hK48 => WC.sr (WL.r 2 hs47 [0, 2] rfl ?_)))))
 refine WL.cl Tryz.call14 rfl (k191_ r41 r20 _ (ownTermR.ok (B := 549755813888) ho43 (hs47.ow L1_42) (by rw [hd44]; assumption)) (ownTermR.ok (B := 549755813888) ho22 (hs47.ow L1_21) (by rw [hd23]; assumption)) ?_) ?_
 · first | assumption | rfl | omega | (simp only [hd13, hd23, hd31, hd44, endAct, endGrid, endScr, endTerm, endVp]; first | done | assumption | omega)
 rintro _ whs49 ⟨rfl, hs49⟩
 replace hs49 := hs47.call0 hs49
 refine ⟨_, rfl, WL.r 1 hs49 [] rfl (WL.nil ?_)⟩
 refine WC.condF rfl (by first | (simp; done) | (simp; omega) | (simp [hd13, hd23, hd31, hd44]; done) | (simp [hd13, hd23, hd31, hd44]; omega) | (simp only [endAct, endGrid, endScr, endTerm, endVp]; simp; omega)) (WC.skip (hK48 _ _ (WC.seq (fun K51 hK51 => WC.seq (fun K52 hK52 => WC.rH hs49 hs49 (fun _ hs53 => ?_))))))
 refine WH.rn [0, 1] hs53 [1, 3] rfl rfl (WH.o1 2 rfl (WL.cl Tryz.call49 rfl (k190_ aT _ (okTermR.st0 f_aT hs53)) ?_))
 rintro _ whs54 ⟨r55, L1_56, rfl, hs54, ho57, hd58⟩
 try simp only [hd13, hd23, hd31, hd44] at hd58
 replace hs54 := hs53.callF hs54
 refine ⟨_, rfl, ?_⟩
 replace hs54 := St.back [_, _, _, _] hs54
 refine WL.nil ⟨(hs54.rm L1_56), WH.o1 3 rfl ?_⟩
 refine WL.cl Tryz.call14 rfl (k191_ r28 r55 _ (ownTermR.ok (B := 549755813888) ho30 (hs54.ow L1_29) (by rw [hd31]; assumption)) (ownTermR.ok (B := 549755813888) ho57 (hs54.ow L1_56) (by rw [hd58]; assumption)) ?_) ?_
 · first | assumption | rfl | omega | (simp only [hd13, hd23, hd31, hd44, hd58, endAct, endGrid, endScr, endTerm, endVp]; first | done | assumption | omega)
 rintro _ whs59 ⟨rfl, hs59⟩
 replace hs59 := hs54.call0 hs59
 refine ⟨_, rfl, WL.nil ⟨(hs59.rm L1_56), WH.rn [4] (hs59.rm L1_56) [] rfl rfl (WH.dn (hK52 _ _ ?_))⟩⟩
 refine WC.condF rfl (by first | (simp; done) | (simp; omega) | (simp [hd13, hd23, hd31, hd44, hd58]; done) | (simp [hd13, hd23, hd31, hd44, hd58]; omega) | (simp only [endAct, endGrid, endScr, endTerm, endVp]; simp; omega)) (WC.skip (hK51 _ _ (WC.seq (fun K61 hK61 => WC.sr (WL.r 2 hs59 [] rfl ?_)))))
 refine WL.cl Tryz.call12 rfl (k3_ _ _ _ _ _ (SlF.st0 f_aB hs59) ?_) ?_
 · first | assumption | rfl | omega | (simp only [hd13, hd23, hd31, hd44, hd58, endAct, endGrid, endScr, endTerm, endVp]; first | done | assumption | omega)
 rintro _ whs62 ⟨A63, c64, L1_65, rfl, hs62, ho66⟩
 replace hs62 := hs59.callF hs62
 refine ⟨_, rfl, ?_⟩
 replace hs62 := St.back [_, _, _, _] hs62
 refine WL.cl Tryz.call15 rfl (k4_ _ _ _ _ _ _ _ _ _ (SlF.ofOwn ho39 (hs62.ow L1_38)) (SlF.ofOwn ho66 (hs62.ow L1_65)) ?_ ?_) ?_
 iterate 2 first | assumption | rfl | omega | (simp only [hd13, hd23, hd31, hd44, hd58, endAct, endGrid, endScr, endTerm, endVp]; first | done | assumption | omega)
 rintro _ whs67 ⟨rfl, hs67⟩
 replace hs67 := hs62.call0 hs67
 refine ⟨_, rfl, WL.r 1 hs67 [] rfl (WL.nil ?_)⟩
 refine WC.condF rfl (by first | (simp; done) | (simp; omega) | (simp [hd13, hd23, hd31, hd44, hd58]; done) | (simp [hd13, hd23, hd31, hd44, hd58]; omega) | (simp only [endAct, endGrid, endScr, endTerm, endVp]; simp; omega)) (WC.skip (hK61 _ _ (WC.r1 hs67 [] rfl (WC.sr (WL.r 2 hs67 [1] rfl ?_)))))
 refine WL.cl Tryz.call17 rfl (k193_ r28 _ _ _ ho30 (hs67.ow L1_29) (St.nodupL (hs67.fr L1_29)) ?_ ?_ ?_) ?_
 · first | assumption | omega | (simp only [hd13, hd23, hd31, hd44, hd58, endAct, endGrid, endScr, endTerm, endVp]; first | done | assumption | omega)
 · first | assumption | omega | (simp only [endGrid, endScr, endTerm, endVp]; omega) | (simp only [hd13, hd23, hd31, hd44, hd58, endAct, endGrid, endScr, endTerm, endVp]; first | done | assumption | omega)
 · first | assumption | omega | (simp only [hd13, hd23, hd31, hd44, hd58, endAct, endGrid, endScr, endTerm, endVp]; first | done | assumption | omega)
 rintro _ whs69 ⟨L1_70, rfl, hs69, ho71⟩
 replace hs69 := St.lend (hs67.fr L1_29) hs69
 refine ⟨_, rfl, ?_⟩
 replace hs69 := St.back [_, _, _, _] hs69
 refine WL.r 1 hs69 [] rfl (WL.nil (WC.sr (WL.r 2 hs69 [] rfl (WL.cl Tryz.call16 rfl (k15_ _ _ _ _ _ ho39 (hs69.ow L1_38) ?_ ?_ ?_) ?_))))
 iterate 3 first | assumption | rfl | omega | (simp only [hd13, hd23, hd31, hd44, hd58, endAct, endGrid, endScr, endTerm, endVp]; first | done | assumption | omega)
 rintro _ whs72 ⟨L1_73, rfl, hs72, ho74⟩
 replace hs72 := St.lend (hs69.fr L1_38) hs72
 refine ⟨_, rfl, ?_⟩
 replace hs72 := St.back [_, _, _, _] hs72
 refine WL.r 1 hs72 [] rfl (WL.nil (WC.seq (fun K75 hK75 => WC.sr (WL.r 3 hs72 [] rfl ?_))))
 apply WL.gO 4 Acts.nil hs72 rfl
 ·intro g76 J77
  have qg76 := g76
  try simp only [bf, within_iff, within_not] at qg76
  refine WL.runA tbk 2 (Acts.nil.cons (j := 2) rfl g76) hs72 [0, 2] rfl ⟨rfl, rfl, trivial⟩ ?_
  refine WL.call (wantF rfl g76) rfl rfl (Run.call Tryz.call14 rfl rfl rfl) (k191_ r41 r20 _ (ownTermR.ok (B := 549755813888) ho43 (hs72.ow L1_42) (by rw [hd44]; assumption)) (ownTermR.ok (B := 549755813888) ho22 (hs72.ow L1_21) (by rw [hd23]; assumption)) ?_) ?_
  · first | assumption | rfl | omega | (simp only [hd13, hd23, hd31, hd44, hd58, endAct, endGrid, endScr, endTerm, endVp]; first | done | assumption | omega)
  rintro _ whs78 ⟨rfl, hs78⟩
  replace hs78 := hs72.call0 hs78
  refine ⟨_, rfl, WL.runA tbk 1 (Acts.nil.cons (j := 2) rfl g76) hs78 [] rfl trivial (WL.eO 4 Acts.nil J77 hs78 g76 rfl rfl)⟩
 intro _ hs79
 refine WL.nil ?_
 refine WC.condF rfl (by first | (simp; done) | (simp; omega) | (simp [hd13, hd23, hd31, hd44, hd58]; done) | (simp [hd13, hd23, hd31, hd44, hd58]; omega) | (simp only [endAct, endGrid, endScr, endTerm, endVp]; simp; omega)) (WC.skip (hK75 _ _ (WC.r1 hs79 [] rfl (WC.sr (WL.r 2 hs79 [0] rfl ?_)))))
 refine WL.cl Tryz.call17 rfl (k193_ r41 _ _ _ ho43 (hs79.ow L1_42) (St.nodupL (hs79.fr L1_42)) ?_ ?_ ?_) ?_
 · first | assumption | omega | (simp only [hd13, hd23, hd31, hd44, hd58, endAct, endGrid, endScr, endTerm, endVp]; first | done | assumption | omega)
 · first | assumption | omega | (simp only [endGrid, endScr, endTerm, endVp]; omega) | (simp only [hd13, hd23, hd31, hd44, hd58, endAct, endGrid, endScr, endTerm, endVp]; first | done | assumption | omega)
 · first | assumption | omega | (simp only [hd13, hd23, hd31, hd44, hd58, endAct, endGrid, endScr, endTerm, endVp]; first | done | assumption | omega)
 rintro _ whs81 ⟨L1_82, rfl, hs81, ho83⟩
 replace hs81 := St.lend (hs79.fr L1_42) hs81
 refine ⟨_, rfl, ?_⟩
 replace hs81 := St.back [_, _, _, _] hs81
 refine WL.r 1 hs81 [] rfl (WL.nil (WC.r1 hs81 [] rfl (WC.sr (WL.r 2 hs81 [0] rfl ?_))))
 refine WL.cl Tryz.call18 rfl (k194_ _ _ _ (ownTermR.ok (B := 549755813888) ho83 (hs81.ow L1_82) (markTerm_sm (by rw [hd44]; assumption))) ?_ ?_) ?_
 · first | assumption | omega | (simp only [hd13, hd23, hd31, hd44, hd58, endAct, endGrid, endScr, endTerm, endVp]; first | done | assumption | omega)
 · first | assumption | omega | (simp only [endGrid, endScr, endTerm, endVp]; omega) | (simp only [hd13, hd23, hd31, hd44, hd58, endAct, endGrid, endScr, endTerm, endVp]; first | done | assumption | omega)
 rintro _ whs84 ⟨rfl, hs84⟩
 replace hs84 := hs81.call0 hs84
 refine ⟨_, rfl, WL.r 1 hs84 [] rfl (WL.nil (WC.seq (fun K85 hK85 => WC.r1 hs84 [] rfl ?_)))⟩
 refine WC.condF rfl (by first | (simp; done) | (simp; omega) | (simp [hd13, hd23, hd31, hd44, hd58]; done) | (simp [hd13, hd23, hd31, hd44, hd58]; omega) | (simp only [endAct, endGrid, endScr, endTerm, endVp]; simp; omega)) (WC.skip (hK85 _ _ (WC.seq (fun K87 hK87 => WC.r1 hs84 [] rfl ?_))))
 refine WC.condF rfl (by first | (simp; done) | (simp; omega) | (simp [hd13, hd23, hd31, hd44, hd58]; done) | (simp [hd13, hd23, hd31, hd44, hd58]; omega) | (simp only [endAct, endGrid, endScr, endTerm, endVp]; simp; omega)) (WC.skip (hK87 _ _ (WC.sr (WL.r 1 hs84 [3] rfl (WL.cl Tryz.call49 rfl (k190_ aT _ (okTermR.st0 f_aT hs84)) ?_)))))
 rintro _ whs89 ⟨r90, L1_91, rfl, hs89, ho92, hd93⟩
 try simp only [hd13, hd23, hd31, hd44, hd58] at hd93
 replace hs89 := hs84.callF hs89
 refine ⟨_, rfl, ?_⟩
 replace hs89 := St.back [_, _, _, _] hs89
 refine WL.r 1 hs89 [] rfl (WL.cl Tryz.call12 rfl (k3_ _ _ _ _ _ (SlF.st0 f_aB hs89) ?_) ?_)
 · first | assumption | rfl | omega | (simp only [hd13, hd23, hd31, hd44, hd58, hd93, endAct, endGrid, endScr, endTerm, endVp]; first | done | assumption | omega)
 rintro _ whs94 ⟨A95, c96, L1_97, rfl, hs94, ho98⟩
 replace hs94 := hs89.callF hs94
 refine ⟨_, rfl, ?_⟩
 replace hs94 := St.back [_, _, _, _] hs94
 refine WL.cl Tryz.call46 rfl (k155_ r90 _ _ _ _ _ (ownTermR.ok (B := 549755813888) ho92 (hs94.ow L1_91) (by rw [hd93]; assumption)) (SlF.ofOwn ho98 (hs94.ow L1_97)) ?_ ?_) ?_
 iterate 2 first | assumption | omega | (simp only [hd13, hd23, hd31, hd44, hd58, hd93, endAct, endGrid, endScr, endTerm, endVp]; first | done | assumption | omega)
 rintro _ whs99 ⟨r100, L1_101, rfl, hs99, ho102, hd103⟩
 try simp only [hd13, hd23, hd31, hd44, hd58, hd93] at hd103
 replace hs99 := hs94.callF hs99
 refine ⟨_, rfl, ?_⟩
 replace hs99 := St.back [_, _, _, _] hs99
 refine WL.al hs99 Tryz.zeroValue35 rfl rfl (fun b104 _ hs105 => WL.st tbk hs105 0 rfl rfl (fun _ hs106 => WL.nil (WC.seq (fun K107 hK107 => WC.sr (WL.r 2 hs106 [0, 3] rfl ?_)))))
 refine WL.cl Tryz.call14 rfl (k191_ r100 r20 _ (ownTermR.ok (B := 549755813888) ho102 (hs106.ow L1_101) (by rw [hd103]; assumption)) (ownTermR.ok (B := 549755813888) ho22 (hs106.ow L1_21) (by rw [hd23]; assumption)) ?_) ?_
 · first | assumption | rfl | omega | (simp only [hd13, hd23, hd31, hd44, hd58, hd93, hd103, endAct, endGrid, endScr, endTerm, endVp]; first | done | assumption | omega)
 rintro _ whs108 ⟨rfl, hs108⟩
 replace hs108 := hs106.call0 hs108
 refine ⟨_, rfl, WL.r 1 hs108 [] rfl (WL.nil ?_)⟩
 refine WC.condF rfl (by first | (simp; done) | (simp; omega) | (simp [hd13, hd23, hd31, hd44, hd58, hd93, hd103]; done) | (simp [hd13, hd23, hd31, hd44, hd58, hd93, hd103]; omega) | (simp only [endAct, endGrid, endScr, endTerm, endVp]; simp; omega)) (WC.skip (hK107 _ _ (WC.r1 hs108 [] rfl (WC.sr (WL.r 2 hs108 [1] rfl ?_)))))
 refine WL.cl Tryz.call18 rfl (k194_ _ _ _ (ownTermR.ok (B := 549755813888) ho83 (hs108.ow L1_82) (markTerm_sm (by rw [hd44]; assumption))) ?_ ?_) ?_
 · first | assumption | omega | (simp only [hd13, hd23, hd31, hd44, hd58, hd93, hd103, endAct, endGrid, endScr, endTerm, endVp]; first | done | assumption | omega)
 · first | assumption | omega | (simp only [endGrid, endScr, endTerm, endVp]; omega) | (simp only [hd13, hd23, hd31, hd44, hd58, hd93, hd103, endAct, endGrid, endScr, endTerm, endVp]; first | done | assumption | omega)
 rintro _ whs110 ⟨rfl, hs110⟩
 replace hs110 := hs108.call0 hs110
 refine ⟨_, rfl, WL.r 1 hs110 [] rfl (WL.nil (WC.seq (fun K111 hK111 => WC.r1 hs110 [] rfl ?_)))⟩
 refine WC.condF rfl (by first | (simp; done) | (simp; omega) | (simp [hd13, hd23, hd31, hd44, hd58, hd93, hd103]; done) | (simp [hd13, hd23, hd31, hd44, hd58, hd93, hd103]; omega) | (simp only [endAct, endGrid, endScr, endTerm, endVp]; simp; omega)) (WC.skip (hK111 _ _ (WC.seq (fun K113 hK113 => WC.r1 hs110 [] rfl ?_))))
 refine WC.condF rfl (by first | (simp; done) | (simp; omega) | (simp [hd13, hd23, hd31, hd44, hd58, hd93, hd103]; done) | (simp [hd13, hd23, hd31, hd44, hd58, hd93, hd103]; omega) | (simp only [endAct, endGrid, endScr, endTerm, endVp]; simp; omega)) (WC.skip (hK113 _ _ (WC.r1 hs110 [] rfl (WC.ret (rtv rfl rfl hs110 ?_)))))
 rfl
open Go Go.RowKit Go.ChangeShapes Go.WideShapes Go.ChangeAt Go.Deep
theorem list_succ {n : Nat} {l : List Value} (h : l.length = n + 1) : ∃ c r, l = c :: r ∧ r.length = n := by
 cases l with
 | nil => simp at h
 | cons c r => exact ⟨c, r, rfl, by simpa using h⟩
theorem list_zero {l : List Value} (h : l.length = 0) : l = [] := List.eq_nil_of_length_eq_zero h
section
variable {H : Type} {enc : TypeId × Value → H} {P : Program} {w : World} {base : Nat} {spare : Nat → Bool} {held : Bool} {fuel : Nat} {t e : TypeId} {cs : List Value} {x : DataW H × List MemPlace}
theorem trod_flds {fs : Array Field} (ht : P.underlying t = some (.struct fs)) (h : DataW.trod enc P w base spare held fuel t cs = some x) :
  cs.length = P.cellsOf t ∧ ∃ n, ∀ (i : Nat) (f : Field), fs.toList[i]? = some f → ∃ y, DataW.trod enc P w base spare held n f.type ((cs.drop f.offset).take (P.cellsOf f.type)) = some y := by
 obtain ⟨xs, n, _, _, hl, hlen, hg⟩ := DataW.trod_struct ht h
 refine ⟨hl, n, fun i f hf => ?_⟩
 have hf' : fs[i]? = some f := by simpa using hf
 have hi : i < xs.length := by rw [hlen]; exact (Array.getElem?_eq_some_iff.1 hf').1
 exact ⟨xs[i], (hg i f hf').trans (List.getElem?_eq_getElem hi)⟩
theorem open_i64 (ht : P.underlying t = some (.int .i64)) (h : DataW.trod enc P w base spare held fuel t cs = some x) : ∃ n, cs = [i64 n] ∧ In64 n := by
 obtain ⟨n, rfl, _, hw⟩ := DataW.trod_int ht h
 refine ⟨n, rfl, ?_⟩
 simp [Lit.wf, IntKind.min, IntKind.max, IntKind.signed, IntKind.bits] at hw
 exact hw
theorem open_bool' (ht : P.underlying t = some .bool) (h : DataW.trod enc P w base spare held fuel t cs = some x) : ∃ b, cs = [.bool b] := by
 obtain ⟨b, rfl, _⟩ := DataW.trod_bool ht h
 exact ⟨b, rfl⟩
theorem open_SlB (ht : P.underlying t = some (.slice e)) (he : P.underlying e = some (.int .u8)) (hc : P.cellsOf e = 1) (h : DataW.trod enc P w base spare held fuel t cs = some x) :
  ∃ A n c xs, cs = [.slice A n c] ∧ SlB w A n xs ∧ n ≤ 9223372036854775807 := by
 rcases open_ints ht he hc h with ⟨rfl, _⟩ | ⟨a, l, c, zs, rfl, _, hl, hm, hz, _, hcell, hwz⟩
 ·exact ⟨none, 0, 0, [], rfl, ⟨rfl, SlR.nil _ _ _⟩, by omega⟩
 ·have hlz : l ≤ zs.length := by rw [hz]; split <;> omega
  refine ⟨some a, l, c, (zs.take l).map (fun z => UInt8.ofNat z.toNat), rfl, ⟨by simp; omega, ⟨by rw [rows_len]; simp [encB]; omega, fun _ => rfl, fun j v hv => ?_⟩⟩, by simp only [maxLen] at hm; omega⟩
  have hj : j < l := by
   have := (List.getElem?_eq_some_iff.1 hv).1
   simp [bytesV_len] at this; omega
  have hc1 := hcell j (by omega)
  have hw := hwz (zs.getD j 0) (by rw [List.getD_eq_getElem?_getD, List.getElem?_eq_getElem (show j < zs.length by omega)]; exact List.getElem_mem _)
  simp [Lit.wf, IntKind.min, IntKind.max, IntKind.signed, IntKind.bits] at hw
  show w.cell? (a.add j) = some v
  rw [hc1, ← hv]
  have hlt : j < zs.length := by omega
  have e1 : zs.getD j 0 = zs[j] := by rw [List.getD_eq_getElem?_getD, List.getElem?_eq_getElem hlt]; rfl
  rw [e1]
  simp only [List.getElem?_eq_getElem hlt, Option.getD_some] at hw
  simp [bytesV_map, hj, List.getElem?_eq_getElem hlt, UInt8.toNat_ofNat']
  omega
theorem open_SlF {α : Type} {F : Enc α} {good : α → Prop} (ht : P.underlying t = some (.slice e)) (hc : P.cellsOf e = F.sz)
  (hE : ∀ n cs' y, DataW.trod enc P w base spare held n e cs' = some y → ∃ d, cs' = F.enc d ∧ good d) (h : DataW.trod enc P w base spare held fuel t cs = some x) :
  ∃ A n c xs, cs = [.slice A n c] ∧ SlF F w A n xs ∧ n ≤ 9223372036854775807 ∧ ∀ d, d ∈ xs → good d := by
 rcases open_slice ht h with ⟨rfl, _⟩ | ⟨a, l, c, m, n, D, Pl, rfl, _, hl, hm, hmm, _, hx⟩
 ·exact ⟨none, 0, 0, [], rfl, ⟨rfl, SlR.nil _ _ _⟩, by omega, fun z h => by cases h⟩
 ·have hlm : l ≤ m := by rw [hmm]; split <;> omega
  have : Inhabited α := ⟨F.dflt⟩
  have each : ∀ i, i < l → ∃ d : α, good d ∧ ∀ r, r < F.sz → w.cell? (a.add (i * F.sz + r)) = (F.enc d)[r]? := by
   intro i hi
   obtain ⟨cs', h1, h2⟩ := hx i (by omega)
   obtain ⟨d, rfl, hg⟩ := hE _ _ _ h2
   obtain ⟨_, _, h3⟩ := World.cells?_some h1
   refine ⟨d, hg, fun r hr => ?_⟩
   have := h3 r (by rw [hc]; exact hr)
   rw [← this, hc]
   congr 1
   rw [Addr.add_add']
  obtain ⟨d, hd⟩ := choose_lt each
  have hlen : ((List.range l).map d).length = l := by simp
  refine ⟨some a, l, c, (List.range l).map d, rfl, ⟨hlen, ⟨by rw [rows_len, hlen], fun _ => rfl, fun j v hv => ?_⟩⟩, by simp only [maxLen] at hm; omega, fun z hz => ?_⟩
  ·have hj := (List.getElem?_eq_some_iff.1 hv).1
   rw [rows_len, hlen] at hj
   have hp := F.pos
   have hi : j / F.sz < l := Nat.div_lt_of_lt_mul (by rw [Nat.mul_comm]; exact hj)
   have hr : j % F.sz < F.sz := Nat.mod_lt _ hp
   have ej : j / F.sz * F.sz + j % F.sz = j := by rw [Nat.mul_comm]; exact Nat.div_add_mod _ _
   have e1 := (hd (j / F.sz) hi).2 (j % F.sz) hr
   rw [ej] at e1
   show w.cell? (a.add j) = some v
   rw [e1, ← hv]
   have e2 := rows_get (F := F) (xs := (List.range l).map d) (k := j / F.sz) (by rw [hlen]; exact hi) hr
   rw [ej] at e2
   rw [e2]
   have e3 : gat F ((List.range l).map d) (j / F.sz) = d (j / F.sz) := by
    have := gat_get (F := F) (xs := (List.range l).map d) (k := j / F.sz) (by rw [hlen]; exact hi)
    rw [List.getElem?_map, List.getElem?_range hi] at this
    exact (Option.some.inj this).symm
   rw [e3]
  ·obtain ⟨i, hi, rfl⟩ := List.mem_map.1 hz
   exact (hd i (by simpa using hi)).1
theorem open_u8 (ht : P.underlying t = some (.int .u8)) (h : DataW.trod enc P w base spare held fuel t cs = some x) : ∃ b : UInt8, cs = encB.enc b ∧ True := by
 obtain ⟨n, rfl, _, hw⟩ := DataW.trod_int ht h
 simp [Lit.wf, IntKind.min, IntKind.max, IntKind.signed, IntKind.bits] at hw
 refine ⟨UInt8.ofNat n.toNat, ?_, trivial⟩
 show [Value.int .u8 n] = [Value.int .u8 (UInt8.ofNat n.toNat).toNat]
 congr 2
 rw [UInt8.toNat_ofNat']
 omega
theorem open_e64 (ht : P.underlying t = some (.int .i64)) (h : DataW.trod enc P w base spare held fuel t cs = some x) : ∃ n : Int, cs = encI.enc n ∧ In64 n := open_i64 ht h
theorem open_SlE {α : Type} {F : Enc α} {good : α → Prop} (ht : P.underlying t = some (.slice e)) (hc : P.cellsOf e = F.sz)
  (hE : ∀ n cs' y, DataW.trod enc P w base spare held n e cs' = some y → ∃ d, cs' = F.enc d ∧ good d) (h : DataW.trod enc P w base spare held fuel t cs = some x) :
  ∃ A n c xs, cs = [.slice A n c] ∧ SlF F w A n xs ∧ n ≤ c ∧ n ≤ 9223372036854775807 ∧ ∀ d, d ∈ xs → good d := by
 obtain ⟨A, n, c, xs, e1, f, hn, hg⟩ := open_SlF ht hc hE h
 refine ⟨A, n, c, xs, e1, f, ?_, hn, hg⟩
 rcases open_slice ht h with ⟨e2, _⟩ | ⟨a, l, c', m, n', D, Pl, e2, _, hl, _⟩
 ·rw [e1] at e2
  cases e2
  exact Nat.le_refl _
 ·rw [e1] at e2
  cases e2
  exact hl
end
theorem cells_3 : Tryz.prog.cellsOf 3 = 1 := by kernel_rfl
theorem cells_4 : Tryz.prog.cellsOf 4 = 1 := by kernel_rfl
theorem cells_5 : Tryz.prog.cellsOf 5 = 1 := by kernel_rfl
theorem cells_22 : Tryz.prog.cellsOf 22 = 1 := by kernel_rfl
theorem cells_23 : Tryz.prog.cellsOf 23 = 1 := by kernel_rfl
theorem cells_83 : Tryz.prog.cellsOf 83 = 4 := by kernel_rfl
theorem open_VpR {H : Type} {enc : TypeId × Value → H} {w : World} {base : Nat} {spare : Nat → Bool} {held : Bool} {fuel : Nat} {cs : List Value} {x : DataW H × List MemPlace} (h : DataW.trod enc Tryz.prog w base spare held fuel 83 cs = some x) : ∃ d, cs = encVpR.enc d ∧ okVpR 9223372036854775807 w d := by
  obtain ⟨hl, n, hg⟩ := trod_flds Tryz.underlying83 h
  rw [cells_83] at hl
  obtain ⟨c0, l0, rfl, z0⟩ := list_succ hl
  obtain ⟨c1, l1, rfl, z1⟩ := list_succ z0
  obtain ⟨c2, l2, rfl, z2⟩ := list_succ z1
  obtain ⟨c3, l3, rfl, z3⟩ := list_succ z2
  obtain rfl := list_zero z3
  obtain ⟨y0, g0⟩ := hg 0 _ rfl
  rw [show Tryz.prog.cellsOf _ = 1 from cells_3] at g0
  replace g0 : DataW.trod _ _ _ _ _ _ _ 3 [c0] = _ := g0
  obtain ⟨x0, e0, w0⟩ := open_i64 Tryz.underlying3 g0
  obtain ⟨y1, g1⟩ := hg 1 _ rfl
  rw [show Tryz.prog.cellsOf _ = 1 from cells_4] at g1
  replace g1 : DataW.trod _ _ _ _ _ _ _ 4 [c1] = _ := g1
  obtain ⟨x1, e1⟩ := open_bool' Tryz.underlying4 g1
  obtain ⟨y2, g2⟩ := hg 2 _ rfl
  rw [show Tryz.prog.cellsOf _ = 1 from cells_23] at g2
  replace g2 : DataW.trod _ _ _ _ _ _ _ 23 [c2] = _ := g2
  obtain ⟨A2, n2, k2, x2, e2, f2, hc2, hn2, hg2⟩ := open_SlE (F := encI) (good := fun n => In64 n) Tryz.underlying23 cells_3 (fun _ _ _ h_ => open_e64 Tryz.underlying3 h_) g2
  obtain ⟨y3, g3⟩ := hg 3 _ rfl
  rw [show Tryz.prog.cellsOf _ = 1 from cells_22] at g3
  replace g3 : DataW.trod _ _ _ _ _ _ _ 22 [c3] = _ := g3
  obtain ⟨A3, n3, k3, x3, e3, f3, hc3, hn3, hg3⟩ := open_SlE (F := encB) (good := fun _ => True) Tryz.underlying22 cells_5 (fun _ _ _ h_ => open_u8 Tryz.underlying5 h_) g3
  cases e0
  cases e1
  cases e2
  cases e3
  exact ⟨⟨x0, x1, ⟨A2, n2, k2, x2⟩, ⟨A3, n3, k3, x3⟩⟩, rfl, ⟨f2, hc2, hn2, f3, hc3, hn3⟩⟩
theorem cells_47 : Tryz.prog.cellsOf 47 = 5 := by kernel_rfl
def goodAttr (d : AttrD) : Prop := In64 d.Fg ∧ In64 d.Bg
theorem open_Attr {H : Type} {enc : TypeId × Value → H} {w : World} {base : Nat} {spare : Nat → Bool} {held : Bool} {fuel : Nat} {cs : List Value} {x : DataW H × List MemPlace} (h : DataW.trod enc Tryz.prog w base spare held fuel 47 cs = some x) : ∃ d, cs = encAttr.enc d ∧ goodAttr d := by
  obtain ⟨hl, n, hg⟩ := trod_flds Tryz.underlying47 h
  rw [cells_47] at hl
  obtain ⟨c0, l0, rfl, z0⟩ := list_succ hl
  obtain ⟨c1, l1, rfl, z1⟩ := list_succ z0
  obtain ⟨c2, l2, rfl, z2⟩ := list_succ z1
  obtain ⟨c3, l3, rfl, z3⟩ := list_succ z2
  obtain ⟨c4, l4, rfl, z4⟩ := list_succ z3
  obtain rfl := list_zero z4
  obtain ⟨y0, g0⟩ := hg 0 _ rfl
  rw [show Tryz.prog.cellsOf _ = 1 from cells_3] at g0
  replace g0 : DataW.trod _ _ _ _ _ _ _ 3 [c0] = _ := g0
  obtain ⟨x0, e0, w0⟩ := open_i64 Tryz.underlying3 g0
  obtain ⟨y1, g1⟩ := hg 1 _ rfl
  rw [show Tryz.prog.cellsOf _ = 1 from cells_3] at g1
  replace g1 : DataW.trod _ _ _ _ _ _ _ 3 [c1] = _ := g1
  obtain ⟨x1, e1, w1⟩ := open_i64 Tryz.underlying3 g1
  obtain ⟨y2, g2⟩ := hg 2 _ rfl
  rw [show Tryz.prog.cellsOf _ = 1 from cells_4] at g2
  replace g2 : DataW.trod _ _ _ _ _ _ _ 4 [c2] = _ := g2
  obtain ⟨x2, e2⟩ := open_bool' Tryz.underlying4 g2
  obtain ⟨y3, g3⟩ := hg 3 _ rfl
  rw [show Tryz.prog.cellsOf _ = 1 from cells_4] at g3
  replace g3 : DataW.trod _ _ _ _ _ _ _ 4 [c3] = _ := g3
  obtain ⟨x3, e3⟩ := open_bool' Tryz.underlying4 g3
  obtain ⟨y4, g4⟩ := hg 4 _ rfl
  rw [show Tryz.prog.cellsOf _ = 1 from cells_4] at g4
  replace g4 : DataW.trod _ _ _ _ _ _ _ 4 [c4] = _ := g4
  obtain ⟨x4, e4⟩ := open_bool' Tryz.underlying4 g4
  cases e0
  cases e1
  cases e2
  cases e3
  cases e4
  exact ⟨⟨x0, x1, x2, x3, x4⟩, rfl, ⟨w0, w1⟩⟩
theorem cells_216 : Tryz.prog.cellsOf 216 = 6 := by kernel_rfl
def goodCell (d : CellD) : Prop := In64 d.R ∧ goodAttr d.A
theorem open_Cell {H : Type} {enc : TypeId × Value → H} {w : World} {base : Nat} {spare : Nat → Bool} {held : Bool} {fuel : Nat} {cs : List Value} {x : DataW H × List MemPlace} (h : DataW.trod enc Tryz.prog w base spare held fuel 216 cs = some x) : ∃ d, cs = encCell.enc d ∧ goodCell d := by
  obtain ⟨hl, n, hg⟩ := trod_flds Tryz.underlying216 h
  rw [cells_216] at hl
  obtain ⟨c0, l0, rfl, z0⟩ := list_succ hl
  obtain ⟨c1, l1, rfl, z1⟩ := list_succ z0
  obtain ⟨c2, l2, rfl, z2⟩ := list_succ z1
  obtain ⟨c3, l3, rfl, z3⟩ := list_succ z2
  obtain ⟨c4, l4, rfl, z4⟩ := list_succ z3
  obtain ⟨c5, l5, rfl, z5⟩ := list_succ z4
  obtain rfl := list_zero z5
  obtain ⟨y0, g0⟩ := hg 0 _ rfl
  rw [show Tryz.prog.cellsOf _ = 1 from cells_3] at g0
  replace g0 : DataW.trod _ _ _ _ _ _ _ 3 [c0] = _ := g0
  obtain ⟨x0, e0, w0⟩ := open_i64 Tryz.underlying3 g0
  obtain ⟨y1, g1⟩ := hg 1 _ rfl
  rw [show Tryz.prog.cellsOf _ = 5 from cells_47] at g1
  replace g1 : DataW.trod _ _ _ _ _ _ _ 47 [c1, c2, c3, c4, c5] = _ := g1
  obtain ⟨x1, e1, w1⟩ := open_Attr g1
  replace e1 : [c1, c2, c3, c4, c5] = [i64 x1.Fg, i64 x1.Bg, .bool x1.Bold, .bool x1.Under, .bool x1.Turn] := e1
  cases e0
  cases e1
  exact ⟨⟨x0, x1⟩, rfl, ⟨w0, w1⟩⟩
theorem cells_44 : Tryz.prog.cellsOf 44 = 1 := by kernel_rfl
theorem cells_46 : Tryz.prog.cellsOf 46 = 3 := by kernel_rfl
theorem open_GridR {H : Type} {enc : TypeId × Value → H} {w : World} {base : Nat} {spare : Nat → Bool} {held : Bool} {fuel : Nat} {cs : List Value} {x : DataW H × List MemPlace} (h : DataW.trod enc Tryz.prog w base spare held fuel 46 cs = some x) : ∃ d, cs = encGridR.enc d ∧ okGridR 9223372036854775807 w d := by
  obtain ⟨hl, n, hg⟩ := trod_flds Tryz.underlying46 h
  rw [cells_46] at hl
  obtain ⟨c0, l0, rfl, z0⟩ := list_succ hl
  obtain ⟨c1, l1, rfl, z1⟩ := list_succ z0
  obtain ⟨c2, l2, rfl, z2⟩ := list_succ z1
  obtain rfl := list_zero z2
  obtain ⟨y0, g0⟩ := hg 0 _ rfl
  rw [show Tryz.prog.cellsOf _ = 1 from cells_3] at g0
  replace g0 : DataW.trod _ _ _ _ _ _ _ 3 [c0] = _ := g0
  obtain ⟨x0, e0, w0⟩ := open_i64 Tryz.underlying3 g0
  obtain ⟨y1, g1⟩ := hg 1 _ rfl
  rw [show Tryz.prog.cellsOf _ = 1 from cells_3] at g1
  replace g1 : DataW.trod _ _ _ _ _ _ _ 3 [c1] = _ := g1
  obtain ⟨x1, e1, w1⟩ := open_i64 Tryz.underlying3 g1
  obtain ⟨y2, g2⟩ := hg 2 _ rfl
  rw [show Tryz.prog.cellsOf _ = 1 from cells_44] at g2
  replace g2 : DataW.trod _ _ _ _ _ _ _ 44 [c2] = _ := g2
  obtain ⟨A2, n2, k2, x2, e2, f2, hc2, hn2, hg2⟩ := open_SlE (F := encCell) (good := goodCell) Tryz.underlying44 cells_216 (fun _ _ _ h_ => open_Cell h_) g2
  cases e0
  cases e1
  cases e2
  exact ⟨⟨x0, x1, ⟨A2, n2, k2, x2⟩⟩, rfl, ⟨f2, hc2, hn2⟩⟩
theorem cells_172 : Tryz.prog.cellsOf 172 = 1 := by kernel_rfl
theorem open_RowR {H : Type} {enc : TypeId × Value → H} {w : World} {base : Nat} {spare : Nat → Bool} {held : Bool} {fuel : Nat} {cs : List Value} {x : DataW H × List MemPlace} (h : DataW.trod enc Tryz.prog w base spare held fuel 172 cs = some x) : ∃ d, cs = encRowR.enc d ∧ okRowR 9223372036854775807 w d := by
  obtain ⟨hl, n, hg⟩ := trod_flds Tryz.underlying172 h
  rw [cells_172] at hl
  obtain ⟨c0, l0, rfl, z0⟩ := list_succ hl
  obtain rfl := list_zero z0
  obtain ⟨y0, g0⟩ := hg 0 _ rfl
  rw [show Tryz.prog.cellsOf _ = 1 from cells_44] at g0
  replace g0 : DataW.trod _ _ _ _ _ _ _ 44 [c0] = _ := g0
  obtain ⟨A0, n0, k0, x0, e0, f0, hc0, hn0, hg0⟩ := open_SlE (F := encCell) (good := goodCell) Tryz.underlying44 cells_216 (fun _ _ _ h_ => open_Cell h_) g0
  cases e0
  exact ⟨⟨⟨A0, n0, k0, x0⟩⟩, rfl, ⟨f0, hc0, hn0⟩⟩
theorem cells_48 : Tryz.prog.cellsOf 48 = 1 := by kernel_rfl
theorem cells_50 : Tryz.prog.cellsOf 50 = 31 := by kernel_rfl
theorem open_ScrR {H : Type} {enc : TypeId × Value → H} {w : World} {base : Nat} {spare : Nat → Bool} {held : Bool} {fuel : Nat} {cs : List Value} {x : DataW H × List MemPlace} (h : DataW.trod enc Tryz.prog w base spare held fuel 50 cs = some x) : ∃ d, cs = encScrR.enc d ∧ okScrR 9223372036854775807 w d := by
  obtain ⟨hl, n, hg⟩ := trod_flds Tryz.underlying50 h
  rw [cells_50] at hl
  obtain ⟨c0, l0, rfl, z0⟩ := list_succ hl
  obtain ⟨c1, l1, rfl, z1⟩ := list_succ z0
  obtain ⟨c2, l2, rfl, z2⟩ := list_succ z1
  obtain ⟨c3, l3, rfl, z3⟩ := list_succ z2
  obtain ⟨c4, l4, rfl, z4⟩ := list_succ z3
  obtain ⟨c5, l5, rfl, z5⟩ := list_succ z4
  obtain ⟨c6, l6, rfl, z6⟩ := list_succ z5
  obtain ⟨c7, l7, rfl, z7⟩ := list_succ z6
  obtain ⟨c8, l8, rfl, z8⟩ := list_succ z7
  obtain ⟨c9, l9, rfl, z9⟩ := list_succ z8
  obtain ⟨c10, l10, rfl, z10⟩ := list_succ z9
  obtain ⟨c11, l11, rfl, z11⟩ := list_succ z10
  obtain ⟨c12, l12, rfl, z12⟩ := list_succ z11
  obtain ⟨c13, l13, rfl, z13⟩ := list_succ z12
  obtain ⟨c14, l14, rfl, z14⟩ := list_succ z13
  obtain ⟨c15, l15, rfl, z15⟩ := list_succ z14
  obtain ⟨c16, l16, rfl, z16⟩ := list_succ z15
  obtain ⟨c17, l17, rfl, z17⟩ := list_succ z16
  obtain ⟨c18, l18, rfl, z18⟩ := list_succ z17
  obtain ⟨c19, l19, rfl, z19⟩ := list_succ z18
  obtain ⟨c20, l20, rfl, z20⟩ := list_succ z19
  obtain ⟨c21, l21, rfl, z21⟩ := list_succ z20
  obtain ⟨c22, l22, rfl, z22⟩ := list_succ z21
  obtain ⟨c23, l23, rfl, z23⟩ := list_succ z22
  obtain ⟨c24, l24, rfl, z24⟩ := list_succ z23
  obtain ⟨c25, l25, rfl, z25⟩ := list_succ z24
  obtain ⟨c26, l26, rfl, z26⟩ := list_succ z25
  obtain ⟨c27, l27, rfl, z27⟩ := list_succ z26
  obtain ⟨c28, l28, rfl, z28⟩ := list_succ z27
  obtain ⟨c29, l29, rfl, z29⟩ := list_succ z28
  obtain ⟨c30, l30, rfl, z30⟩ := list_succ z29
  obtain rfl := list_zero z30
  obtain ⟨y0, g0⟩ := hg 0 _ rfl
  rw [show Tryz.prog.cellsOf _ = 1 from cells_3] at g0
  replace g0 : DataW.trod _ _ _ _ _ _ _ 3 [c0] = _ := g0
  obtain ⟨x0, e0, w0⟩ := open_i64 Tryz.underlying3 g0
  obtain ⟨y1, g1⟩ := hg 1 _ rfl
  rw [show Tryz.prog.cellsOf _ = 1 from cells_3] at g1
  replace g1 : DataW.trod _ _ _ _ _ _ _ 3 [c1] = _ := g1
  obtain ⟨x1, e1, w1⟩ := open_i64 Tryz.underlying3 g1
  obtain ⟨y2, g2⟩ := hg 2 _ rfl
  rw [show Tryz.prog.cellsOf _ = 3 from cells_46] at g2
  replace g2 : DataW.trod _ _ _ _ _ _ _ 46 [c2, c3, c4] = _ := g2
  obtain ⟨x2, e2, o2⟩ := open_GridR g2
  replace e2 : [c2, c3, c4] = [i64 x2.W, i64 x2.H, .slice x2.Cells.A x2.Cells.n x2.Cells.c] := e2
  obtain ⟨y3, g3⟩ := hg 3 _ rfl
  rw [show Tryz.prog.cellsOf _ = 3 from cells_46] at g3
  replace g3 : DataW.trod _ _ _ _ _ _ _ 46 [c5, c6, c7] = _ := g3
  obtain ⟨x3, e3, o3⟩ := open_GridR g3
  replace e3 : [c5, c6, c7] = [i64 x3.W, i64 x3.H, .slice x3.Cells.A x3.Cells.n x3.Cells.c] := e3
  obtain ⟨y4, g4⟩ := hg 4 _ rfl
  rw [show Tryz.prog.cellsOf _ = 1 from cells_4] at g4
  replace g4 : DataW.trod _ _ _ _ _ _ _ 4 [c8] = _ := g4
  obtain ⟨x4, e4⟩ := open_bool' Tryz.underlying4 g4
  obtain ⟨y5, g5⟩ := hg 5 _ rfl
  rw [show Tryz.prog.cellsOf _ = 1 from cells_3] at g5
  replace g5 : DataW.trod _ _ _ _ _ _ _ 3 [c9] = _ := g5
  obtain ⟨x5, e5, w5⟩ := open_i64 Tryz.underlying3 g5
  obtain ⟨y6, g6⟩ := hg 6 _ rfl
  rw [show Tryz.prog.cellsOf _ = 1 from cells_3] at g6
  replace g6 : DataW.trod _ _ _ _ _ _ _ 3 [c10] = _ := g6
  obtain ⟨x6, e6, w6⟩ := open_i64 Tryz.underlying3 g6
  obtain ⟨y7, g7⟩ := hg 7 _ rfl
  rw [show Tryz.prog.cellsOf _ = 1 from cells_4] at g7
  replace g7 : DataW.trod _ _ _ _ _ _ _ 4 [c11] = _ := g7
  obtain ⟨x7, e7⟩ := open_bool' Tryz.underlying4 g7
  obtain ⟨y8, g8⟩ := hg 8 _ rfl
  rw [show Tryz.prog.cellsOf _ = 5 from cells_47] at g8
  replace g8 : DataW.trod _ _ _ _ _ _ _ 47 [c12, c13, c14, c15, c16] = _ := g8
  obtain ⟨x8, e8, w8⟩ := open_Attr g8
  replace e8 : [c12, c13, c14, c15, c16] = [i64 x8.Fg, i64 x8.Bg, .bool x8.Bold, .bool x8.Under, .bool x8.Turn] := e8
  obtain ⟨y9, g9⟩ := hg 9 _ rfl
  rw [show Tryz.prog.cellsOf _ = 1 from cells_3] at g9
  replace g9 : DataW.trod _ _ _ _ _ _ _ 3 [c17] = _ := g9
  obtain ⟨x9, e9, w9⟩ := open_i64 Tryz.underlying3 g9
  obtain ⟨y10, g10⟩ := hg 10 _ rfl
  rw [show Tryz.prog.cellsOf _ = 1 from cells_3] at g10
  replace g10 : DataW.trod _ _ _ _ _ _ _ 3 [c18] = _ := g10
  obtain ⟨x10, e10, w10⟩ := open_i64 Tryz.underlying3 g10
  obtain ⟨y11, g11⟩ := hg 11 _ rfl
  rw [show Tryz.prog.cellsOf _ = 1 from cells_4] at g11
  replace g11 : DataW.trod _ _ _ _ _ _ _ 4 [c19] = _ := g11
  obtain ⟨x11, e11⟩ := open_bool' Tryz.underlying4 g11
  obtain ⟨y12, g12⟩ := hg 12 _ rfl
  rw [show Tryz.prog.cellsOf _ = 1 from cells_4] at g12
  replace g12 : DataW.trod _ _ _ _ _ _ _ 4 [c20] = _ := g12
  obtain ⟨x12, e12⟩ := open_bool' Tryz.underlying4 g12
  obtain ⟨y13, g13⟩ := hg 13 _ rfl
  rw [show Tryz.prog.cellsOf _ = 1 from cells_3] at g13
  replace g13 : DataW.trod _ _ _ _ _ _ _ 3 [c21] = _ := g13
  obtain ⟨x13, e13, w13⟩ := open_i64 Tryz.underlying3 g13
  obtain ⟨y14, g14⟩ := hg 14 _ rfl
  rw [show Tryz.prog.cellsOf _ = 1 from cells_3] at g14
  replace g14 : DataW.trod _ _ _ _ _ _ _ 3 [c22] = _ := g14
  obtain ⟨x14, e14, w14⟩ := open_i64 Tryz.underlying3 g14
  obtain ⟨y15, g15⟩ := hg 15 _ rfl
  rw [show Tryz.prog.cellsOf _ = 5 from cells_47] at g15
  replace g15 : DataW.trod _ _ _ _ _ _ _ 47 [c23, c24, c25, c26, c27] = _ := g15
  obtain ⟨x15, e15, w15⟩ := open_Attr g15
  replace e15 : [c23, c24, c25, c26, c27] = [i64 x15.Fg, i64 x15.Bg, .bool x15.Bold, .bool x15.Under, .bool x15.Turn] := e15
  obtain ⟨y16, g16⟩ := hg 16 _ rfl
  rw [show Tryz.prog.cellsOf _ = 1 from cells_23] at g16
  replace g16 : DataW.trod _ _ _ _ _ _ _ 23 [c28] = _ := g16
  obtain ⟨A16, n16, k16, x16, e16, f16, hc16, hn16, hg16⟩ := open_SlE (F := encI) (good := fun n => In64 n) Tryz.underlying23 cells_3 (fun _ _ _ h_ => open_e64 Tryz.underlying3 h_) g16
  obtain ⟨y17, g17⟩ := hg 17 _ rfl
  rw [show Tryz.prog.cellsOf _ = 1 from cells_3] at g17
  replace g17 : DataW.trod _ _ _ _ _ _ _ 3 [c29] = _ := g17
  obtain ⟨x17, e17, w17⟩ := open_i64 Tryz.underlying3 g17
  obtain ⟨y18, g18⟩ := hg 18 _ rfl
  rw [show Tryz.prog.cellsOf _ = 1 from cells_48] at g18
  replace g18 : DataW.trod _ _ _ _ _ _ _ 48 [c30] = _ := g18
  obtain ⟨A18, n18, k18, x18, e18, f18, hc18, hn18, hg18⟩ := open_SlE (F := encRowR) (good := fun d => okRowR 9223372036854775807 w d) Tryz.underlying48 cells_172 (fun _ _ _ h_ => open_RowR h_) g18
  cases e0
  cases e1
  cases e2
  cases e3
  cases e4
  cases e5
  cases e6
  cases e7
  cases e8
  cases e9
  cases e10
  cases e11
  cases e12
  cases e13
  cases e14
  cases e15
  cases e16
  cases e17
  cases e18
  exact ⟨⟨x0, x1, x2, x3, x4, x5, x6, x7, x8, x9, x10, x11, x12, x13, x14, x15, ⟨A16, n16, k16, x16⟩, x17, ⟨A18, n18, k18, x18⟩⟩, rfl, ⟨o2, o3, f16, hc16, hn16, ⟨f18, hg18⟩, hc18, hn18⟩⟩
theorem cells_85 : Tryz.prog.cellsOf 85 = 35 := by kernel_rfl
theorem open_TermR {H : Type} {enc : TypeId × Value → H} {w : World} {base : Nat} {spare : Nat → Bool} {held : Bool} {fuel : Nat} {cs : List Value} {x : DataW H × List MemPlace} (h : DataW.trod enc Tryz.prog w base spare held fuel 85 cs = some x) : ∃ d, cs = encTermR.enc d ∧ okTermR 9223372036854775807 w d := by
  obtain ⟨hl, n, hg⟩ := trod_flds Tryz.underlying85 h
  rw [cells_85] at hl
  obtain ⟨c0, l0, rfl, z0⟩ := list_succ hl
  obtain ⟨c1, l1, rfl, z1⟩ := list_succ z0
  obtain ⟨c2, l2, rfl, z2⟩ := list_succ z1
  obtain ⟨c3, l3, rfl, z3⟩ := list_succ z2
  obtain ⟨c4, l4, rfl, z4⟩ := list_succ z3
  obtain ⟨c5, l5, rfl, z5⟩ := list_succ z4
  obtain ⟨c6, l6, rfl, z6⟩ := list_succ z5
  obtain ⟨c7, l7, rfl, z7⟩ := list_succ z6
  obtain ⟨c8, l8, rfl, z8⟩ := list_succ z7
  obtain ⟨c9, l9, rfl, z9⟩ := list_succ z8
  obtain ⟨c10, l10, rfl, z10⟩ := list_succ z9
  obtain ⟨c11, l11, rfl, z11⟩ := list_succ z10
  obtain ⟨c12, l12, rfl, z12⟩ := list_succ z11
  obtain ⟨c13, l13, rfl, z13⟩ := list_succ z12
  obtain ⟨c14, l14, rfl, z14⟩ := list_succ z13
  obtain ⟨c15, l15, rfl, z15⟩ := list_succ z14
  obtain ⟨c16, l16, rfl, z16⟩ := list_succ z15
  obtain ⟨c17, l17, rfl, z17⟩ := list_succ z16
  obtain ⟨c18, l18, rfl, z18⟩ := list_succ z17
  obtain ⟨c19, l19, rfl, z19⟩ := list_succ z18
  obtain ⟨c20, l20, rfl, z20⟩ := list_succ z19
  obtain ⟨c21, l21, rfl, z21⟩ := list_succ z20
  obtain ⟨c22, l22, rfl, z22⟩ := list_succ z21
  obtain ⟨c23, l23, rfl, z23⟩ := list_succ z22
  obtain ⟨c24, l24, rfl, z24⟩ := list_succ z23
  obtain ⟨c25, l25, rfl, z25⟩ := list_succ z24
  obtain ⟨c26, l26, rfl, z26⟩ := list_succ z25
  obtain ⟨c27, l27, rfl, z27⟩ := list_succ z26
  obtain ⟨c28, l28, rfl, z28⟩ := list_succ z27
  obtain ⟨c29, l29, rfl, z29⟩ := list_succ z28
  obtain ⟨c30, l30, rfl, z30⟩ := list_succ z29
  obtain ⟨c31, l31, rfl, z31⟩ := list_succ z30
  obtain ⟨c32, l32, rfl, z32⟩ := list_succ z31
  obtain ⟨c33, l33, rfl, z33⟩ := list_succ z32
  obtain ⟨c34, l34, rfl, z34⟩ := list_succ z33
  obtain rfl := list_zero z34
  obtain ⟨y0, g0⟩ := hg 0 _ rfl
  rw [show Tryz.prog.cellsOf _ = 4 from cells_83] at g0
  replace g0 : DataW.trod _ _ _ _ _ _ _ 83 [c0, c1, c2, c3] = _ := g0
  obtain ⟨x0, e0, o0⟩ := open_VpR g0
  replace e0 : [c0, c1, c2, c3] = [i64 x0.State, .bool x0.Mark, .slice x0.Args.A x0.Args.n x0.Args.c, .slice x0.Part.A x0.Part.n x0.Part.c] := e0
  obtain ⟨y1, g1⟩ := hg 1 _ rfl
  rw [show Tryz.prog.cellsOf _ = 31 from cells_50] at g1
  replace g1 : DataW.trod _ _ _ _ _ _ _ 50 [c4, c5, c6, c7, c8, c9, c10, c11, c12, c13, c14, c15, c16, c17, c18, c19, c20, c21, c22, c23, c24, c25, c26, c27, c28, c29, c30, c31, c32, c33, c34] = _ := g1
  obtain ⟨x1, e1, o1⟩ := open_ScrR g1
  replace e1 : [c4, c5, c6, c7, c8, c9, c10, c11, c12, c13, c14, c15, c16, c17, c18, c19, c20, c21, c22, c23, c24, c25, c26, c27, c28, c29, c30, c31, c32, c33, c34] = (cScr x1) := e1
  cases e0
  cases e1
  exact ⟨⟨x0, x1⟩, rfl, ⟨o0, o1⟩⟩
namespace fnExactTermFeed
open Go.ChangeShapes Go.WideShapes Go.ChangeAt Go.RowKit
theorem own : ownKnob Tryz.prog.godebug = none := by kernel_rfl
theorem laidOut : laidOutB Tryz.prog = true := by kernel_rfl
set_option maxRecDepth 100000 in
set_option maxHeartbeats 1000000 in
theorem lifted (os : Os) (started : os.Started) (H : Type) (enc : TypeId × Value → H) :
    ReturnsInHanded {} Tryz.checked os 10 .any (Rows.fnExactTermFeedSpec.pre6 enc Tryz.prog Tryz.f10 Rows.fnExactTermFeedRow.domain false) (Rows.fnExactTermFeedSpec.post enc Tryz.prog Tryz.f10 false true false false) := by
  refine returnsInHanded_of_change (C := Tryz.checked) own started (by kernel_rfl) Tryz.func10
    (ChangeSpec.witness6 (enc := enc) (C := Tryz.checked) false ⟨#[], #[(Value.agg #[Value.int IntKind.i64 0, Value.bool false, Value.slice none 0 0, Value.slice none 0 0, Value.int IntKind.i64 0, Value.int IntKind.i64 0, Value.int IntKind.i64 0, Value.int IntKind.i64 0, Value.slice none 0 0, Value.int IntKind.i64 0, Value.int IntKind.i64 0, Value.slice none 0 0, Value.bool false, Value.int IntKind.i64 0, Value.int IntKind.i64 0, Value.bool false, Value.int IntKind.i64 0, Value.int IntKind.i64 0, Value.bool false, Value.bool false, Value.bool false, Value.int IntKind.i64 0, Value.int IntKind.i64 0, Value.bool false, Value.bool false, Value.int IntKind.i64 0, Value.int IntKind.i64 0, Value.int IntKind.i64 0, Value.int IntKind.i64 0, Value.bool false, Value.bool false, Value.bool false, Value.slice none 0 0, Value.int IntKind.i64 0, Value.slice none 0 0]), .slice none 0 0], []⟩ 8 (by kernel_rfl) (by kernel_rfl) (by kernel_rfl) (by kernel_rfl)) ?_
  intro W base args ds gs before hval0 hW hcnd _
  have hval : ∀ (j : Nat) t v, Tryz.f10.params[j]? = some t → args[j]? = some v → Value.okWide Tryz.prog W .any base t v := hval0
  have hW' := hW
  obtain ⟨p, q, hA0, hV, rfl, hfz, hnd⟩ := hW
  have hA : DataW.TrodAll enc Tryz.prog W 0 (fun _ => true) true Tryz.f10.params.toList args.toList ds p := hA0
  rw [Tryz.params10] at hA hval
  obtain ⟨v0, vs0, d0, ds0, p0, q0, hargs, rfl, rfl, h0, r0⟩ := trodAll_cons hA
  obtain ⟨v1, vs1, d1, ds1, p1, q1, rfl, rfl, rfl, h1, r1⟩ := trodAll_cons r0
  obtain ⟨rfl, rfl, rfl⟩ := trodAll_nil r1
  obtain rfl : args = #[v0, v1] := by cases args; simp_all
  obtain ⟨rfl, rfl⟩ := trodVars_none hV
  have k0 := h0
  have lt0 : ∀ x ∈ p0, x.block < W.heap.size := by obtain ⟨m, hm⟩ := k0; exact DataW.trod_lt m _ _ _ hm
  have k1 := h1
  have lt1 : ∀ x ∈ p1, x.block < W.heap.size := by obtain ⟨m, hm⟩ := k1; exact DataW.trod_lt m _ _ _ hm
  obtain ⟨cs0, rfl, hsz0⟩ := okWide_struct Tryz.underlying85 (hval 0 85 v0 rfl rfl)
  obtain ⟨l0⟩ := cs0
  obtain ⟨fuel0, hf0⟩ := h0
  replace hf0 : DataW.trod _ _ _ _ _ _ _ 85 l0 = _ := hf0
  obtain ⟨aT, rfl, f_aT⟩ := open_TermR hf0
  obtain ⟨a1, l1, q1, rfl⟩ := okWide_slice Tryz.underlying22 (hval 1 22 v1 rfl rfl)
  obtain ⟨fuel1, hf1⟩ := h1
  replace hf1 : DataW.trod _ _ _ _ _ _ _ 22 [.slice a1 l1 q1] = _ := hf1
  obtain ⟨A_aB, n_aB, c_aB, aB, e1, f_aB, w_aB⟩ := open_SlB Tryz.underlying22 Tryz.underlying5 (by kernel_rfl) hf1
  obtain ⟨rfl, rfl, rfl⟩ : A_aB = a1 ∧ n_aB = l1 ∧ c_aB = q1 := by cases e1; exact ⟨rfl, rfl, rfl⟩
  clear hA0 hval0
  refine (k195_ aT A_aB n_aB c_aB aB W f_aT f_aB).mono fun e W' ⟨he, hst⟩ => ?_
  have bel := hst.toBelow
  subst he
  exact ⟨_, rfl, _, _, _, [], _, [], hW', trodAll_mk1 (shut_bool Tryz.underlying4 _), (trodAll_cons_mk (Below.trod laidOut (by kernel_rfl) (of_decide_eq_true (by kernel_rfl)) k0 bel lt0) (trodAll_cons_mk (Below.trod laidOut (by kernel_rfl) (of_decide_eq_true (by kernel_rfl)) k1 bel lt1) trodAll_mk0)), rfl, bel.frame _, fun h => by cases h⟩
theorem over : Rows.fnExactTermFeedRow.holds Tryz.pinned (OpenSpec.ofChange Rows.fnExactTermFeedSpec) :=
  OpenClaim.holds_of_wide 10 Tryz.f10 rfl rfl rfl rfl rfl rfl rfl ⟨rfl, rfl, rfl, rfl, rfl⟩ rfl rfl rfl rfl rfl (by kernel_rfl) Tryz.func10 (by kernel_rfl)
    (of_decide_eq_true (by kernel_rfl)) (by unfold Func.isWrapper; first | (rw [if_pos (by decide +kernel)]; kernel_rfl) | (rw [if_neg (by decide +kernel)]; exact ⟨rfl, rfl⟩))
    (fun os started H enc _ => lifted os started H enc)
end fnExactTermFeed
theorem fnExactTermFeed_holds : Rows.FnExactTermFeedSaid := fnExactTermFeed.over
end Go.Proofs.YtjmegoiclgancaaGreat
