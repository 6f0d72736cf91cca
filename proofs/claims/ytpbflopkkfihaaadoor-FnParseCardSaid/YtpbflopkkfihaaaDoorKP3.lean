/-
  What the proof stands on, part 3.
-/
import Derived.Test.YtpbflopkkfihaaaDoorKP2
namespace Go.Proofs.YtpbflopkkfihaaaDoor
open Go Go.RowKit
set_option linter.unusedVariables false
set_option linter.unusedSimpArgs false
theorem k32_ (p : VpR) (L_p : Hp) (b : Int) (w : World) (o_p : ownVpR p L_p) (h_p : Hh w L_p) (hd_ : ((L_p).map (·.1)).Nodup) (hsm : smVp 1048576 p.dat) (hok : areArgs p.dat.Args = true) (hb : 0 ≤ b ∧ b ≤ 255) :
    Calls Tryd.prog 60 #[.agg #[i64 p.State, .bool p.Mark, .slice p.Args.A p.Args.n p.Args.c, .slice p.Part.A p.Part.n p.Part.c], i64 b] w fun e w' => ∃ r0 L0 r1 L1, e = .returned (.tuple #[.agg #[i64 r0.State, .bool r0.Mark, .slice r0.Args.A r0.Args.n r0.Args.c, .slice r0.Part.A r0.Part.n r0.Part.c], .agg #[i64 r1.Kind, i64 r1.R, .bool r1.Mark, .slice r1.Args.A r1.Args.n r1.Args.c]]) ∧ St w (L_p.map (·.1)) (L0 ++ L1) w' ∧ ownVpR r0 L0 ∧ ownActR r1 L1 ∧ r0.dat = (vpCsi p.dat b).1 ∧ r1.dat = (vpCsi p.dat b).2 := by
 have hsB : smVp 549755813888 p.dat := ⟨Nat.le_trans hsm.1 (by decide), Nat.le_trans hsm.2 (by decide)⟩
 have hsa : p.Args.xs.length ≤ 1048576 := hsm.1
 have hsp : p.Part.xs.length ≤ 1048576 := hsm.2
 obtain ⟨hal, hpl⟩ := ownVpR.len o_p
 have h88 : p.Args.xs.length ≤ 8 := (areArgs_iff.1 hok).1
 refine enter 109 Tryd.func60 rfl Tryd.ntmps60 rfl rfl ?_
 have hs1 := St.takes1 w L_p h_p hd_
 refine WC.sr (WL.bx hs1 rfl (fun b2 _ hs3 => WL.al hs3 Tryd.zeroValue26 rfl rfl (fun b4 _ hs5 => WL.al hs5 Tryd.zeroValue33 rfl rfl (fun b6 _ hs7 => WL.nil (WC.seq (fun K8 hK8 => WC.block (WC.sr ?_)))))))
 refine WL.r 3 hs7 [] rfl (WL.pA tbk 4 Acts.nil hs7 [2] rfl rfl rfl rfl (fun g_ => ⟨rfl, trivial⟩) (WL.r 1 hs7 [] rfl (WL.pA tbk 3 Acts.nil hs7 [2] rfl rfl rfl rfl (fun g_ => ⟨rfl, trivial⟩) (WL.r 1 hs7 [] rfl (WL.nil (WC.cq rfl (fun h9 qh9 => ?_) (fun h9 qh9 => ?_)))))))
 ·have hc1 : (b = 63 ∧ p.dat.Args.length = 0) ∧ p.dat.Mark = false := by show (b = 63 ∧ p.Args.xs.length = 0) ∧ p.Mark = false; simp at qh9; exact ⟨⟨qh9.1.1, by omega⟩, qh9.2⟩
  refine WC.region (WL.r 1 hs7 [] rfl (WL.st tbk hs7 2 rfl rfl (fun _ hs10 => WL.nil (hK8 _ _ (WC.sr (WL.r 1 hs10 [2] rfl ?_))))))
  refine WL.val rfl rfl rfl (Run.build rfl rfl rfl rfl (built_33)) (WL.st tbk hs10 1 rfl rfl (fun _ hs11 => WL.st tbk hs11 0 rfl rfl (fun _ hs12 => WL.nil (WC.ret (retV2 rfl (resV.cellA tbk hs12 1 rfl rfl rfl rfl) (resV.cellA tbk hs12 0 rfl rfl rfl rfl) ?_)))))
  have hv : vpCsi p.dat b = ({ p.dat with Mark := true }, act0) := by unfold vpCsi; rw [if_pos hc1]
  obtain ⟨L13, L14, hs17, ho15, ho16⟩ := ownVpR.op hs12 o_p
  have hs18 := (((hs17.fb b2).fb b4).fb b6)
  obtain ⟨L20, hs19, ho21⟩ := ownVpR.fl hs18 ho15 ho16
  have hs22 := (((hs19.fb b2).fb b4).fb b6)
  refine ⟨⟨p.State, true, SlD.of ho15, SlD.of ho16⟩, _, ⟨0, 0, false, ⟨none, 0, 0, []⟩⟩, _, rfl, (St.drop ((hs22.fr ([] : Hp)).fr L20) (List.Sublist.append_left (List.sublist_append_left ([] : Hp) _) L20)), ?_, ?_, ?_, ?_⟩
  · exact (by exact ho21)
  · exact (OwnF.nil _ _)
  · rw [hv]; rfl
  · rw [hv]; first | done | rfl
 have hc1 : ¬ ((b = 63 ∧ p.dat.Args.length = 0) ∧ p.dat.Mark = false) := by show ¬ ((b = 63 ∧ p.Args.xs.length = 0) ∧ p.Mark = false); rintro ⟨⟨h1, h2⟩, h3⟩; rw [h3] at qh9; simp at qh9; omega
 refine WC.sr (WL.r 3 hs7 [] rfl (WL.pA tbk 2 Acts.nil hs7 [] rfl rfl rfl rfl (fun g_ => trivial) (WL.r 1 hs7 [] rfl (WL.nil (WC.cq rfl (fun h24 qh24 => ?_) (fun h24 qh24 => ?_))))))
 ·have hc2 : 48 ≤ b ∧ b ≤ 57 := by first | omega | (simp at qh24; omega)
  refine WC.seq (fun K25 hK25 => WC.r1 hs7 [2] rfl ?_)
  refine WC.cD rfl (fun qh26 => ?_) (fun qh26 => ?_)
  ·have gb : 0 ≤ gat encI (p.Args.xs ++ [0]) (((p.Args.xs ++ [0]).length : Int) - 1).toNat ∧ gat encI (p.Args.xs ++ [0]) (((p.Args.xs ++ [0]).length : Int) - 1).toNat ≤ 9999 := by (have hnil : p.Args.xs = [] := List.eq_nil_of_length_eq_zero (by omega); rw [hnil]; decide)
   refine WC.region (WL.r 2 hs7 [2] rfl (WL.buildSlice hs7 Tryd.runUnderlying24 Tryd.sizeOf3 Tryd.zeroValue3 rfl rfl rfl rfl rfl rfl rfl rfl rfl rfl (fun b27 whs28 hs28 => ?_)))
   obtain ⟨L29, L30, hs33, ho31, ho32⟩ := ownVpR.op hs28 o_p
   have hs34 := ((((hs33.fb b2).fb b4).fb b6).fb b27)
   refine WL.appendG (hs34.fr L29) ho31 (srcI1 Tryd.underlying24 (hs34.own _ (nthL_mem (i := 0) rfl)).1) Tryd.underlying24 inf3 rfl rfl rfl rfl rfl rfl rfl rfl rfl rfl ?_ (fun A38 c39 L35 whs36 hs36 ho37 => ?_)
   · first | omega | (simp; done) | (simp; omega) | omega
   replace hs36 := St.back [_, _, _, _] hs36
   refine WL.r 1 hs36 [] rfl (WL.st tbk hs36 3 rfl rfl (fun _ hs40 => WL.nil (hK25 _ _ (WC.sr ?_))))
   refine WL.run tbk 6 hs40 [3, 3] rfl ⟨by first | omega | (simp; done) | (simp; omega) | omega, rfl, rfl, trivial⟩ (WL.val rfl rfl rfl (Run.idx Tryd.runUnderlying24 Tryd.sizeOf3 rfl rfl rfl ?_ ?_ ?_) ?_)
   · exact SlF.some_ (SlF.ofOwn ho37 (hs40.ow L35))
   · first | omega | (simp; done) | (simp; omega) | omega
   · first | omega | (simp; done) | (simp; omega) | omega
   refine WL.val rfl rfl rfl (Run.load Tryd.isAgg3 rfl rfl (SlF.one1 (SlF.ofOwn ho37 (hs40.ow L35)) ?_ rfl)) ?_
   · first | omega | (simp; done) | (simp; omega) | omega
   refine WL.run tbk 5 hs40 [] rfl ⟨by first | omega | (simp; done) | (simp; omega) | omega, by first | omega | (simp; done) | (simp; omega) | omega, by first | omega | (simp; done) | (simp; omega) | omega, trivial⟩ (WL.nil (WC.seq (fun K41 hK41 => WC.r1 hs40 [] rfl ?_)))
   refine WC.cD rfl (fun qh42 => ?_) (fun qh42 => ?_)
   ·refine WC.region (WL.r 1 hs40 [] rfl (WL.nil (hK41 _ _ (WC.region ?_))))
    refine WL.run tbk 7 hs40 [3, 3] rfl ⟨by first | omega | (simp; done) | (simp; omega) | omega, rfl, rfl, trivial⟩ (WL.val rfl rfl rfl (Run.idx Tryd.runUnderlying24 Tryd.sizeOf3 rfl rfl rfl ?_ ?_ ?_) ?_)
    · exact SlF.some_ (SlF.ofOwn ho37 (hs40.ow L35))
    · first | omega | (simp; done) | (simp; omega) | omega
    · first | omega | (simp; done) | (simp; omega) | omega
    refine WL.storeF1 (x' := _) (hs40.fr L35) ho37 Tryd.sizeOf3 rfl rfl rfl rfl rfl rfl rfl rfl rfl ?_ rfl (fun L43 whs44 hs44 ho45 _ => ?_)
    · first | omega | (simp; done) | (simp; omega) | omega
    replace hs44 := St.back [_, _, _, _] hs44
    refine WL.nil (hK8 _ _ (WC.sr (WL.r 1 hs44 [3] rfl ?_)))
    refine WL.val rfl rfl rfl (Run.build rfl rfl rfl rfl (built_33)) (WL.st tbk hs44 2 rfl rfl (fun _ hs46 => WL.st tbk hs46 1 rfl rfl (fun _ hs47 => WL.nil (WC.ret (retV2 rfl (resV.cellA tbk hs47 2 rfl rfl rfl rfl) (resV.cellA tbk hs47 1 rfl rfl rfl rfl) ?_)))))
    have hv : vpCsi p.dat b = (vpDigit p.dat (b - 48), act0) := by unfold vpCsi; rw [if_neg hc1, if_pos hc2]
    have hnil : p.Args.xs = [] := List.eq_nil_of_length_eq_zero (by omega)
    obtain ⟨L49, hs48, ho50⟩ := ownVpR.fl hs47 ho45 ho32
    have hs51 := ((((hs48.fb b2).fb b4).fb b6).fb b27)
    refine ⟨⟨p.State, p.Mark, SlD.of ho45, SlD.of ho32⟩, _, ⟨0, 0, false, ⟨none, 0, 0, []⟩⟩, _, rfl, (St.drop ((hs51.fr ([] : Hp)).fr L49) (List.Sublist.append_left (List.sublist_append_left ([] : Hp) _) L49)), ?_, ?_, ?_, ?_⟩
    · exact (by exact ho50)
    · exact (OwnF.nil _ _)
    · rw [hv, vpDigit_A (show p.dat.Args.length = 0 from (by omega : p.Args.xs.length = 0))]; exact VpD.ext' rfl rfl (by show ((p.Args.xs ++ [0]).set _ _ : List Int) = _; simp only [hnil, List.nil_append] at *; have ez : gat encI [0] ((([0] : List Int).length : Int) - 1).toNat = 0 := rfl; have ez0 : gat encI [0] 0 = 0 := rfl; show [_] = [_]; congr 1; omega) rfl
    · rw [hv]; first | done | rfl
   refine WC.skip (hK41 _ _ (WC.region ?_))
   refine WL.run tbk 7 hs40 [3, 3] rfl ⟨by first | omega | (simp; done) | (simp; omega) | omega, rfl, rfl, trivial⟩ (WL.val rfl rfl rfl (Run.idx Tryd.runUnderlying24 Tryd.sizeOf3 rfl rfl rfl ?_ ?_ ?_) ?_)
   · exact SlF.some_ (SlF.ofOwn ho37 (hs40.ow L35))
   · first | omega | (simp; done) | (simp; omega) | omega
   · first | omega | (simp; done) | (simp; omega) | omega
   refine WL.storeF1 (x' := _) (hs40.fr L35) ho37 Tryd.sizeOf3 rfl rfl rfl rfl rfl rfl rfl rfl rfl ?_ rfl (fun L53 whs54 hs54 ho55 _ => ?_)
   · first | omega | (simp; done) | (simp; omega) | omega
   replace hs54 := St.back [_, _, _, _] hs54
   refine WL.nil (hK8 _ _ (WC.sr (WL.r 1 hs54 [3] rfl ?_)))
   refine WL.val rfl rfl rfl (Run.build rfl rfl rfl rfl (built_33)) (WL.st tbk hs54 2 rfl rfl (fun _ hs56 => WL.st tbk hs56 1 rfl rfl (fun _ hs57 => WL.nil (WC.ret (retV2 rfl (resV.cellA tbk hs57 2 rfl rfl rfl rfl) (resV.cellA tbk hs57 1 rfl rfl rfl rfl) ?_)))))
   have hv : vpCsi p.dat b = (vpDigit p.dat (b - 48), act0) := by unfold vpCsi; rw [if_neg hc1, if_pos hc2]
   have hnil : p.Args.xs = [] := List.eq_nil_of_length_eq_zero (by omega)
   obtain ⟨L59, hs58, ho60⟩ := ownVpR.fl hs57 ho55 ho32
   have hs61 := ((((hs58.fb b2).fb b4).fb b6).fb b27)
   refine ⟨⟨p.State, p.Mark, SlD.of ho55, SlD.of ho32⟩, _, ⟨0, 0, false, ⟨none, 0, 0, []⟩⟩, _, rfl, (St.drop ((hs61.fr ([] : Hp)).fr L59) (List.Sublist.append_left (List.sublist_append_left ([] : Hp) _) L59)), ?_, ?_, ?_, ?_⟩
   · exact (by exact ho60)
   · exact (OwnF.nil _ _)
   · rw [hv, vpDigit_A (show p.dat.Args.length = 0 from (by omega : p.Args.xs.length = 0))]; exact VpD.ext' rfl rfl (by show ((p.Args.xs ++ [0]).set _ _ : List Int) = _; simp only [hnil, List.nil_append] at *; have ez : gat encI [0] ((([0] : List Int).length : Int) - 1).toNat = 0 := rfl; have ez0 : gat encI [0] 0 = 0 := rfl; show [_] = [_]; congr 1; omega) rfl
   · rw [hv]; first | done | rfl
  have gb := areArgs_gat (k := ((p.Args.n : Int) - 1).toNat) hok (by show _ < p.Args.xs.length; omega)
  have e0 : p.dat.Args = p.Args.xs := rfl
  rw [e0] at gb
  refine WC.skip (hK25 _ _ (WC.sr ?_))
  refine WL.run tbk 6 hs7 [2, 2] rfl ⟨by first | omega | (simp; done) | (simp; omega) | omega, rfl, rfl, trivial⟩ (WL.val rfl rfl rfl (Run.idx Tryd.runUnderlying24 Tryd.sizeOf3 rfl rfl rfl ?_ ?_ ?_) ?_)
  · exact SlF.some_ (ownVpR.ok (B := 549755813888) o_p (hs7.ow L_p) (by assumption)).Args
  · first | omega | (simp; done) | (simp; omega) | omega
  · first | omega | (simp; done) | (simp; omega) | omega
  refine WL.val rfl rfl rfl (Run.load Tryd.isAgg3 rfl rfl (SlF.one1 (ownVpR.ok (B := 549755813888) o_p (hs7.ow L_p) (by assumption)).Args ?_ rfl)) ?_
  · first | omega | (simp; done) | (simp; omega) | omega
  refine WL.run tbk 5 hs7 [] rfl ⟨by first | omega | (simp; done) | (simp; omega) | omega, by first | omega | (simp; done) | (simp; omega) | omega, by first | omega | (simp; done) | (simp; omega) | omega, trivial⟩ (WL.nil (WC.seq (fun K63 hK63 => WC.r1 hs7 [] rfl ?_)))
  refine WC.cD rfl (fun qh64 => ?_) (fun qh64 => ?_)
  ·refine WC.region (WL.r 1 hs7 [] rfl (WL.nil (hK63 _ _ (WC.region ?_))))
   refine WL.run tbk 7 hs7 [2, 2] rfl ⟨by first | omega | (simp; done) | (simp; omega) | omega, rfl, rfl, trivial⟩ (WL.val rfl rfl rfl (Run.idx Tryd.runUnderlying24 Tryd.sizeOf3 rfl rfl rfl ?_ ?_ ?_) ?_)
   · exact SlF.some_ (ownVpR.ok (B := 549755813888) o_p (hs7.ow L_p) (by assumption)).Args
   · first | omega | (simp; done) | (simp; omega) | omega
   · first | omega | (simp; done) | (simp; omega) | omega
   obtain ⟨L65, L66, hs69, ho67, ho68⟩ := ownVpR.op hs7 o_p
   have hs70 := (((hs69.fb b2).fb b4).fb b6)
   refine WL.storeF1 (x' := _) (hs70.fr L65) ho67 Tryd.sizeOf3 rfl rfl rfl rfl rfl rfl rfl rfl rfl ?_ rfl (fun L71 whs72 hs72 ho73 _ => ?_)
   · first | omega | (simp; done) | (simp; omega) | omega
   replace hs72 := St.back [_, _, _] hs72
   refine WL.nil (hK8 _ _ (WC.sr (WL.r 1 hs72 [2] rfl ?_)))
   refine WL.val rfl rfl rfl (Run.build rfl rfl rfl rfl (built_33)) (WL.st tbk hs72 1 rfl rfl (fun _ hs74 => WL.st tbk hs74 0 rfl rfl (fun _ hs75 => WL.nil (WC.ret (retV2 rfl (resV.cellA tbk hs75 1 rfl rfl rfl rfl) (resV.cellA tbk hs75 0 rfl rfl rfl rfl) ?_)))))
   have hv : vpCsi p.dat b = (vpDigit p.dat (b - 48), act0) := by unfold vpCsi; rw [if_neg hc1, if_pos hc2]
   obtain ⟨L77, hs76, ho78⟩ := ownVpR.fl hs75 ho73 ho68
   have hs79 := (((hs76.fb b2).fb b4).fb b6)
   refine ⟨⟨p.State, p.Mark, SlD.of ho73, SlD.of ho68⟩, _, ⟨0, 0, false, ⟨none, 0, 0, []⟩⟩, _, rfl, (St.drop ((hs79.fr ([] : Hp)).fr L77) (List.Sublist.append_left (List.sublist_append_left ([] : Hp) _) L77)), ?_, ?_, ?_, ?_⟩
   · exact (by exact ho78)
   · exact (OwnF.nil _ _)
   · rw [hv, vpDigit_B (show ¬ p.dat.Args.length = 0 from (by omega : ¬ p.Args.xs.length = 0))]; exact VpD.ext' rfl rfl (by have e9 : ((p.Args.n : Int) - 1).toNat = p.Args.xs.length - 1 := (by omega); show (p.Args.xs.set _ _ : List Int) = _; show _ = p.Args.xs.set (p.Args.xs.length - 1) (min 9999 (10 * gat encI p.Args.xs (p.Args.xs.length - 1) + (b - 48))); have e10 : gat encI p.Args.xs ((p.Args.n : Int) - 1).toNat = gat encI p.Args.xs (p.Args.xs.length - 1) := (by rw [e9]); rw [e9]; congr 1; omega) rfl
   · rw [hv]; first | done | rfl
  refine WC.skip (hK63 _ _ (WC.region ?_))
  refine WL.run tbk 7 hs7 [2, 2] rfl ⟨by first | omega | (simp; done) | (simp; omega) | omega, rfl, rfl, trivial⟩ (WL.val rfl rfl rfl (Run.idx Tryd.runUnderlying24 Tryd.sizeOf3 rfl rfl rfl ?_ ?_ ?_) ?_)
  · exact SlF.some_ (ownVpR.ok (B := 549755813888) o_p (hs7.ow L_p) (by assumption)).Args
  · first | omega | (simp; done) | (simp; omega) | omega
  · first | omega | (simp; done) | (simp; omega) | omega
  obtain ⟨L81, L82, hs85, ho83, ho84⟩ := ownVpR.op hs7 o_p
  have hs86 := (((hs85.fb b2).fb b4).fb b6)
  refine WL.storeF1 (x' := _) (hs86.fr L81) ho83 Tryd.sizeOf3 rfl rfl rfl rfl rfl rfl rfl rfl rfl ?_ rfl (fun L87 whs88 hs88 ho89 _ => ?_)
  · first | omega | (simp; done) | (simp; omega) | omega
  replace hs88 := St.back [_, _, _] hs88
  refine WL.nil (hK8 _ _ (WC.sr (WL.r 1 hs88 [2] rfl ?_)))
  refine WL.val rfl rfl rfl (Run.build rfl rfl rfl rfl (built_33)) (WL.st tbk hs88 1 rfl rfl (fun _ hs90 => WL.st tbk hs90 0 rfl rfl (fun _ hs91 => WL.nil (WC.ret (retV2 rfl (resV.cellA tbk hs91 1 rfl rfl rfl rfl) (resV.cellA tbk hs91 0 rfl rfl rfl rfl) ?_)))))
  have hv : vpCsi p.dat b = (vpDigit p.dat (b - 48), act0) := by unfold vpCsi; rw [if_neg hc1, if_pos hc2]
  obtain ⟨L93, hs92, ho94⟩ := ownVpR.fl hs91 ho89 ho84
  have hs95 := (((hs92.fb b2).fb b4).fb b6)
  refine ⟨⟨p.State, p.Mark, SlD.of ho89, SlD.of ho84⟩, _, ⟨0, 0, false, ⟨none, 0, 0, []⟩⟩, _, rfl, (St.drop ((hs95.fr ([] : Hp)).fr L93) (List.Sublist.append_left (List.sublist_append_left ([] : Hp) _) L93)), ?_, ?_, ?_, ?_⟩
  · exact (by exact ho94)
  · exact (OwnF.nil _ _)
  · rw [hv, vpDigit_B (show ¬ p.dat.Args.length = 0 from (by omega : ¬ p.Args.xs.length = 0))]; exact VpD.ext' rfl rfl (by have e9 : ((p.Args.n : Int) - 1).toNat = p.Args.xs.length - 1 := (by omega); show (p.Args.xs.set _ _ : List Int) = _; show _ = p.Args.xs.set (p.Args.xs.length - 1) (min 9999 (10 * gat encI p.Args.xs (p.Args.xs.length - 1) + (b - 48))); have e10 : gat encI p.Args.xs ((p.Args.n : Int) - 1).toNat = gat encI p.Args.xs (p.Args.xs.length - 1) := (by rw [e9]); rw [e9]; congr 1; omega) rfl
  · rw [hv]; first | done | rfl
 have hc2 : ¬ (48 ≤ b ∧ b ≤ 57) := by first | omega | (simp at qh24; omega)
 refine WC.r1 hs7 [] rfl (WC.cD rfl (fun qh97 => ?_) (fun qh97 => ?_))
 ·have hc3 : b = 59 := by first | omega | (simp at qh97; omega)
  refine WC.seq (fun K98 hK98 => WC.r1 hs7 [2] rfl ?_)
  refine WC.cD rfl (fun qh99 => ?_) (fun qh99 => ?_)
  ·refine WC.region (WL.r 2 hs7 [2] rfl (WL.buildSlice hs7 Tryd.runUnderlying24 Tryd.sizeOf3 Tryd.zeroValue3 rfl rfl rfl rfl rfl rfl rfl rfl rfl rfl (fun b100 whs101 hs101 => ?_)))
   obtain ⟨L102, L103, hs106, ho104, ho105⟩ := ownVpR.op hs101 o_p
   have hs107 := ((((hs106.fb b2).fb b4).fb b6).fb b100)
   refine WL.appendG (hs107.fr L102) ho104 (srcI1 Tryd.underlying24 (hs107.own _ (nthL_mem (i := 0) rfl)).1) Tryd.underlying24 inf3 rfl rfl rfl rfl rfl rfl rfl rfl rfl rfl ?_ (fun A111 c112 L108 whs109 hs109 ho110 => ?_)
   · first | omega | (simp; done) | (simp; omega) | omega
   replace hs109 := St.back [_, _, _, _] hs109
   refine WL.r 1 hs109 [] rfl (WL.st tbk hs109 3 rfl rfl (fun _ hs113 => WL.nil (hK98 _ _ (WC.r1 hs113 [3] rfl ?_))))
   refine WC.cD rfl (fun qh114 => ?_) (fun qh114 => ?_)
   ·refine WC.region (WL.r 1 hs113 [] rfl (WL.st tbk hs113 3 rfl rfl (fun _ hs115 => WL.nil (hK8 _ _ (WC.sr (WL.r 1 hs115 [3] rfl ?_))))))
    refine WL.val rfl rfl rfl (Run.build rfl rfl rfl rfl (built_33)) (WL.st tbk hs115 2 rfl rfl (fun _ hs116 => WL.st tbk hs116 1 rfl rfl (fun _ hs117 => WL.nil (WC.ret (retV2 rfl (resV.cellA tbk hs117 2 rfl rfl rfl rfl) (resV.cellA tbk hs117 1 rfl rfl rfl rfl) ?_)))))
    exfalso
    simp at qh114 <;> omega
   refine WC.region (WL.r 2 hs113 [3] rfl (WL.buildSlice hs113 Tryd.runUnderlying24 Tryd.sizeOf3 Tryd.zeroValue3 rfl rfl rfl rfl rfl rfl rfl rfl rfl rfl (fun b118 whs119 hs119 => ?_)))
   refine WL.appendG (hs119.fr L108) ho110 (srcI1 Tryd.underlying24 (hs119.own _ (nthL_mem (i := 0) rfl)).1) Tryd.underlying24 inf3 rfl rfl rfl rfl rfl rfl rfl rfl rfl rfl ?_ (fun A123 c124 L120 whs121 hs121 ho122 => ?_)
   · first | omega | (simp; done) | (simp; omega) | omega
   replace hs121 := St.back [_, _, _, _, _] hs121
   refine WL.r 1 hs121 [] rfl (WL.st tbk hs121 4 rfl rfl (fun _ hs125 => WL.nil (hK8 _ _ (WC.sr (WL.r 1 hs125 [4] rfl ?_)))))
   refine WL.val rfl rfl rfl (Run.build rfl rfl rfl rfl (built_33)) (WL.st tbk hs125 3 rfl rfl (fun _ hs126 => WL.st tbk hs126 2 rfl rfl (fun _ hs127 => WL.nil (WC.ret (retV2 rfl (resV.cellA tbk hs127 3 rfl rfl rfl rfl) (resV.cellA tbk hs127 2 rfl rfl rfl rfl) ?_)))))
   have hv : vpCsi p.dat b = (vpNext p.dat, act0) := by unfold vpCsi; rw [if_neg hc1, if_neg hc2, if_pos hc3]
   have hnil : p.Args.xs = [] := List.eq_nil_of_length_eq_zero (by omega)
   obtain ⟨L129, hs128, ho130⟩ := ownVpR.fl hs127 ho122 ho105
   have hs131 := (((((hs128.fb b2).fb b4).fb b6).fb b100).fb b118)
   refine ⟨⟨p.State, p.Mark, SlD.of ho122, SlD.of ho105⟩, _, ⟨0, 0, false, ⟨none, 0, 0, []⟩⟩, _, rfl, (St.drop ((hs131.fr ([] : Hp)).fr L129) (List.Sublist.append_left (List.sublist_append_left ([] : Hp) _) L129)), ?_, ?_, ?_, ?_⟩
   · exact (by exact ho130)
   · exact (OwnF.nil _ _)
   · rw [hv, vpNext_A (show p.dat.Args.length = 0 from (by omega : p.Args.xs.length = 0))]; exact VpD.ext' rfl rfl (by show (p.Args.xs ++ [0]) ++ [0] = _; rw [hnil]; rfl) rfl
   · rw [hv]; first | done | rfl
  refine WC.skip (hK98 _ _ (WC.r1 hs7 [2] rfl ?_))
  refine WC.cD rfl (fun qh133 => ?_) (fun qh133 => ?_)
  ·refine WC.region (WL.r 1 hs7 [] rfl (WL.st tbk hs7 2 rfl rfl (fun _ hs134 => WL.nil (hK8 _ _ (WC.sr (WL.r 1 hs134 [2] rfl ?_))))))
   refine WL.val rfl rfl rfl (Run.build rfl rfl rfl rfl (built_33)) (WL.st tbk hs134 1 rfl rfl (fun _ hs135 => WL.st tbk hs135 0 rfl rfl (fun _ hs136 => WL.nil (WC.ret (retV2 rfl (resV.cellA tbk hs136 1 rfl rfl rfl rfl) (resV.cellA tbk hs136 0 rfl rfl rfl rfl) ?_)))))
   have hv : vpCsi p.dat b = (vpNext p.dat, act0) := by unfold vpCsi; rw [if_neg hc1, if_neg hc2, if_pos hc3]
   obtain ⟨L137, L138, hs141, ho139, ho140⟩ := ownVpR.op hs136 o_p
   have hs142 := (((hs141.fb b2).fb b4).fb b6)
   obtain ⟨L144, hs143, ho145⟩ := ownVpR.fl hs142 ho139 ho140
   have hs146 := (((hs143.fb b2).fb b4).fb b6)
   refine ⟨⟨(3), p.Mark, SlD.of ho139, SlD.of ho140⟩, _, ⟨0, 0, false, ⟨none, 0, 0, []⟩⟩, _, rfl, (St.drop ((hs146.fr ([] : Hp)).fr L144) (List.Sublist.append_left (List.sublist_append_left ([] : Hp) _) L144)), ?_, ?_, ?_, ?_⟩
   · exact (by exact ho145)
   · exact (OwnF.nil _ _)
   · rw [hv, vpNext_D (show p.dat.Args.length = 8 from (by omega : p.Args.xs.length = 8))]; rfl
   · rw [hv]; first | done | rfl
  refine WC.region (WL.r 2 hs7 [2] rfl (WL.buildSlice hs7 Tryd.runUnderlying24 Tryd.sizeOf3 Tryd.zeroValue3 rfl rfl rfl rfl rfl rfl rfl rfl rfl rfl (fun b148 whs149 hs149 => ?_)))
  obtain ⟨L150, L151, hs154, ho152, ho153⟩ := ownVpR.op hs149 o_p
  have hs155 := ((((hs154.fb b2).fb b4).fb b6).fb b148)
  refine WL.appendG (hs155.fr L150) ho152 (srcI1 Tryd.underlying24 (hs155.own _ (nthL_mem (i := 0) rfl)).1) Tryd.underlying24 inf3 rfl rfl rfl rfl rfl rfl rfl rfl rfl rfl ?_ (fun A159 c160 L156 whs157 hs157 ho158 => ?_)
  · first | omega | (simp; done) | (simp; omega) | omega
  replace hs157 := St.back [_, _, _, _] hs157
  refine WL.r 1 hs157 [] rfl (WL.st tbk hs157 3 rfl rfl (fun _ hs161 => WL.nil (hK8 _ _ (WC.sr (WL.r 1 hs161 [3] rfl ?_)))))
  refine WL.val rfl rfl rfl (Run.build rfl rfl rfl rfl (built_33)) (WL.st tbk hs161 2 rfl rfl (fun _ hs162 => WL.st tbk hs162 1 rfl rfl (fun _ hs163 => WL.nil (WC.ret (retV2 rfl (resV.cellA tbk hs163 2 rfl rfl rfl rfl) (resV.cellA tbk hs163 1 rfl rfl rfl rfl) ?_)))))
  have hv : vpCsi p.dat b = (vpNext p.dat, act0) := by unfold vpCsi; rw [if_neg hc1, if_neg hc2, if_pos hc3]
  obtain ⟨L165, hs164, ho166⟩ := ownVpR.fl hs163 ho158 ho153
  have hs167 := ((((hs164.fb b2).fb b4).fb b6).fb b148)
  refine ⟨⟨p.State, p.Mark, SlD.of ho158, SlD.of ho153⟩, _, ⟨0, 0, false, ⟨none, 0, 0, []⟩⟩, _, rfl, (St.drop ((hs167.fr ([] : Hp)).fr L165) (List.Sublist.append_left (List.sublist_append_left ([] : Hp) _) L165)), ?_, ?_, ?_, ?_⟩
  · exact (by exact ho166)
  · exact (OwnF.nil _ _)
  · rw [hv, vpNext_B (show ¬ p.dat.Args.length = 0 from (by omega : ¬ p.Args.xs.length = 0)) (show p.dat.Args.length + 1 ≤ 8 from (by omega : p.Args.xs.length + 1 ≤ 8))]; rfl
  · rw [hv]; first | done | rfl
 have hc3 : ¬ (b = 59) := by first | omega | (simp at qh97; omega)
 refine WC.sr (WL.r 3 hs7 [] rfl (WL.pA tbk 2 Acts.nil hs7 [] rfl rfl rfl rfl (fun g_ => trivial) (WL.r 1 hs7 [] rfl (WL.nil (WC.cq rfl (fun h169 qh169 => ?_) (fun h169 qh169 => ?_))))))
 ·have hc4 : 64 ≤ b ∧ b ≤ 126 := by first | omega | (simp at qh169; omega)
  refine WC.seq (fun K170 hK170 => WC.rH hs7.d1.d1 hs7 (fun _ hs171 => ?_))
  refine WH.take 0 rfl (by kernel_rfl) rfl rfl rfl hs171.d1.d1 (fun w_ hs_ => (Run.build rfl rfl rfl rfl (built_26))) ?_
  refine WH.rn [1, 2, 3, 4, 5] hs171.d1.d1 [0, 0] rfl rfl ?_
  refine WH.take 6 rfl (by kernel_rfl) rfl rfl rfl hs171.d1.d1 (fun w_ hs_ => (Run.build rfl rfl rfl rfl (built_33_0_1_2_3 _ _ _ _ _ _))) ?_
  refine WH.o1 7 rfl (WL.st tbk hs171 1 rfl rfl (fun _ hs172 => WL.nil ⟨hs172.d1.d1, WH.o1 8 rfl (WL.st tbk hs172 0 rfl rfl (fun _ hs173 => WL.nil ⟨hs173.d1.d1, WH.dn (hK170 _ _ ?_)⟩))⟩))
  refine WC.ret (ibR (tkR ?_))
  clear hK8
  refine retV2 rfl (resV.cellA tbk hs173 1 rfl rfl rfl rfl) (resV.cellA tbk hs173 0 rfl rfl rfl rfl) ?_
  have hv : vpCsi p.dat b = (vp0, ⟨4, b, p.dat.Mark, p.dat.Args⟩) := by unfold vpCsi; rw [if_neg hc1, if_neg hc2, if_neg hc3, if_pos hc4]
  obtain ⟨L177, hs176, ho178⟩ := ownVpR.fl hs173 (OwnF.nil _ _) (OwnF.nil _ _)
  have hs179 := (((hs176.fb b2).fb b4).fb b6)
  obtain ⟨L180, L181, hs184, ho182, ho183⟩ := ownVpR.op hs179 o_p
  have hs185 := (((hs184.fb b2).fb b4).fb b6)
  refine ⟨⟨0, false, ⟨none, 0, 0, []⟩, ⟨none, 0, 0, []⟩⟩, _, ⟨(4), b, p.Mark, SlD.of ho182⟩, _, rfl, (St.drop ((hs185.fr L180).fr L177) (List.Sublist.append_left (List.sublist_append_left L180 _) L177)), ?_, ?_, ?_, ?_⟩
  · exact (by exact ho178)
  · exact ho182
  · rw [hv]; rfl
  · rw [hv]; rfl
 have hc4 : ¬ (64 ≤ b ∧ b ≤ 126) := by first | omega | (simp at qh169; omega)
 refine WC.sr (WL.r 3 hs7 [] rfl (WL.pO tbk 2 Acts.nil hs7 [] rfl rfl rfl rfl (fun g_ => trivial) (WL.r 1 hs7 [] rfl (WL.nil (WC.cq rfl (fun h186 qh186 => ?_) (fun h186 qh186 => ?_))))))
 ·have hc5 : b < 32 ∨ b = 127 := by first | omega | (simp at qh186; omega)
  refine WC.sr (WL.r 2 hs7 [2] rfl ?_)
  refine WL.val rfl rfl rfl (Run.build rfl rfl rfl rfl (built_33_0_1 _ _)) (WL.st tbk hs7 1 rfl rfl (fun _ hs187 => WL.st tbk hs187 0 rfl rfl (fun _ hs188 => WL.nil (WC.ret (ibR (tkR ?_))))))
  clear hK8
  refine retV2 rfl (resV.cellA tbk hs188 1 rfl rfl rfl rfl) (resV.cellA tbk hs188 0 rfl rfl rfl rfl) ?_
  have hv : vpCsi p.dat b = (p.dat, ⟨2, b, false, []⟩) := by unfold vpCsi; rw [if_neg hc1, if_neg hc2, if_neg hc3, if_neg hc4, if_pos hc5]
  refine ⟨p, _, ⟨(2), b, false, ⟨none, 0, 0, []⟩⟩, _, rfl, (St.drop ((hs188.fr ([] : Hp)).fr L_p) (List.Sublist.append_left (List.sublist_append_left ([] : Hp) _) L_p)), ?_, ?_, ?_, ?_⟩
  · exact o_p
  · exact (OwnF.nil _ _)
  · rw [hv]; first | done | rfl
  · rw [hv]; first | done | rfl
 have hc5 : ¬ (b < 32 ∨ b = 127) := by first | omega | (simp at qh186; omega)
 refine WC.region (WL.r 1 hs7 [] rfl (WL.st tbk hs7 2 rfl rfl (fun _ hs190 => WL.nil (hK8 _ _ (WC.sr (WL.r 1 hs190 [2] rfl ?_))))))
 refine WL.val rfl rfl rfl (Run.build rfl rfl rfl rfl (built_33)) (WL.st tbk hs190 1 rfl rfl (fun _ hs191 => WL.st tbk hs191 0 rfl rfl (fun _ hs192 => WL.nil (WC.ret (retV2 rfl (resV.cellA tbk hs192 1 rfl rfl rfl rfl) (resV.cellA tbk hs192 0 rfl rfl rfl rfl) ?_)))))
 have hv : vpCsi p.dat b = ({ p.dat with State := 3 }, act0) := by unfold vpCsi; rw [if_neg hc1, if_neg hc2, if_neg hc3, if_neg hc4, if_neg hc5]
 obtain ⟨L193, L194, hs197, ho195, ho196⟩ := ownVpR.op hs192 o_p
 have hs198 := (((hs197.fb b2).fb b4).fb b6)
 obtain ⟨L200, hs199, ho201⟩ := ownVpR.fl hs198 ho195 ho196
 have hs202 := (((hs199.fb b2).fb b4).fb b6)
 refine ⟨⟨(3), p.Mark, SlD.of ho195, SlD.of ho196⟩, _, ⟨0, 0, false, ⟨none, 0, 0, []⟩⟩, _, rfl, (St.drop ((hs202.fr ([] : Hp)).fr L200) (List.Sublist.append_left (List.sublist_append_left ([] : Hp) _) L200)), ?_, ?_, ?_, ?_⟩
 · exact (by exact ho201)
 · exact (OwnF.nil _ _)
 · rw [hv]; rfl
 · rw [hv]; first | done | rfl
theorem k33_ (p : VpR) (b : Int) (w : World) (f_p : okVpR 549755813888 w p) (hsm : smVp 1048576 p.dat) :
    Calls Tryd.prog 43 #[.agg #[i64 p.State, .bool p.Mark, .slice p.Args.A p.Args.n p.Args.c, .slice p.Part.A p.Part.n p.Part.c], i64 b] w fun e w' => ∃ r0 L0 r1 L1, e = .returned (.tuple #[.agg #[i64 r0.State, .bool r0.Mark, .slice r0.Args.A r0.Args.n r0.Args.c, .slice r0.Part.A r0.Part.n r0.Part.c], .agg #[i64 r1.Kind, i64 r1.R, .bool r1.Mark, .slice r1.Args.A r1.Args.n r1.Args.c]]) ∧ St w [] (L0 ++ L1) w' ∧ ownVpR r0 L0 ∧ ownActR r1 L1 ∧ r0.dat = (vpByte p.dat b).1 ∧ r1.dat = (vpByte p.dat b).2 := by
 have nb_p_Args := f_p.Args_n
 have nl_p_Args := f_p.Args.len
 have nb_p_Part := f_p.Part_n
 have nl_p_Part := f_p.Part.len
 have hsB : smVp 549755813888 p.dat := ⟨Nat.le_trans hsm.1 (by decide), Nat.le_trans hsm.2 (by decide)⟩
 have hsa : p.Args.xs.length ≤ 1048576 := hsm.1
 have hsp : p.Part.xs.length ≤ 1048576 := hsm.2
 refine enter 78 Tryd.func43 rfl Tryd.ntmps43 rfl rfl ?_
 have hs1 := St.init w
 refine WC.sr (WL.bx hs1 rfl (fun b2 _ hs3 => WL.al hs3 Tryd.zeroValue26 rfl rfl (fun b4 _ hs5 => WL.al hs5 Tryd.zeroValue33 rfl rfl (fun b6 _ hs7 => WL.nil (WC.seq (fun K8 hK8 => WC.sr (WL.r 1 hs7 [2] rfl ?_)))))))
 refine WL.cl Tryd.call41 rfl (k23_ p _ (okVpR.st0 f_p hs7)) ?_
 rintro _ whs9 ⟨rfl, hs9⟩
 replace hs9 := hs7.call0 hs9
 refine ⟨_, rfl, WL.r 2 hs9 [] rfl (WL.pO tbk 2 Acts.nil hs9 [] rfl rfl rfl rfl (fun g_ => trivial) (WL.r 1 hs9 [] rfl (WL.pO tbk 2 Acts.nil hs9 [] rfl rfl rfl rfl (fun g_ => trivial) (WL.nil (WC.cq rfl (fun h10 qh10 => ?_) (fun h10 qh10 => ?_))))))⟩
 ·have k0 : ¬ (vpOk p.dat = true ∧ 0 ≤ b ∧ b ≤ 255) := by rintro ⟨h1, h2⟩; rw [h1] at qh10; simp at qh10; omega
  refine WC.sr ?_
  refine WL.val rfl rfl rfl (Run.build rfl rfl rfl rfl (built_26)) ?_
  refine WL.val rfl rfl rfl (Run.build rfl rfl rfl rfl (built_33)) (WL.st tbk hs9 1 rfl rfl (fun _ hs11 => WL.st tbk hs11 0 rfl rfl (fun _ hs12 => WL.nil (WC.ret (tkR ?_)))))
  clear hK8
  refine retV2 rfl (resV.cellA tbk hs12 1 rfl rfl rfl rfl) (resV.cellA tbk hs12 0 rfl rfl rfl rfl) ?_
  have hv : vpByte p.dat b = (vp0, act0) := by unfold vpByte; rw [if_neg k0]
  obtain ⟨L16, hs15, ho17⟩ := ownVpR.fl hs12 (OwnF.nil _ _) (OwnF.nil _ _)
  have hs18 := (((hs15.fb b2).fb b4).fb b6)
  refine ⟨⟨0, false, ⟨none, 0, 0, []⟩, ⟨none, 0, 0, []⟩⟩, _, ⟨0, 0, false, ⟨none, 0, 0, []⟩⟩, _, rfl, (St.drop ((hs18.fr ([] : Hp)).fr L16) (List.Sublist.append_left (List.sublist_append_left ([] : Hp) _) L16)), ?_, ?_, ?_, ?_⟩
  · exact (by exact ho17)
  · exact (OwnF.nil _ _)
  · rw [hv]; first | done | rfl
  · rw [hv]; first | done | rfl
 have k0 : vpOk p.dat = true ∧ 0 ≤ b ∧ b ≤ 255 := by first | exact qh10 | (simp at qh10; exact ⟨qh10.1.1, by omega⟩)
 have hok := k0.1
 have hb := k0.2
 have hb1 : vpByte p.dat b = vpStep p.dat b := by unfold vpByte; rw [if_pos k0]
 refine WC.skip (hK8 _ _ (WC.seq (fun K20 hK20 => WC.r1 hs9 [] rfl ?_)))
 refine WC.cD rfl (fun qh21 => ?_) (fun qh21 => ?_)
 ·have k1 : b = 27 := by first | exact qh21 | omega | (simp at qh21; omega)
  refine WC.sr ?_
  refine WL.val rfl rfl rfl (Run.build rfl rfl rfl rfl (built_26_0 _)) ?_
  refine WL.val rfl rfl rfl (Run.build rfl rfl rfl rfl (built_33)) (WL.st tbk hs9 1 rfl rfl (fun _ hs22 => WL.st tbk hs22 0 rfl rfl (fun _ hs23 => WL.nil (WC.ret (tkR ?_)))))
  clear hK20
  refine retV2 rfl (resV.cellA tbk hs23 1 rfl rfl rfl rfl) (resV.cellA tbk hs23 0 rfl rfl rfl rfl) ?_
  have hv : vpStep p.dat b = (⟨1, false, [], []⟩, act0) := by unfold vpStep; rw [if_pos k1]
  obtain ⟨L27, hs26, ho28⟩ := ownVpR.fl hs23 (OwnF.nil _ _) (OwnF.nil _ _)
  have hs29 := (((hs26.fb b2).fb b4).fb b6)
  refine ⟨⟨(1), false, ⟨none, 0, 0, []⟩, ⟨none, 0, 0, []⟩⟩, _, ⟨0, 0, false, ⟨none, 0, 0, []⟩⟩, _, rfl, (St.drop ((hs29.fr ([] : Hp)).fr L27) (List.Sublist.append_left (List.sublist_append_left ([] : Hp) _) L27)), ?_, ?_, ?_, ?_⟩
  · exact (by exact ho28)
  · exact (OwnF.nil _ _)
  · rw [hb1, hv]; first | exact rfl | rfl
  · rw [hb1, hv]; first | exact rfl | rfl
 have k1 : ¬ (b = 27) := by first | exact qh21 | omega | (simp at qh21; omega)
 refine WC.skip (hK20 _ _ (WC.seq (fun K31 hK31 => WC.sr (WL.r 3 hs9 [] rfl (WL.pO tbk 2 Acts.nil hs9 [] rfl rfl rfl rfl (fun g_ => trivial) (WL.nil ?_))))))
 refine WC.cq rfl (fun h32 qh32 => ?_) (fun h32 qh32 => ?_)
 ·have k2 : b = 24 ∨ b = 26 := by first | exact qh32 | omega | (simp at qh32; omega)
  refine WC.sr ?_
  refine WL.val rfl rfl rfl (Run.build rfl rfl rfl rfl (built_26)) ?_
  refine WL.val rfl rfl rfl (Run.build rfl rfl rfl rfl (built_33)) (WL.st tbk hs9 1 rfl rfl (fun _ hs33 => WL.st tbk hs33 0 rfl rfl (fun _ hs34 => WL.nil (WC.ret (tkR ?_)))))
  clear hK31
  refine retV2 rfl (resV.cellA tbk hs34 1 rfl rfl rfl rfl) (resV.cellA tbk hs34 0 rfl rfl rfl rfl) ?_
  have hv : vpStep p.dat b = (vp0, act0) := by unfold vpStep; rw [if_neg k1, if_pos k2]
  obtain ⟨L38, hs37, ho39⟩ := ownVpR.fl hs34 (OwnF.nil _ _) (OwnF.nil _ _)
  have hs40 := (((hs37.fb b2).fb b4).fb b6)
  refine ⟨⟨0, false, ⟨none, 0, 0, []⟩, ⟨none, 0, 0, []⟩⟩, _, ⟨0, 0, false, ⟨none, 0, 0, []⟩⟩, _, rfl, (St.drop ((hs40.fr ([] : Hp)).fr L38) (List.Sublist.append_left (List.sublist_append_left ([] : Hp) _) L38)), ?_, ?_, ?_, ?_⟩
  · exact (by exact ho39)
  · exact (OwnF.nil _ _)
  · rw [hb1, hv]; first | exact rfl | rfl
  · rw [hb1, hv]; first | exact rfl | rfl
 have k2 : ¬ (b = 24 ∨ b = 26) := by first | exact qh32 | omega | (simp at qh32; omega)
 refine WC.skip (hK31 _ _ (WC.sr (WL.r 1 hs9 [2] rfl ?_)))
 refine WL.cl Tryd.call42 rfl (k25_ p _ (okVpR.st0 f_p hs9) ?_) ?_
 · first | assumption | rfl | omega | (rw [rfl]; assumption) | (simp; omega)
 rintro _ whs42 ⟨r43, L1_44, rfl, hs42, ho45, hd46⟩
 replace hs42 := hs9.callF hs42
 refine ⟨_, rfl, ?_⟩
 replace hs42 := St.back [_, _, _] hs42
 skip
 refine WL.al hs42 Tryd.zeroValue26 rfl rfl (fun b47 _ hs48 => WL.st tbk hs48 0 rfl rfl (fun _ hs49 => WL.nil (WC.seq (fun K50 hK50 => WC.r1 hs49 [3] rfl (WC.block (WC.r1 hs49 [] rfl ?_))))))
 refine WC.cD rfl (fun qh51 => ?_) (fun qh51 => ?_)
 ·have k3 : p.dat.State = 0 := by show p.State = 0; first | exact qh51 | omega | (simp at qh51; omega)
  refine WC.sr (WL.r 3 hs49 [3] rfl (WL.cl Tryd.call59 rfl (k26_ _ _ _ _ _ _ (SlF.st0 f_p.Part hs49) ?_) ?_))
  · first | assumption | rfl | omega | (rw [hd46]; assumption) | (simp; omega)
  rintro _ whs52 ⟨r0_53, L0_54, r1_55, L1_56, rfl, hs52, ho57, ho58, hd0_59, hd1_60⟩
  replace hs52 := hs49.callF hs52
  refine ⟨_, rfl, ?_⟩
  replace hs52 := St.assoc hs52
  replace hs52 := St.back2 [_, _, _, _] hs52
  refine WL.r 2 hs52 [] rfl (WL.st tbk hs52 2 rfl rfl (fun _ hs61 => WL.st tbk hs61 1 rfl rfl (fun _ hs62 => WL.nil (WC.ret (ibR (tkR ?_))))))
  clear hK50
  refine retV2 rfl (resV.cellA tbk hs62 2 rfl rfl rfl rfl) (resV.cellA tbk hs62 1 rfl rfl rfl rfl) ?_
  have hv : vpStep p.dat b = vpPlain p.dat.Part b := by unfold vpStep; rw [if_neg k1, if_neg k2, if_pos k3]
  refine ⟨r0_53, _, r1_55, _, rfl, (St.drop ((hs62.fr L1_56).fr L0_54) (List.Sublist.append_left (List.sublist_append_left L1_56 _) L0_54)), ?_, ?_, ?_, ?_⟩
  · exact ho57
  · exact ho58
  · rw [hb1, hv]; first | exact hd0_59 | rfl
  · rw [hb1, hv]; first | exact hd1_60 | rfl
 have k3 : ¬ (p.dat.State = 0) := by show ¬ (p.State = 0); first | exact qh51 | omega | (simp at qh51; omega)
 refine WC.r1 hs49 [] rfl (WC.cD rfl (fun qh63 => ?_) (fun qh63 => ?_))
 ·have k4 : p.dat.State = 1 := by show p.State = 1; first | exact qh63 | omega | (simp at qh63; omega)
  refine WC.seq (fun K64 hK64 => WC.r1 hs49 [] rfl ?_)
  refine WC.cD rfl (fun qh65 => ?_) (fun qh65 => ?_)
  ·have k5 : b = 91 := by first | exact qh65 | omega | (simp at qh65; omega)
   refine WC.sr ?_
   refine WL.val rfl rfl rfl (Run.build rfl rfl rfl rfl (built_26_0 _)) ?_
   refine WL.val rfl rfl rfl (Run.build rfl rfl rfl rfl (built_33)) (WL.st tbk hs49 2 rfl rfl (fun _ hs66 => WL.st tbk hs66 1 rfl rfl (fun _ hs67 => WL.nil (WC.ret (tkR (ibR (tkR ?_)))))))
   clear hK64 hK50
   refine retV2 rfl (resV.cellA tbk hs67 2 rfl rfl rfl rfl) (resV.cellA tbk hs67 1 rfl rfl rfl rfl) ?_
   have hv : vpStep p.dat b = (⟨2, false, [], []⟩, act0) := by unfold vpStep; rw [if_neg k1, if_neg k2, if_neg k3, if_pos k4, if_pos k5]
   obtain ⟨L71, hs70, ho72⟩ := ownVpR.fl hs67 (OwnF.nil _ _) (OwnF.nil _ _)
   have hs73 := ((((hs70.fb b2).fb b4).fb b6).fb b47)
   refine ⟨⟨(2), false, ⟨none, 0, 0, []⟩, ⟨none, 0, 0, []⟩⟩, _, ⟨0, 0, false, ⟨none, 0, 0, []⟩⟩, _, rfl, (St.drop ((hs73.fr ([] : Hp)).fr L71) (List.Sublist.append_left (List.sublist_append_left ([] : Hp) _) L71)), ?_, ?_, ?_, ?_⟩
   · exact (by exact ho72)
   · exact (OwnF.nil _ _)
   · rw [hb1, hv]; first | exact rfl | rfl
   · rw [hb1, hv]; first | exact rfl | rfl
  have k5 : ¬ (b = 91) := by first | exact qh65 | omega | (simp at qh65; omega)
  refine WC.skip (hK64 _ _ (WC.seq (fun K75 hK75 => WC.sr (WL.r 3 hs49 [] rfl (WL.pA tbk 2 Acts.nil hs49 [] rfl rfl rfl rfl (fun g_ => trivial) (WL.nil ?_))))))
  refine WC.cq rfl (fun h76 qh76 => ?_) (fun h76 qh76 => ?_)
  ·have k6 : 48 ≤ b ∧ b ≤ 126 := by first | exact qh76 | omega | (simp at qh76; omega)
   refine WC.sr ?_
   refine WL.val rfl rfl rfl (Run.build rfl rfl rfl rfl (built_26)) (WL.r 1 hs49 [] rfl ?_)
   refine WL.val rfl rfl rfl (Run.build rfl rfl rfl rfl (built_33_0_1 _ _)) (WL.st tbk hs49 2 rfl rfl (fun _ hs77 => WL.st tbk hs77 1 rfl rfl (fun _ hs78 => WL.nil (WC.ret (tkR (ibR (tkR ?_)))))))
   clear hK75 hK50
   refine retV2 rfl (resV.cellA tbk hs78 2 rfl rfl rfl rfl) (resV.cellA tbk hs78 1 rfl rfl rfl rfl) ?_
   have hv : vpStep p.dat b = (vp0, ⟨3, b, false, []⟩) := by unfold vpStep; rw [if_neg k1, if_neg k2, if_neg k3, if_pos k4, if_neg k5, if_pos k6]
   obtain ⟨L82, hs81, ho83⟩ := ownVpR.fl hs78 (OwnF.nil _ _) (OwnF.nil _ _)
   have hs84 := ((((hs81.fb b2).fb b4).fb b6).fb b47)
   refine ⟨⟨0, false, ⟨none, 0, 0, []⟩, ⟨none, 0, 0, []⟩⟩, _, ⟨(3), b, false, ⟨none, 0, 0, []⟩⟩, _, rfl, (St.drop ((hs84.fr ([] : Hp)).fr L82) (List.Sublist.append_left (List.sublist_append_left ([] : Hp) _) L82)), ?_, ?_, ?_, ?_⟩
   · exact (by exact ho83)
   · exact (OwnF.nil _ _)
   · rw [hb1, hv]; first | exact rfl | rfl
   · rw [hb1, hv]; first | exact rfl | rfl
  have k6 : ¬ (48 ≤ b ∧ b ≤ 126) := by first | exact qh76 | omega | (simp at qh76; omega)
  refine WC.skip (hK75 _ _ (WC.sr ?_))
  refine WL.val rfl rfl rfl (Run.build rfl rfl rfl rfl (built_26)) ?_
  refine WL.val rfl rfl rfl (Run.build rfl rfl rfl rfl (built_33)) (WL.st tbk hs49 2 rfl rfl (fun _ hs86 => WL.st tbk hs86 1 rfl rfl (fun _ hs87 => WL.nil (WC.ret (ibR (tkR ?_))))))
  clear hK50
  refine retV2 rfl (resV.cellA tbk hs87 2 rfl rfl rfl rfl) (resV.cellA tbk hs87 1 rfl rfl rfl rfl) ?_
  have hv : vpStep p.dat b = (vp0, act0) := by unfold vpStep; rw [if_neg k1, if_neg k2, if_neg k3, if_pos k4, if_neg k5, if_neg k6]
  obtain ⟨L91, hs90, ho92⟩ := ownVpR.fl hs87 (OwnF.nil _ _) (OwnF.nil _ _)
  have hs93 := ((((hs90.fb b2).fb b4).fb b6).fb b47)
  refine ⟨⟨0, false, ⟨none, 0, 0, []⟩, ⟨none, 0, 0, []⟩⟩, _, ⟨0, 0, false, ⟨none, 0, 0, []⟩⟩, _, rfl, (St.drop ((hs93.fr ([] : Hp)).fr L91) (List.Sublist.append_left (List.sublist_append_left ([] : Hp) _) L91)), ?_, ?_, ?_, ?_⟩
  · exact (by exact ho92)
  · exact (OwnF.nil _ _)
  · rw [hb1, hv]; first | exact rfl | rfl
  · rw [hb1, hv]; first | exact rfl | rfl
 have k4 : ¬ (p.dat.State = 1) := by show ¬ (p.State = 1); first | exact qh63 | omega | (simp at qh63; omega)
 refine WC.r1 hs49 [] rfl (WC.cD rfl (fun qh95 => ?_) (fun qh95 => ?_))
 ·have k7 : p.dat.State = 2 := by show p.State = 2; first | exact qh95 | omega | (simp at qh95; omega)
  have hoa : areArgs p.dat.Args = true := by have h_ := hok; rw [vpOk_csi (.inl k7), Bool.and_eq_true] at h_; exact h_.1
  refine WC.sr (WL.r 2 hs49 [0] rfl (WL.cl Tryd.call60 rfl (k32_ r43 _ _ _ ho45 (hs49.ow L1_44) (St.nodupL (hs49.fr L1_44)) ?_ ?_ ?_) ?_))
  iterate 3 first | assumption | rfl | omega | (rw [hd46]; assumption) | (simp; omega)
  rintro _ whs96 ⟨r0_97, L0_98, r1_99, L1_100, rfl, hs96, ho101, ho102, hd0_103, hd1_104⟩
  replace hs96 := St.lend (hs49.fr L1_44) hs96
  refine ⟨_, rfl, ?_⟩
  replace hs96 := St.assoc hs96
  replace hs96 := St.back2 [_, _, _, _] hs96
  refine WL.r 2 hs96 [] rfl (WL.st tbk hs96 2 rfl rfl (fun _ hs105 => WL.st tbk hs105 1 rfl rfl (fun _ hs106 => WL.nil (WC.ret (ibR (tkR ?_))))))
  clear hK50
  refine retV2 rfl (resV.cellA tbk hs106 2 rfl rfl rfl rfl) (resV.cellA tbk hs106 1 rfl rfl rfl rfl) ?_
  have hv : vpStep p.dat b = vpCsi p.dat b := by unfold vpStep; rw [if_neg k1, if_neg k2, if_neg k3, if_neg k4, if_pos k7]
  refine ⟨r0_97, _, r1_99, _, rfl, (St.drop ((hs106.fr L1_100).fr L0_98) (List.Sublist.append_left (List.sublist_append_left L1_100 _) L0_98)), ?_, ?_, ?_, ?_⟩
  · exact ho101
  · exact ho102
  · rw [hb1, hv]; rw [hd46] at hd0_103; exact hd0_103
  · rw [hb1, hv]; rw [hd46] at hd1_104; exact hd1_104
 have k7 : ¬ (p.dat.State = 2) := by show ¬ (p.State = 2); first | exact qh95 | omega | (simp at qh95; omega)
 refine WC.skip (hK50 _ _ (WC.seq (fun K107 hK107 => WC.sr (WL.r 3 hs49 [] rfl (WL.pA tbk 2 Acts.nil hs49 [] rfl rfl rfl rfl (fun g_ => trivial) (WL.nil ?_))))))
 refine WC.cq rfl (fun h108 qh108 => ?_) (fun h108 qh108 => ?_)
 ·have k8 : 64 ≤ b ∧ b ≤ 126 := by first | exact qh108 | omega | (simp at qh108; omega)
  refine WC.sr ?_
  refine WL.val rfl rfl rfl (Run.build rfl rfl rfl rfl (built_26)) ?_
  refine WL.val rfl rfl rfl (Run.build rfl rfl rfl rfl (built_33)) (WL.st tbk hs49 2 rfl rfl (fun _ hs109 => WL.st tbk hs109 1 rfl rfl (fun _ hs110 => WL.nil (WC.ret (tkR ?_)))))
  clear hK107
  refine retV2 rfl (resV.cellA tbk hs110 2 rfl rfl rfl rfl) (resV.cellA tbk hs110 1 rfl rfl rfl rfl) ?_
  have hv : vpStep p.dat b = (vp0, act0) := by unfold vpStep; rw [if_neg k1, if_neg k2, if_neg k3, if_neg k4, if_neg k7, if_pos k8]
  obtain ⟨L114, hs113, ho115⟩ := ownVpR.fl hs110 (OwnF.nil _ _) (OwnF.nil _ _)
  have hs116 := ((((hs113.fb b2).fb b4).fb b6).fb b47)
  refine ⟨⟨0, false, ⟨none, 0, 0, []⟩, ⟨none, 0, 0, []⟩⟩, _, ⟨0, 0, false, ⟨none, 0, 0, []⟩⟩, _, rfl, (St.drop ((hs116.fr ([] : Hp)).fr L114) (List.Sublist.append_left (List.sublist_append_left ([] : Hp) _) L114)), ?_, ?_, ?_, ?_⟩
  · exact (by exact ho115)
  · exact (OwnF.nil _ _)
  · rw [hb1, hv]; first | exact rfl | rfl
  · rw [hb1, hv]; first | exact rfl | rfl
 have k8 : ¬ (64 ≤ b ∧ b ≤ 126) := by first | exact qh108 | omega | (simp at qh108; omega)
 refine WC.skip (hK107 _ _ (WC.sr (WL.r 1 hs49 [0] rfl ?_)))
 refine WL.val rfl rfl rfl (Run.build rfl rfl rfl rfl (built_33)) (WL.st tbk hs49 2 rfl rfl (fun _ hs118 => WL.st tbk hs118 1 rfl rfl (fun _ hs119 => WL.nil (WC.ret (retV2 rfl (resV.cellA tbk hs119 2 rfl rfl rfl rfl) (resV.cellA tbk hs119 1 rfl rfl rfl rfl) ?_)))))
 have hv : vpStep p.dat b = (p.dat, act0) := by unfold vpStep; rw [if_neg k1, if_neg k2, if_neg k3, if_neg k4, if_neg k7, if_neg k8]
 refine ⟨r43, _, ⟨0, 0, false, ⟨none, 0, 0, []⟩⟩, _, rfl, (St.drop ((hs119.fr ([] : Hp)).fr L1_44) (List.Sublist.append_left (List.sublist_append_left ([] : Hp) _) L1_44)), ?_, ?_, ?_, ?_⟩
 · exact ho45
 · exact (OwnF.nil _ _)
 · rw [hb1, hv]; exact hd46
 · rw [hb1, hv]; first | done | rfl
theorem inf33 : Tryd.prog.info? 33 = some Tryd.t33 := by kernel_rfl
theorem k34_ (p : VpR) (A_b : Option Addr) (n_b c_b : Nat) (b : List UInt8) (w : World) (f_p : okVpR 549755813888 w p) (f_b : SlF encB w A_b n_b b) (hsm : smVp 1048576 p.dat) (hok : vpOk p.dat = true) (hn : n_b ≤ 33554432) :
    Calls Tryd.prog 17 #[.agg #[i64 p.State, .bool p.Mark, .slice p.Args.A p.Args.n p.Args.c, .slice p.Part.A p.Part.n p.Part.c], .slice A_b n_b c_b] w fun e w' => ∃ r0 L0 A1 c1 x1 L1, e = .returned (.tuple #[.agg #[i64 r0.State, .bool r0.Mark, .slice r0.Args.A r0.Args.n r0.Args.c, .slice r0.Part.A r0.Part.n r0.Part.c], .slice A1 x1.length c1]) ∧ St w [] (L0 ++ L1) w' ∧ ownVpR r0 L0 ∧ OwnN encActR ownActR 33 (.slice A1 x1.length c1) x1 L1 ∧ r0.dat = (vpParse p.dat b).1 ∧ x1.map ActR.dat = (vpParse p.dat b).2 := by
 have nb_p_Args := f_p.Args_n
 have nl_p_Args := f_p.Args.len
 have nb_p_Part := f_p.Part_n
 have nl_p_Part := f_p.Part.len
 have hsB : smVp 549755813888 p.dat := ⟨Nat.le_trans hsm.1 (by decide), Nat.le_trans hsm.2 (by decide)⟩
 have hsa : p.Args.xs.length ≤ 1048576 := hsm.1
 have hsp : p.Part.xs.length ≤ 1048576 := hsm.2
 have hbl := f_b.len
 refine enter 39 Tryd.func17 rfl Tryd.ntmps17 rfl rfl ?_
 have hs1 := St.init w
 refine WC.sr (WL.bx hs1 rfl (fun b2 _ hs3 => WL.al hs3 Tryd.zeroValue26 rfl rfl (fun b4 _ hs5 => WL.r 1 hs5 [] rfl (WL.nil (WC.sr (WL.r 1 hs5 [1] rfl ?_))))))
 refine WL.cl Tryd.call35 rfl (k24_ p _ (okVpR.st0 f_p hs5) ?_) ?_
 · first | assumption | rfl | omega | exact ⟨by omega, by omega⟩ | (simp; omega)
 rintro _ whs6 ⟨r7, L1_8, rfl, hs6, ho9, hd10⟩
 replace hs6 := hs5.callF hs6
 refine ⟨_, rfl, ?_⟩
 replace hs6 := St.back [_, _] hs6
 skip
 refine WL.buildF (F := encActR) hs6 ([]) Tryd.runUnderlying27 Tryd.sizeOf33 Tryd.zeroValue33 rfl rfl rfl rfl rfl rfl rfl rfl rfl rfl rfl rfl (fun A14 c15 L11 whs12 hs12 ho13 => ?_)
 replace hs12 := St.back [_, _] hs12
 obtain ⟨L16, hs17, ho18⟩ := OwnN.fresh (own := ownActR) (hs12.fr L11) ho13 Bag.nil
 have hs19 := ((hs17.fb b2).fb b4)
 refine WL.al hs19 Tryd.zeroValue26 rfl rfl (fun b20 _ hs21 => WL.st tbk hs21 0 rfl rfl (fun _ hs22 => WL.r 1 hs22 [] rfl (WL.nil (WC.seq (fun K23 hK23 => WC.r1 hs22 [] rfl (WC.block ?_))))))
 have hM32 := (St.grp2 (L1 := L1_8) (L2 := L16) [_] (((((hs22.fb b2).fb b4).fr L16).fr L1_8).fb b20))
 refine WC.lV [4, 5, 6, 15, 16] rfl hM32 (fun k_ (a_ : Hp) f => ∃ (i : Nat) (acts : List ActR) (r : VpR) (L26 : Hp) (A28 : Option Addr) (c29 : Nat) (L30 : Hp), k_ = n_b - i ∧ a_ = [(b20, .cells (List.toArray [i64 r.State, .bool r.Mark, .slice r.Args.A r.Args.n r.Args.c, .slice r.Part.A r.Part.n r.Part.c]) 26 (0, 0))] ++ (L26 ++ L30) ∧ (i ≤ n_b) ∧ (r.dat = (vpParse p.dat (b.take i)).1) ∧ (acts.map ActR.dat = (vpParse p.dat (b.take i)).2) ∧ (acts.length ≤ i) ∧ ownVpR r L26 ∧ OwnN encActR ownActR 33 (.slice A28 (acts).length c29) (acts) L30 ∧ Sub [(7, .slice A28 (acts).length c29), (17, .int .i64 i)] f) (((fun (i : Nat) (acts : List ActR) => n_b - i) (0) ([]))) ?_ ?_
 ·refine ⟨0, [], r7, L1_8, A14, c15, L16, rfl, rfl, ?_, ?_, ?_, ?_, ho9, ho18, ⟨rfl, rfl, trivial⟩⟩
  · exact Nat.zero_le _
  · exact hd10
  · rfl
  · exact Nat.le_refl _
 rintro _ _ f w ⟨i, acts, r, L26, A28, c29, L30, rfl, rfl, p0, p1, p2, p3, ho27, ho31, hG⟩ hF hs33
 refine WC.sub _ (hG.app hF) ?_
 clear hG hF
 replace hs33 := St.ungrp2 [_] hs33
 have hs34 := (((hs33.fb b2).fb b4).fb b20)
 have hvr : vpOk r.dat = true := by rw [p1]; exact vpParse_ok hok
 have hlr := vpOk_len hvr
 have hsmr : smVp 1048576 r.dat := ⟨by omega, by omega⟩
 have hsmB : smVp 549755813888 r.dat := ⟨by omega, by omega⟩
 have hxb := (gat encB b i).toNat_lt
 refine WC.r1 hs34 [] rfl (WC.seq (fun K35 hK35 => ?_))
 refine WC.cD rfl (fun qh36 => ?_) (fun qh36 => ?_)
 ·refine WC.skip (hK35 _ _ (WC.seq (fun K37 hK37 => WC.block (WC.sr ?_))))
  refine WL.val rfl rfl rfl (Run.idxN Tryd.runUnderlying22 Tryd.sizeOf5 rfl rfl rfl ?_ ?_ ?_) ?_
  · exact SlF.some_ (SlF.st0 f_b hs34)
  · omega
  · omega
  refine WL.val rfl rfl rfl (Run.load Tryd.isAgg5 rfl rfl (SlF.one1 (SlF.st0 f_b hs34) ?_ rfl)) ?_
  · omega
  refine WL.r 1 hs34 [] rfl (WL.nil (WC.sr (WL.r 3 hs34 [0] rfl (WL.cl Tryd.call36 rfl (k31_ r _ _ (ownVpR.ok (B := 549755813888) ho27 (hs34.ow L26) (by assumption)) ?_ ?_ ?_) ?_))))
  iterate 3 first | assumption | rfl | omega | exact ⟨by omega, by omega⟩ | (simp; omega)
  rintro _ whs38 ⟨r0_39, L0_40, r1_41, L1_42, rfl, hs38, ho43, ho44, hd0_45, hd1_46⟩
  replace hs38 := hs34.callF hs38
  refine ⟨_, rfl, ?_⟩
  replace hs38 := St.assoc hs38
  replace hs38 := St.back2 [_, _, _] hs38
  refine WL.r 3 hs38 [] rfl (WL.al hs38 Tryd.zeroValue26 rfl rfl (fun b47 _ hs48 => WL.al hs48 Tryd.zeroValue33 rfl rfl (fun b49 _ hs50 => WL.st tbk hs50 1 rfl rfl (fun _ hs51 => WL.st tbk hs51 0 rfl rfl (fun _ hs52 => WL.nil (WC.sr (WL.r 1 hs52 [1] rfl ?_)))))))
  refine WL.st tbk hs52 2 rfl rfl (fun _ hs53 => WL.nil (WC.r1 hs53 [0] rfl ?_))
  refine WC.cN rfl (fun qh54 => ?_) (fun qh54 => ?_)
  ·have hk0 := hd0_45
   have hk1 := hd1_46
   have hkk : r1_41.Kind = (vpStep r.dat (gat encB b i).toNat).2.Kind := congrArg ActD.Kind hd1_46
   have hk : ¬ (vpStep r.dat (gat encB b i).toNat).2.Kind = 0 := by omega
   refine WC.region (WL.r 2 hs53 [0] rfl (WL.buildSlice hs53 Tryd.runUnderlying27 Tryd.sizeOf33 Tryd.zeroValue33 rfl rfl rfl rfl rfl rfl rfl rfl rfl rfl (fun b55 whs56 hs56 => ?_)))
   obtain ⟨L57, L58, hs61, ho59, ho60⟩ := OwnN.open_ (hs56.fr L30) ho31
   have hs62 := ((((((hs61.fb b2).fb b4).fb b20).fb b47).fb b49).fb b55)
   refine WL.appendG (hs62.fr L57) ho59 (srcF (F := encActR) (ys := [(r1_41 : ActR)]) Tryd.underlying27 rfl rfl (hs62.own _ (nthL_mem (i := 0) rfl)).1) Tryd.underlying27 inf33 rfl rfl rfl rfl rfl rfl rfl rfl rfl rfl ?_ (fun A66 c67 L63 whs64 hs64 ho65 => ?_)
   · (try simp only [List.length_append, List.length_singleton]); omega
   replace hs64 := St.back [_, _, _, _, _, _] hs64
   obtain ⟨L68, hs69, hb70⟩ := Bag.put (x := (r1_41 : ActR)) ((hs64.fr L1_42).fr L58) ho60 ho44
   have hs71 := ((((((hs69.fb b2).fb b4).fb b20).fb b47).fb b49).fb b55)
   obtain ⟨L73, hs72, ho74⟩ := OwnN.fold ((hs71.fr L68).fr L63) ho65 hb70
   have hs75 := ((((((hs72.fb b2).fb b4).fb b20).fb b47).fb b49).fb b55)
   refine WL.r 1 hs75 [] rfl (WL.nil (hK37 _ _ (WC.region (WL.r 2 hs75 [] rfl (WL.nil (tkN ?_))))))
   have hst := vpParse_take (v := p.dat) (l := b) (i := i) (by omega)
   replace hs75 := (hs75.d1.d1.d1.rm L26)
   have hF76 := (St.grp2 (L1 := L0_40) (L2 := L73) [_] (((((hs75.fb b2).fb b4).fr L73).fr L0_40).fb b20))
   refine ⟨sbF rfl, _, hF76, _, ?_, i + 1, ((acts) ++ [(r1_41 : ActR)]), r0_39, L0_40, A66, c67, L73, rfl, rfl, ?_, ?_, ?_, ?_, ho43, ho74, ⟨rfl, rfl, trivial⟩⟩
   · omega
   · omega
   · rw [hst, ← p1]; exact hk0
   · rw [hst, ← p2, ← p1, if_neg hk, List.map_append]; congr 1; show [_] = [_]; rw [← hk1]
   · (try simp only [List.length_append, List.length_singleton]); omega
  have hk0 := hd0_45
  have hk1 := hd1_46
  have hkk : r1_41.Kind = (vpStep r.dat (gat encB b i).toNat).2.Kind := congrArg ActD.Kind hd1_46
  have hk : (vpStep r.dat (gat encB b i).toNat).2.Kind = 0 := by omega
  refine WC.skip (hK37 _ _ (WC.region (WL.r 2 hs53 [] rfl (WL.nil (tkN ?_)))))
  have hst := vpParse_take (v := p.dat) (l := b) (i := i) (by omega)
  replace hs53 := ((hs53.d1.d1.rm L1_42).rm L26)
  have hF77 := (St.grp2 (L1 := L0_40) (L2 := L30) [_] (((((hs53.fb b2).fb b4).fr L30).fr L0_40).fb b20))
  refine ⟨sbF rfl, _, hF77, _, ?_, i + 1, acts, r0_39, L0_40, A28, c29, L30, rfl, rfl, ?_, ?_, ?_, ?_, ho43, ho31, ⟨rfl, rfl, trivial⟩⟩
  · omega
  · omega
  · rw [hst, ← p1]; exact hk0
  · rw [hst, ← p2, ← p1, if_pos hk, List.append_nil]
  · (try simp only [List.length_append, List.length_singleton]); omega
 refine WC.exit (hK23 _ _ (WC.sr (WL.r 2 hs34 [0] rfl (WL.st tbk hs34 1 rfl rfl (fun _ hs78 => WL.r 1 hs78 [] rfl (WL.nil (WC.ret ?_)))))))
 refine retV2 rfl (resV.cellA tbk hs78 1 rfl rfl rfl rfl) (resV.tmp rfl) ?_
 have hi_ : i = n_b := by omega
 have ht : b.take i = b := List.take_of_length_le (by omega)
 rw [ht] at p1 p2
 refine ⟨r, _, _, _, _, _, rfl, (St.drop ((hs78.fr L30).fr L26) (List.Sublist.append_left (List.sublist_append_left L30 _) L26)), ?_, ?_, ?_, ?_⟩
 · exact ho27
 · exact ho31
 · rw [p1]
 · rw [p2]
theorem k35_ (p : VpR) (A_b : Option Addr) (n_b c_b : Nat) (b : List UInt8) (w : World) (f_p : okVpR 549755813888 w p) (f_b : SlF encB w A_b n_b b) (hsm : smVp 1048576 p.dat) (hn : n_b ≤ 33554432) :
    Calls Tryd.prog 20 #[.agg #[i64 p.State, .bool p.Mark, .slice p.Args.A p.Args.n p.Args.c, .slice p.Part.A p.Part.n p.Part.c], .slice A_b n_b c_b] w fun e w' => ∃ r0 L0 A1 c1 x1 L1, e = .returned (.tuple #[.agg #[i64 r0.State, .bool r0.Mark, .slice r0.Args.A r0.Args.n r0.Args.c, .slice r0.Part.A r0.Part.n r0.Part.c], .slice A1 x1.length c1]) ∧ St w [] (L0 ++ L1) w' ∧ ownVpR r0 L0 ∧ OwnN encActR ownActR 33 (.slice A1 x1.length c1) x1 L1 ∧ r0.dat = (vpBytes p.dat b).1 ∧ x1.map ActR.dat = (vpBytes p.dat b).2 := by
 have nb_p_Args := f_p.Args_n
 have nl_p_Args := f_p.Args.len
 have nb_p_Part := f_p.Part_n
 have nl_p_Part := f_p.Part.len
 have hsB : smVp 549755813888 p.dat := ⟨Nat.le_trans hsm.1 (by decide), Nat.le_trans hsm.2 (by decide)⟩
 have hsa : p.Args.xs.length ≤ 1048576 := hsm.1
 have hsp : p.Part.xs.length ≤ 1048576 := hsm.2
 have hbl := f_b.len
 refine enter 43 Tryd.func20 rfl Tryd.ntmps20 rfl rfl ?_
 have hs1 := St.init w
 refine WC.sr (WL.bx hs1 rfl (fun b2 _ hs3 => WL.al hs3 Tryd.zeroValue26 rfl rfl (fun b4 _ hs5 => WL.r 1 hs5 [] rfl (WL.nil (WC.seq (fun K6 hK6 => WC.sr (WL.r 1 hs5 [1] rfl ?_)))))))
 refine WL.cl Tryd.call41 rfl (k23_ p _ (okVpR.st0 f_p hs5)) ?_
 rintro _ whs7 ⟨rfl, hs7⟩
 replace hs7 := hs5.call0 hs7
 refine ⟨_, rfl, WL.r 1 hs7 [] rfl (WL.nil (WC.cq rfl (fun h8 qh8 => ?_) (fun h8 qh8 => ?_)))⟩
 ·refine WC.sr ?_
  refine WL.val rfl rfl rfl (Run.build rfl rfl rfl rfl (built_26)) (WL.st tbk hs7 0 rfl rfl (fun _ hs9 => WL.r 1 hs9 [] rfl (WL.nil (WC.ret (tkR ?_)))))
  clear hK6
  refine retV2 rfl (resV.cellA tbk hs9 0 rfl rfl rfl rfl) (resV.tmp rfl) ?_
  have hvb : vpBytes p.dat b = (vp0, []) := by unfold vpBytes; rw [if_neg (by simpa using h8)]
  obtain ⟨L13, hs12, ho14⟩ := ownVpR.fl hs9 (OwnF.nil _ _) (OwnF.nil _ _)
  have hs15 := ((hs12.fb b2).fb b4)
  refine ⟨⟨0, false, ⟨none, 0, 0, []⟩, ⟨none, 0, 0, []⟩⟩, _, none, 0, [], _, rfl, (St.drop ((hs15.fr ([] : Hp)).fr L13) (List.Sublist.append_left (List.sublist_append_left ([] : Hp) _) L13)), ?_, ?_, ?_, ?_⟩
  · exact (by exact ho14)
  · exact (OwnN.nil _ _ _)
  · rw [hvb]; rfl
  · rw [hvb]; rfl
 have hok : vpOk p.dat = true := by simpa using h8
 have hvb : vpBytes p.dat b = vpParse p.dat b := by unfold vpBytes; rw [if_pos hok]
 refine WC.skip (hK6 _ _ (WC.sr (WL.r 1 hs7 [1] rfl ?_)))
 refine WL.cl Tryd.call42 rfl (k25_ p _ (okVpR.st0 f_p hs7) ?_) ?_
 · first | assumption | rfl | omega | exact ⟨by omega, by omega⟩ | (simp; omega)
 rintro _ whs17 ⟨r18, L1_19, rfl, hs17, ho20, hd21⟩
 replace hs17 := hs7.callF hs17
 refine ⟨_, rfl, ?_⟩
 replace hs17 := St.back [_, _] hs17
 skip
 refine WL.al hs17 Tryd.zeroValue26 rfl rfl (fun b22 _ hs23 => WL.st tbk hs23 0 rfl rfl (fun _ hs24 => WL.nil (WC.sr (WL.buildF (F := encActR) hs24 ([]) Tryd.runUnderlying27 Tryd.sizeOf33 Tryd.zeroValue33 rfl rfl rfl rfl rfl rfl rfl rfl rfl rfl rfl rfl (fun A28 c29 L25 whs26 hs26 ho27 => ?_)))))
 replace hs26 := St.back [_, _, _] hs26
 obtain ⟨L30, hs31, ho32⟩ := OwnN.fresh (own := ownActR) (hs26.fr L25) ho27 Bag.nil
 have hs33 := (((hs31.fb b2).fb b4).fb b22)
 refine WL.r 1 hs33 [] rfl (WL.nil (WC.seq (fun K34 hK34 => WC.r1 hs33 [] rfl (WC.block ?_))))
 have hM43 := (St.grp2 (L1 := L1_19) (L2 := L30) [_] (((((hs33.fb b2).fb b4).fr L30).fr L1_19).fb b22))
 refine WC.lV [4, 5, 6, 14, 19, 20] rfl hM43 (fun k_ (a_ : Hp) f => ∃ (i : Nat) (acts : List ActR) (r : VpR) (L37 : Hp) (A39 : Option Addr) (c40 : Nat) (L41 : Hp), k_ = n_b - i ∧ a_ = [(b22, .cells (List.toArray [i64 r.State, .bool r.Mark, .slice r.Args.A r.Args.n r.Args.c, .slice r.Part.A r.Part.n r.Part.c]) 26 (0, 0))] ++ (L37 ++ L41) ∧ (i ≤ n_b) ∧ (r.dat = (vpParse p.dat (b.take i)).1) ∧ (acts.map ActR.dat = (vpParse p.dat (b.take i)).2) ∧ (acts.length ≤ i) ∧ ownVpR r L37 ∧ OwnN encActR ownActR 33 (.slice A39 (acts).length c40) (acts) L41 ∧ Sub [(7, .slice A39 (acts).length c40), (21, .int .i64 i)] f) (((fun (i : Nat) (acts : List ActR) => n_b - i) (0) ([]))) ?_ ?_
 ·refine ⟨0, [], r18, L1_19, A28, c29, L30, rfl, rfl, ?_, ?_, ?_, ?_, ho20, ho32, ⟨rfl, rfl, trivial⟩⟩
  · exact Nat.zero_le _
  · exact hd21
  · rfl
  · exact Nat.le_refl _
 rintro _ _ f w ⟨i, acts, r, L37, A39, c40, L41, rfl, rfl, p0, p1, p2, p3, ho38, ho42, hG⟩ hF hs44
 refine WC.sub _ (hG.app hF) ?_
 clear hG hF
 replace hs44 := St.ungrp2 [_] hs44
 have hs45 := (((hs44.fb b2).fb b4).fb b22)
 have hvr : vpOk r.dat = true := by rw [p1]; exact vpParse_ok hok
 have hlr := vpOk_len hvr
 have hsmr : smVp 1048576 r.dat := ⟨by omega, by omega⟩
 have hsmB : smVp 549755813888 r.dat := ⟨by omega, by omega⟩
 have hxb := (gat encB b i).toNat_lt
 refine WC.r1 hs45 [] rfl (WC.seq (fun K46 hK46 => ?_))
 refine WC.cq rfl (fun h47 qh47 => ?_) (fun h47 qh47 => ?_)
 ·refine WC.skip (hK46 _ _ (WC.seq (fun K48 hK48 => WC.block (WC.sr ?_))))
  refine WL.val rfl rfl rfl (Run.idxN Tryd.runUnderlying22 Tryd.sizeOf5 rfl rfl rfl ?_ ?_ ?_) ?_
  · exact SlF.some_ (SlF.st0 f_b hs45)
  · omega
  · omega
  refine WL.val rfl rfl rfl (Run.load Tryd.isAgg5 rfl rfl (SlF.one1 (SlF.st0 f_b hs45) ?_ rfl)) ?_
  · omega
  refine WL.r 1 hs45 [] rfl (WL.nil (WC.sr (WL.r 3 hs45 [0] rfl (WL.cl Tryd.call43 rfl (k33_ r _ _ (ownVpR.ok (B := 549755813888) ho38 (hs45.ow L37) (by assumption)) ?_) ?_))))
  · first | assumption | rfl | omega | exact ⟨by omega, by omega⟩ | (simp; omega)
  rintro _ whs49 ⟨r0_50, L0_51, r1_52, L1_53, rfl, hs49, ho54, ho55, hd0_56, hd1_57⟩
  replace hs49 := hs45.callF hs49
  refine ⟨_, rfl, ?_⟩
  replace hs49 := St.assoc hs49
  replace hs49 := St.back2 [_, _, _] hs49
  refine WL.r 3 hs49 [] rfl (WL.al hs49 Tryd.zeroValue26 rfl rfl (fun b58 _ hs59 => WL.al hs59 Tryd.zeroValue33 rfl rfl (fun b60 _ hs61 => WL.st tbk hs61 1 rfl rfl (fun _ hs62 => WL.st tbk hs62 0 rfl rfl (fun _ hs63 => WL.nil (WC.sr (WL.r 1 hs63 [1] rfl ?_)))))))
  refine WL.st tbk hs63 2 rfl rfl (fun _ hs64 => WL.nil (WC.r1 hs64 [0] rfl ?_))
  refine WC.cq rfl (fun h65 qh65 => ?_) (fun h65 qh65 => ?_)
  ·have hb1 : vpByte r.dat (gat encB b i).toNat = vpStep r.dat (gat encB b i).toNat := by unfold vpByte; rw [if_pos ⟨hvr, by omega, by omega⟩]
   rw [hb1] at hd0_56 hd1_57
   have hk0 := hd0_56
   have hk1 := hd1_57
   have hkk : r1_52.Kind = (vpStep r.dat (gat encB b i).toNat).2.Kind := congrArg ActD.Kind hd1_57
   have hk : ¬ (vpStep r.dat (gat encB b i).toNat).2.Kind = 0 := by omega
   refine WC.region (WL.r 2 hs64 [0] rfl (WL.buildSlice hs64 Tryd.runUnderlying27 Tryd.sizeOf33 Tryd.zeroValue33 rfl rfl rfl rfl rfl rfl rfl rfl rfl rfl (fun b66 whs67 hs67 => ?_)))
   obtain ⟨L68, L69, hs72, ho70, ho71⟩ := OwnN.open_ (hs67.fr L41) ho42
   have hs73 := ((((((hs72.fb b2).fb b4).fb b22).fb b58).fb b60).fb b66)
   refine WL.appendG (hs73.fr L68) ho70 (srcF (F := encActR) (ys := [(r1_52 : ActR)]) Tryd.underlying27 rfl rfl (hs73.own _ (nthL_mem (i := 0) rfl)).1) Tryd.underlying27 inf33 rfl rfl rfl rfl rfl rfl rfl rfl rfl rfl ?_ (fun A77 c78 L74 whs75 hs75 ho76 => ?_)
   · (try simp only [List.length_append, List.length_singleton]); omega
   replace hs75 := St.back [_, _, _, _, _, _] hs75
   obtain ⟨L79, hs80, hb81⟩ := Bag.put (x := (r1_52 : ActR)) ((hs75.fr L1_53).fr L69) ho71 ho55
   have hs82 := ((((((hs80.fb b2).fb b4).fb b22).fb b58).fb b60).fb b66)
   obtain ⟨L84, hs83, ho85⟩ := OwnN.fold ((hs82.fr L79).fr L74) ho76 hb81
   have hs86 := ((((((hs83.fb b2).fb b4).fb b22).fb b58).fb b60).fb b66)
   refine WL.r 1 hs86 [] rfl (WL.nil (hK48 _ _ (WC.region (WL.r 2 hs86 [] rfl (WL.nil (tkN ?_))))))
   have hst := vpParse_take (v := p.dat) (l := b) (i := i) (by omega)
   replace hs86 := (hs86.d1.d1.d1.rm L37)
   have hF87 := (St.grp2 (L1 := L0_51) (L2 := L84) [_] (((((hs86.fb b2).fb b4).fr L84).fr L0_51).fb b22))
   refine ⟨sbF rfl, _, hF87, _, ?_, i + 1, ((acts) ++ [(r1_52 : ActR)]), r0_50, L0_51, A77, c78, L84, rfl, rfl, ?_, ?_, ?_, ?_, ho54, ho85, ⟨rfl, rfl, trivial⟩⟩
   · omega
   · omega
   · rw [hst, ← p1]; exact hk0
   · rw [hst, ← p2, ← p1, if_neg hk, List.map_append]; congr 1; show [_] = [_]; rw [← hk1]
   · (try simp only [List.length_append, List.length_singleton]); omega
  have hb1 : vpByte r.dat (gat encB b i).toNat = vpStep r.dat (gat encB b i).toNat := by unfold vpByte; rw [if_pos ⟨hvr, by omega, by omega⟩]
  rw [hb1] at hd0_56 hd1_57
  have hk0 := hd0_56
  have hk1 := hd1_57
  have hkk : r1_52.Kind = (vpStep r.dat (gat encB b i).toNat).2.Kind := congrArg ActD.Kind hd1_57
  have hk : (vpStep r.dat (gat encB b i).toNat).2.Kind = 0 := by omega
  refine WC.skip (hK48 _ _ (WC.region (WL.r 2 hs64 [] rfl (WL.nil (tkN ?_)))))
  have hst := vpParse_take (v := p.dat) (l := b) (i := i) (by omega)
  replace hs64 := ((hs64.d1.d1.rm L1_53).rm L37)
  have hF88 := (St.grp2 (L1 := L0_51) (L2 := L41) [_] (((((hs64.fb b2).fb b4).fr L41).fr L0_51).fb b22))
  refine ⟨sbF rfl, _, hF88, _, ?_, i + 1, acts, r0_50, L0_51, A39, c40, L41, rfl, rfl, ?_, ?_, ?_, ?_, ho54, ho42, ⟨rfl, rfl, trivial⟩⟩
  · omega
  · omega
  · rw [hst, ← p1]; exact hk0
  · rw [hst, ← p2, ← p1, if_pos hk, List.append_nil]
  · (try simp only [List.length_append, List.length_singleton]); omega
 refine WC.exit (hK34 _ _ (WC.sr (WL.r 2 hs45 [0] rfl (WL.st tbk hs45 1 rfl rfl (fun _ hs89 => WL.r 1 hs89 [] rfl (WL.nil (WC.ret ?_)))))))
 refine retV2 rfl (resV.cellA tbk hs89 1 rfl rfl rfl rfl) (resV.tmp rfl) ?_
 have hi_ : i = n_b := by omega
 have ht : b.take i = b := List.take_of_length_le (by omega)
 rw [ht] at p1 p2
 refine ⟨r, _, _, _, _, _, rfl, (St.drop ((hs89.fr L41).fr L37) (List.Sublist.append_left (List.sublist_append_left L41 _) L37)), ?_, ?_, ?_, ?_⟩
 · exact ho38
 · exact ho42
 · rw [hvb, p1]
 · rw [hvb, p2]
set_option maxHeartbeats 2000000 in
theorem k36_ (b_c : Nat) (A_s : Option Addr) (n_s c_s : Nat) (s : List UInt8) (i h : Int) (most : Int) (w : World) (hc : w.heap[b_c]? = some (Obj.cells (List.toArray [.slice A_s n_s c_s, i64 (i), i64 (h)]) 45 (0, 0))) (f_s : SlF encB w A_s n_s s) (s_s : 0 < n_s → (adr A_s).block ∉ [b_c]) (hn : n_s ≤ 1099511627776) (hi : 0 ≤ i ∧ i ≤ n_s) (hm : 0 ≤ most ∧ most ≤ 12) :
    Calls Tryd.prog 16 #[.pointer (some ⟨b_c, 0, none⟩), i64 most] w fun e w' => ∃ (A : Option Addr) (c : Nat) (zs : List UInt8) (L1 : Hp) (i' h' : Int), e = .returned (.slice A zs.length c) ∧ St w [b_c] ((b_c, Obj.cells (List.toArray [.slice A_s n_s c_s, i64 (i'), i64 (h')]) 45 (0, 0)) :: L1) w' ∧ OwnF encB 5 (.slice A zs.length c) zs L1 ∧ zs.length ≤ 260 ∧ (0 ≤ i' ∧ i' ≤ n_s) := by
 have hl := f_s.len
 refine enter 61 Tryd.func16 rfl Tryd.ntmps16 rfl rfl ?_
 have hs1 := St.take1 w b_c _ hc
 refine WC.r1 hs1 [] rfl (WC.sr (WL.buildF (F := encB) hs1 ([]) Tryd.runUnderlying22 Tryd.sizeOf5 Tryd.zeroValue5 rfl rfl rfl rfl rfl rfl rfl rfl rfl rfl rfl rfl (fun A5 c6 L2 whs3 hs3 ho4 => ?_)))
 replace hs3 := St.back [_] hs3
 refine WL.r 1 hs3 [] rfl (WL.nil (WC.seq (fun K7 hK7 => WC.sr (WL.r 3 hs3 [] rfl ?_))))
 have hF8 : St _ _ ([(b_c, _)] ++ _) _ := hs3
 refine WL.call rfl rfl rfl (Run.call Tryd.call21 rfl rfl rfl) (k3_ _ _ _ _ _ _ _ _ _ (hF8.own _ List.mem_cons_self).1 (SlF.st f_s hs3 s_s) (St.sepT hF8 f_s s_s) ?_ ?_) ?_
 · omega
 · omega
 rintro _ whs14 ⟨r9, i10, h11, rfl, hs14, hr12, hi13⟩
 replace hs14 := St.lend1 hF8 hs14
 try have hbhr12 := hr12.2 (by omega)
 refine ⟨_, rfl, WL.r 1 hs14 [] rfl (WL.nil (WC.block ?_))⟩
 have hM19 := (St.grp1 (L1 := L2) [_] ((hs14.fr L2).fb b_c))
 refine WC.lV [0, 4] rfl hM19 (fun k_ (a_ : Hp) f => ∃ (n i1 h1 : Int) (zs : List UInt8) (A15 : Option Addr) (c16 : Nat) (L17 : Hp), k_ = n.toNat ∧ a_ = [(b_c, .cells (List.toArray [.slice A_s n_s c_s, i64 i1, i64 h1]) 45 (0, 0))] ++ L17 ∧ (zs.length + 20 * n.toNat ≤ 240) ∧ (0 ≤ n ∧ n ≤ 12) ∧ (0 ≤ i1 ∧ i1 ≤ n_s) ∧ OwnF encB 5 (.slice A15 (zs).length c16) (zs) L17 ∧ Sub [(5, .slice A15 (zs).length c16), (6, .int .i64 n)] f) (((fun (n i1 h1 : Int) (zs : List UInt8) => n.toNat) (r9) (i10) (h11) ([]))) ?_ ?_
 ·refine ⟨r9, i10, h11, [], A5, c6, L2, rfl, rfl, ?_, ?_, ?_, ho4, ⟨rfl, rfl, trivial⟩⟩
  · show 0 + _ ≤ _; omega
  · omega
  · omega
 rintro _ _ f w ⟨n, i1, h1, zs, A15, c16, L17, rfl, rfl, p0, p1, p2, ho18, hG⟩ hF hs20
 refine WC.sub _ (hG.app hF) ?_
 clear hG hF
 replace hs20 := St.ungrp1 [_] hs20
 refine WC.seq (fun K21 hK21 => WC.r1 hs20 [] rfl ?_)
 refine WC.cD rfl (fun qh22 => ?_) (fun qh22 => ?_)
 ·refine WC.skip (hK21 _ _ (WC.seq (fun K23 hK23 => WC.block (WC.sr (WL.r 1 hs20 [] rfl ?_)))))
  have hF24 : St _ _ ([(b_c, _)] ++ _) _ := hs20
  refine WL.call rfl rfl rfl (Run.call Tryd.call21 rfl rfl rfl) (k3_ _ _ _ _ _ _ _ _ _ (hF24.own _ List.mem_cons_self).1 (SlF.st f_s hs20 s_s) (St.sepT hF24 f_s s_s) ?_ ?_) ?_
  · omega
  · omega
  rintro _ whs30 ⟨r25, i26, h27, rfl, hs30, hr28, hi29⟩
  replace hs30 := St.lend1 hF24 hs30
  try have hbhr28 := hr28.2 (by omega)
  refine ⟨_, rfl, WL.r 1 hs30 [] rfl (WL.nil (WC.r1 hs30 [] rfl (WC.cD rfl (fun qh31 => ?_) (fun qh31 => ?_))))⟩
  ·refine WC.region (WL.r 2 hs30 [] rfl ?_)
   have hF32 : St _ _ ([(b_c, _)] ++ _) _ := hs30
   refine WL.call rfl rfl rfl (Run.call Tryd.call33 rfl rfl rfl) (k4_ _ _ _ _ _ _ _ _ (hF32.own _ List.mem_cons_self).1 (SlF.st f_s hs30 s_s) (St.sepT hF32 f_s s_s) ?_ ?_) ?_
   · omega
   · omega
   rintro _ whs38 ⟨r33, i34, h35, rfl, hs38, hr36, hi37⟩
   replace hs38 := St.lend1 hF32 hs38
   refine ⟨_, rfl, WL.cl Tryd.call28 rfl (k9_ _ _) ?_⟩
   rintro _ whs39 ⟨A40, c41, L1_42, rfl, hs39, ho43⟩
   replace hs39 := hs38.callF hs39
   refine ⟨_, rfl, ?_⟩
   replace hs39 := St.back [_] hs39
   have hsl := runeB_len r33
   refine WL.appendG (hs39.fr L17) ho18 (SlF.src (SlF.ofOwn ho43 (hs39.ow L1_42)) Tryd.underlying22) Tryd.underlying22 inf5 rfl rfl rfl rfl rfl rfl rfl rfl rfl rfl ?_ (fun A47 c48 L44 whs45 hs45 ho46 => ?_)
   · (try simp only [List.length_append, List.length_singleton]); omega
   replace hs45 := St.back [_] hs45
   refine WL.r 1 hs45 [] rfl (WL.nil (hK23 _ _ (WC.region (WL.r 3 hs45 [] rfl (WL.nil (tkN ?_))))))
   replace hs45 := (hs45.rm L1_42)
   have hF49 := (St.grp1 (L1 := L44) [_] ((hs45.fr L44).fb b_c))
   refine ⟨sbF rfl, _, hF49, _, ?_, _, i34, h35, _, A47, c48, L44, rfl, rfl, ?_, ?_, ?_, ho46, ⟨rfl, rfl, trivial⟩⟩
   · omega
   · first | (simp only [List.length_append, List.length_singleton]; omega) | (simp only [List.length_append]; omega)
   · omega
   · omega
  refine WC.r1 hs30 [] rfl (WC.cD rfl (fun qh50 => ?_) (fun qh50 => ?_))
  ·refine WC.region (WL.r 1 hs30 [] rfl (WL.buildF (F := encB) hs30 ([7, 8, 9, 10, 13, 10, 0, 127, 24]) Tryd.runUnderlying22 Tryd.sizeOf5 Tryd.zeroValue5 rfl rfl rfl rfl rfl rfl rfl rfl rfl rfl rfl rfl (fun A54 c55 L51 whs52 hs52 ho53 => ?_)))
   replace hs52 := St.back [_] hs52
   refine WL.r 1 hs52 [] rfl ?_
   have hF56 : St _ _ ([(b_c, _)] ++ _) _ := hs52
   refine WL.call rfl rfl rfl (Run.call Tryd.call21 rfl rfl rfl) (k3_ _ _ _ _ _ _ _ _ _ (hF56.own _ List.mem_cons_self).1 (SlF.st f_s hs52 s_s) (St.sepT hF56 f_s s_s) ?_ ?_) ?_
   · omega
   · omega
   rintro _ whs62 ⟨r57, i58, h59, rfl, hs62, hr60, hi61⟩
   replace hs62 := St.lend1 hF56 hs62
   try have hbhr60 := hr60.2 (by omega)
   refine ⟨_, rfl, WL.val rfl rfl rfl (Run.idxK (r57.toNat) Tryd.runUnderlying22 Tryd.sizeOf5 rfl rfl rfl ?_ ?_ ?_) ?_⟩
   · exact SlF.some_ (SlF.ofOwn ho53 (hs62.ow L51))
   · first | omega | (show _ < 9; omega) | (show _ < 32; omega) | (show _ < 16; omega)
   · first | omega | (show _ < 9; omega) | (show _ < 32; omega) | (show _ < 16; omega)
   refine WL.val rfl rfl rfl (Run.load Tryd.isAgg5 rfl rfl (SlF.one1 (SlF.ofOwn ho53 (hs62.ow L51)) ?_ rfl)) ?_
   · first | omega | (show _ < 9; omega) | (show _ < 32; omega) | (show _ < 16; omega)
   refine WL.buildSlice hs62 Tryd.runUnderlying22 Tryd.sizeOf5 Tryd.zeroValue5 rfl rfl rfl rfl rfl rfl rfl rfl rfl rfl (fun b63 whs64 hs64 => ?_)
   refine WL.appendG (hs64.fr L17) ho18 (srcB1 Tryd.underlying22 (hs64.own _ (nthL_mem (i := 0) rfl)).1) Tryd.underlying22 inf5 rfl rfl rfl rfl rfl rfl rfl rfl rfl rfl ?_ (fun A68 c69 L65 whs66 hs66 ho67 => ?_)
   · (try simp only [List.length_append, List.length_singleton]); omega
   replace hs66 := St.back [_, _] hs66
   refine WL.r 1 hs66 [] rfl (WL.nil (hK23 _ _ (WC.region (WL.r 3 hs66 [] rfl (WL.nil (tkN ?_))))))
   replace hs66 := (hs66.d1.rm L51)
   have hF70 := (St.grp1 (L1 := L65) [_] ((hs66.fr L65).fb b_c))
   refine ⟨sbF rfl, _, hF70, _, ?_, _, i58, h59, _, A68, c69, L65, rfl, rfl, ?_, ?_, ?_, ho67, ⟨rfl, rfl, trivial⟩⟩
   · omega
   · first | (simp only [List.length_append, List.length_singleton]; omega) | (simp only [List.length_append]; omega)
   · omega
   · omega
  refine WC.r1 hs30 [] rfl (WC.cD rfl (fun qh71 => ?_) (fun qh71 => ?_))
  ·refine WC.region (WL.r 1 hs30 [] rfl (WL.buildF (F := encS) hs30 ([⟨#[27, 91, 65]⟩, ⟨#[27, 91, 50, 66]⟩, ⟨#[27, 91, 67]⟩, ⟨#[27, 91, 51, 68]⟩, ⟨#[27, 91, 72]⟩, ⟨#[27, 91, 50, 59, 51, 72]⟩, ⟨#[27, 91, 75]⟩, ⟨#[27, 91, 49, 75]⟩, ⟨#[27, 91, 50, 74]⟩, ⟨#[27, 91, 74]⟩, ⟨#[27, 91, 49, 74]⟩, ⟨#[27, 91, 50, 59, 51, 114]⟩, ⟨#[27, 91, 114]⟩, ⟨#[27, 91, 76]⟩, ⟨#[27, 91, 50, 77]⟩, ⟨#[27, 91, 64]⟩, ⟨#[27, 91, 50, 80]⟩, ⟨#[27, 91, 88]⟩, ⟨#[27, 91, 83]⟩, ⟨#[27, 91, 84]⟩, ⟨#[27, 91, 50, 71]⟩, ⟨#[27, 91, 51, 100]⟩, ⟨#[27, 91, 49, 59, 51, 49, 109]⟩, ⟨#[27, 91, 48, 109]⟩, ⟨#[27, 91, 55, 59, 52, 52, 109]⟩, ⟨#[27, 91, 63, 55, 108]⟩, ⟨#[27, 91, 63, 55, 104]⟩, ⟨#[27, 91, 63, 50, 53, 108]⟩, ⟨#[27, 91, 63, 49, 48, 52, 57, 104]⟩, ⟨#[27, 91, 63, 49, 48, 52, 57, 108]⟩, ⟨#[27, 91, 103]⟩, ⟨#[27, 91, 51, 103]⟩]) Tryd.runUnderlying52 Tryd.sizeOf9 Tryd.zeroValue9 rfl rfl rfl rfl rfl rfl rfl rfl rfl rfl rfl rfl (fun A75 c76 L72 whs73 hs73 ho74 => ?_)))
   replace hs73 := St.back [_] hs73
   refine WL.r 1 hs73 [] rfl ?_
   have hF77 : St _ _ ([(b_c, _)] ++ _) _ := hs73
   refine WL.call rfl rfl rfl (Run.call Tryd.call21 rfl rfl rfl) (k3_ _ _ _ _ _ _ _ _ _ (hF77.own _ List.mem_cons_self).1 (SlF.st f_s hs73 s_s) (St.sepT hF77 f_s s_s) ?_ ?_) ?_
   · omega
   · omega
   rintro _ whs83 ⟨r78, i79, h80, rfl, hs83, hr81, hi82⟩
   replace hs83 := St.lend1 hF77 hs83
   try have hbhr81 := hr81.2 (by omega)
   refine ⟨_, rfl, WL.val rfl rfl rfl (Run.idxK (r78.toNat) Tryd.runUnderlying52 Tryd.sizeOf9 rfl rfl rfl ?_ ?_ ?_) ?_⟩
   · exact SlF.some_ (SlF.ofOwn ho74 (hs83.ow L72))
   · first | omega | (show _ < 9; omega) | (show _ < 32; omega) | (show _ < 16; omega)
   · first | omega | (show _ < 9; omega) | (show _ < 32; omega) | (show _ < 16; omega)
   refine WL.val rfl rfl rfl (Run.load Tryd.isAgg9 rfl rfl (SlF.one1 (SlF.ofOwn ho74 (hs83.ow L72)) ?_ rfl)) ?_
   · first | omega | (show _ < 9; omega) | (show _ < 32; omega) | (show _ < 16; omega)
   have hsl : (gat encS [⟨#[27, 91, 65]⟩, ⟨#[27, 91, 50, 66]⟩, ⟨#[27, 91, 67]⟩, ⟨#[27, 91, 51, 68]⟩, ⟨#[27, 91, 72]⟩, ⟨#[27, 91, 50, 59, 51, 72]⟩, ⟨#[27, 91, 75]⟩, ⟨#[27, 91, 49, 75]⟩, ⟨#[27, 91, 50, 74]⟩, ⟨#[27, 91, 74]⟩, ⟨#[27, 91, 49, 74]⟩, ⟨#[27, 91, 50, 59, 51, 114]⟩, ⟨#[27, 91, 114]⟩, ⟨#[27, 91, 76]⟩, ⟨#[27, 91, 50, 77]⟩, ⟨#[27, 91, 64]⟩, ⟨#[27, 91, 50, 80]⟩, ⟨#[27, 91, 88]⟩, ⟨#[27, 91, 83]⟩, ⟨#[27, 91, 84]⟩, ⟨#[27, 91, 50, 71]⟩, ⟨#[27, 91, 51, 100]⟩, ⟨#[27, 91, 49, 59, 51, 49, 109]⟩, ⟨#[27, 91, 48, 109]⟩, ⟨#[27, 91, 55, 59, 52, 52, 109]⟩, ⟨#[27, 91, 63, 55, 108]⟩, ⟨#[27, 91, 63, 55, 104]⟩, ⟨#[27, 91, 63, 50, 53, 108]⟩, ⟨#[27, 91, 63, 49, 48, 52, 57, 104]⟩, ⟨#[27, 91, 63, 49, 48, 52, 57, 108]⟩, ⟨#[27, 91, 103]⟩, ⟨#[27, 91, 51, 103]⟩] r78.toNat).data.toList.length ≤ 20 := by
     have h9 : ∀ x, x ∈ ([⟨#[27, 91, 65]⟩, ⟨#[27, 91, 50, 66]⟩, ⟨#[27, 91, 67]⟩, ⟨#[27, 91, 51, 68]⟩, ⟨#[27, 91, 72]⟩, ⟨#[27, 91, 50, 59, 51, 72]⟩, ⟨#[27, 91, 75]⟩, ⟨#[27, 91, 49, 75]⟩, ⟨#[27, 91, 50, 74]⟩, ⟨#[27, 91, 74]⟩, ⟨#[27, 91, 49, 74]⟩, ⟨#[27, 91, 50, 59, 51, 114]⟩, ⟨#[27, 91, 114]⟩, ⟨#[27, 91, 76]⟩, ⟨#[27, 91, 50, 77]⟩, ⟨#[27, 91, 64]⟩, ⟨#[27, 91, 50, 80]⟩, ⟨#[27, 91, 88]⟩, ⟨#[27, 91, 83]⟩, ⟨#[27, 91, 84]⟩, ⟨#[27, 91, 50, 71]⟩, ⟨#[27, 91, 51, 100]⟩, ⟨#[27, 91, 49, 59, 51, 49, 109]⟩, ⟨#[27, 91, 48, 109]⟩, ⟨#[27, 91, 55, 59, 52, 52, 109]⟩, ⟨#[27, 91, 63, 55, 108]⟩, ⟨#[27, 91, 63, 55, 104]⟩, ⟨#[27, 91, 63, 50, 53, 108]⟩, ⟨#[27, 91, 63, 49, 48, 52, 57, 104]⟩, ⟨#[27, 91, 63, 49, 48, 52, 57, 108]⟩, ⟨#[27, 91, 103]⟩, ⟨#[27, 91, 51, 103]⟩] : List ByteArray) → x.data.toList.length ≤ 20 := by decide
     exact h9 _ (gat_mem (F := encS) (by show _ < 32; omega))
   refine WL.appendG (hs83.fr L17) ho18 (srcStr Tryd.underlying9 _) Tryd.underlying22 inf5 rfl rfl rfl rfl rfl rfl rfl rfl rfl rfl ?_ (fun A87 c88 L84 whs85 hs85 ho86 => ?_)
   · (try simp only [List.length_append, List.length_singleton]); omega
   replace hs85 := St.back [_] hs85
   refine WL.r 1 hs85 [] rfl (WL.nil (hK23 _ _ (WC.region (WL.r 3 hs85 [] rfl (WL.nil (tkN ?_))))))
   replace hs85 := (hs85.rm L72)
   have hF89 := (St.grp1 (L1 := L84) [_] ((hs85.fr L84).fb b_c))
   refine ⟨sbF rfl, _, hF89, _, ?_, _, i79, h80, _, A87, c88, L84, rfl, rfl, ?_, ?_, ?_, ho86, ⟨rfl, rfl, trivial⟩⟩
   · omega
   · first | (simp only [List.length_append, List.length_singleton]; omega) | (simp only [List.length_append]; omega)
   · omega
   · omega
  refine WC.r1 hs30 [] rfl (WC.cD rfl (fun qh90 => ?_) (fun qh90 => ?_))
  ·refine WC.region (WL.r 1 hs30 [] rfl (WL.buildF (F := encS) hs30 ([⟨#[27, 77]⟩, ⟨#[27, 68]⟩, ⟨#[27, 69]⟩, ⟨#[27, 55]⟩, ⟨#[27, 56]⟩, ⟨#[27, 99]⟩, ⟨#[27, 72]⟩, ⟨#[27, 91, 33, 112]⟩, ⟨#[27, 91, 49, 59, 50, 59, 51, 59, 52, 59, 53, 59, 54, 59, 55, 59, 56, 59, 57, 109]⟩, ⟨#[27, 91]⟩, ⟨#[27]⟩, ⟨#[27, 91, 51]⟩, ⟨#[228, 184]⟩, ⟨#[195]⟩, ⟨#[27, 91, 57, 57, 57, 57, 57, 67]⟩, ⟨#[27, 91, 48, 59, 48, 72]⟩]) Tryd.runUnderlying52 Tryd.sizeOf9 Tryd.zeroValue9 rfl rfl rfl rfl rfl rfl rfl rfl rfl rfl rfl rfl (fun A94 c95 L91 whs92 hs92 ho93 => ?_)))
   replace hs92 := St.back [_] hs92
   refine WL.r 1 hs92 [] rfl ?_
   have hF96 : St _ _ ([(b_c, _)] ++ _) _ := hs92
   refine WL.call rfl rfl rfl (Run.call Tryd.call21 rfl rfl rfl) (k3_ _ _ _ _ _ _ _ _ _ (hF96.own _ List.mem_cons_self).1 (SlF.st f_s hs92 s_s) (St.sepT hF96 f_s s_s) ?_ ?_) ?_
   · omega
   · omega
   rintro _ whs102 ⟨r97, i98, h99, rfl, hs102, hr100, hi101⟩
   replace hs102 := St.lend1 hF96 hs102
   try have hbhr100 := hr100.2 (by omega)
   refine ⟨_, rfl, WL.val rfl rfl rfl (Run.idxK (r97.toNat) Tryd.runUnderlying52 Tryd.sizeOf9 rfl rfl rfl ?_ ?_ ?_) ?_⟩
   · exact SlF.some_ (SlF.ofOwn ho93 (hs102.ow L91))
   · first | omega | (show _ < 9; omega) | (show _ < 32; omega) | (show _ < 16; omega)
   · first | omega | (show _ < 9; omega) | (show _ < 32; omega) | (show _ < 16; omega)
   refine WL.val rfl rfl rfl (Run.load Tryd.isAgg9 rfl rfl (SlF.one1 (SlF.ofOwn ho93 (hs102.ow L91)) ?_ rfl)) ?_
   · first | omega | (show _ < 9; omega) | (show _ < 32; omega) | (show _ < 16; omega)
   have hsl : (gat encS [⟨#[27, 77]⟩, ⟨#[27, 68]⟩, ⟨#[27, 69]⟩, ⟨#[27, 55]⟩, ⟨#[27, 56]⟩, ⟨#[27, 99]⟩, ⟨#[27, 72]⟩, ⟨#[27, 91, 33, 112]⟩, ⟨#[27, 91, 49, 59, 50, 59, 51, 59, 52, 59, 53, 59, 54, 59, 55, 59, 56, 59, 57, 109]⟩, ⟨#[27, 91]⟩, ⟨#[27]⟩, ⟨#[27, 91, 51]⟩, ⟨#[228, 184]⟩, ⟨#[195]⟩, ⟨#[27, 91, 57, 57, 57, 57, 57, 67]⟩, ⟨#[27, 91, 48, 59, 48, 72]⟩] r97.toNat).data.toList.length ≤ 20 := by
     have h9 : ∀ x, x ∈ ([⟨#[27, 77]⟩, ⟨#[27, 68]⟩, ⟨#[27, 69]⟩, ⟨#[27, 55]⟩, ⟨#[27, 56]⟩, ⟨#[27, 99]⟩, ⟨#[27, 72]⟩, ⟨#[27, 91, 33, 112]⟩, ⟨#[27, 91, 49, 59, 50, 59, 51, 59, 52, 59, 53, 59, 54, 59, 55, 59, 56, 59, 57, 109]⟩, ⟨#[27, 91]⟩, ⟨#[27]⟩, ⟨#[27, 91, 51]⟩, ⟨#[228, 184]⟩, ⟨#[195]⟩, ⟨#[27, 91, 57, 57, 57, 57, 57, 67]⟩, ⟨#[27, 91, 48, 59, 48, 72]⟩] : List ByteArray) → x.data.toList.length ≤ 20 := by decide
     exact h9 _ (gat_mem (F := encS) (by show _ < 16; omega))
   refine WL.appendG (hs102.fr L17) ho18 (srcStr Tryd.underlying9 _) Tryd.underlying22 inf5 rfl rfl rfl rfl rfl rfl rfl rfl rfl rfl ?_ (fun A106 c107 L103 whs104 hs104 ho105 => ?_)
   · (try simp only [List.length_append, List.length_singleton]); omega
   replace hs104 := St.back [_] hs104
   refine WL.r 1 hs104 [] rfl (WL.nil (hK23 _ _ (WC.region (WL.r 3 hs104 [] rfl (WL.nil (tkN ?_))))))
   replace hs104 := (hs104.rm L91)
   have hF108 := (St.grp1 (L1 := L103) [_] ((hs104.fr L103).fb b_c))
   refine ⟨sbF rfl, _, hF108, _, ?_, _, i98, h99, _, A106, c107, L103, rfl, rfl, ?_, ?_, ?_, ho105, ⟨rfl, rfl, trivial⟩⟩
   · omega
   · first | (simp only [List.length_append, List.length_singleton]; omega) | (simp only [List.length_append]; omega)
   · omega
   · omega
  refine WC.region (WL.r 2 hs30 [] rfl ?_)
  have hF109 : St _ _ ([(b_c, _)] ++ _) _ := hs30
  refine WL.call rfl rfl rfl (Run.call Tryd.call34 rfl rfl rfl) (k2_ _ _ _ _ _ _ _ _ (hF109.own _ List.mem_cons_self).1 (SlF.st f_s hs30 s_s) (St.sepT hF109 f_s s_s) ?_ ?_) ?_
  · omega
  · omega
  rintro _ whs115 ⟨r110, i111, h112, rfl, hs115, hr113, hi114⟩
  replace hs115 := St.lend1 hF109 hs115
  refine ⟨_, rfl, WL.r 1 hs115 [] rfl (WL.buildSlice hs115 Tryd.runUnderlying22 Tryd.sizeOf5 Tryd.zeroValue5 rfl rfl rfl rfl rfl rfl rfl rfl rfl rfl (fun b116 whs117 hs117 => ?_))⟩
  refine WL.appendG (hs117.fr L17) ho18 (srcB1 Tryd.underlying22 (hs117.own _ (nthL_mem (i := 0) rfl)).1) Tryd.underlying22 inf5 rfl rfl rfl rfl rfl rfl rfl rfl rfl rfl ?_ (fun A121 c122 L118 whs119 hs119 ho120 => ?_)
  · (try simp only [List.length_append, List.length_singleton]); omega
  replace hs119 := St.back [_, _] hs119
  refine WL.r 1 hs119 [] rfl (WL.nil (hK23 _ _ (WC.region (WL.r 3 hs119 [] rfl (WL.nil (tkN ?_))))))
  replace hs119 := hs119.d1
  have hF123 := (St.grp1 (L1 := L118) [_] ((hs119.fr L118).fb b_c))
  refine ⟨sbF rfl, _, hF123, _, ?_, _, i111, h112, _, A121, c122, L118, rfl, rfl, ?_, ?_, ?_, ho120, ⟨rfl, rfl, trivial⟩⟩
  · omega
  · first | (simp only [List.length_append, List.length_singleton]; omega) | (simp only [List.length_append]; omega)
  · omega
  · omega
 refine WC.exit (hK7 _ _ (WC.r1 hs20 [] rfl (WC.ret (retV1 rfl (resV.tmp rfl) (⟨_, _, zs, _, _, _, rfl, St.keepP (L1 := L17) ((hs20.fr L17).fb b_c), ho18, by omega, by omega⟩)))))
def numT (n : Int) : List UInt8 := if 0 ≤ n ∧ n ≤ 4294967295 then Go.Lib.decDigits n.toNat else []
def numBA (n : Int) : ByteArray := ⟨(numT n).toArray⟩
def argT (l : List Int) : List UInt8 := Go.Lib.join (l.map numT) [59]
theorem dec_chars (u : Nat) : ∀ c, c ∈ Go.Lib.decDigits u → 48 ≤ c.toNat ∧ c.toNat ≤ 57 := by
 induction u using Nat.strongRecOn with
 | _ u ih =>
  intro c hc
  rw [Go.Lib.decDigits] at hc
  split at hc
  ·rw [List.mem_singleton] at hc
   rw [hc, UInt8.toNat_ofNat']; omega
  ·rw [List.mem_append, List.mem_singleton] at hc
   rcases hc with hc | hc
   ·exact ih _ (by omega) c hc
   ·rw [hc, UInt8.toNat_ofNat']; omega
theorem numT_chars {n : Int} : ∀ c, c ∈ numT n → 48 ≤ c.toNat ∧ c.toNat ≤ 57 := by
 intro c hc
 unfold numT at hc
 split at hc
 ·exact dec_chars _ c hc
 ·cases hc
theorem numT_len {n : Int} : (numT n).length ≤ 21 := by
 unfold numT
 split
 ·have h := Go.Lib.itoa_length_le (n.toNat : Int) (by omega) (by omega)
  rwa [Go.Lib.itoa_nonneg] at h
 ·exact Nat.zero_le _
theorem join_snoc (xs : List (List UInt8)) (y s : List UInt8) : Go.Lib.join (xs ++ [y]) s = if xs = [] then y else Go.Lib.join xs s ++ s ++ y := by
 cases xs with
 | nil => rw [if_pos rfl]; exact Go.Lib.join_one y s
 | cons x r =>
  rw [if_neg (by simp), List.cons_append, Go.Lib.join_cons, Go.Lib.join_cons]
  simp [Go.Lib.joinTail, List.append_assoc]
theorem argT_take {l : List Int} {i : Nat} (h : i < l.length) : argT (l.take (i + 1)) = if i = 0 then numT (iat l i) else argT (l.take i) ++ [59] ++ numT (iat l i) := by
 unfold argT
 rw [List.take_add_one, gat_get (F := encI) h, List.map_append]
 show Go.Lib.join (_ ++ [numT (gat encI l i)]) _ = _
 rw [join_snoc]
 by_cases h0 : i = 0
 ·subst h0
  rw [if_pos rfl, if_pos (by simp)]
 ·rw [if_neg h0, if_neg (by intro hh; have := congrArg List.length hh; simp only [List.length_map, List.length_take, List.length_nil] at this; omega)]
theorem join_mem {c : UInt8} : ∀ {xs : List (List UInt8)}, c ∈ Go.Lib.join xs [59] → c = 59 ∨ ∃ x, x ∈ xs ∧ c ∈ x
 | [], h => by cases h
 | x :: r, h => by
  rw [Go.Lib.join_cons, List.mem_append] at h
  rcases h with h | h
  ·exact .inr ⟨x, List.mem_cons_self, h⟩
  ·unfold Go.Lib.joinTail at h
   rw [List.mem_flatten] at h
   obtain ⟨y, hy, hc⟩ := h
   obtain ⟨z, hz, rfl⟩ := List.mem_map.1 hy
   rw [List.mem_append, List.mem_singleton] at hc
   rcases hc with hc | hc
   ·exact .inl hc
   ·exact .inr ⟨z, List.mem_cons_of_mem _ hz, hc⟩
theorem argT_chars {l : List Int} : ∀ c, c ∈ argT l → 48 ≤ c.toNat ∧ c.toNat ≤ 63 := by
 intro c hc
 rcases join_mem hc with rfl | ⟨x, hx, hc⟩
 ·decide
 ·obtain ⟨n, hn, rfl⟩ := List.mem_map.1 hx
  have := numT_chars c hc
  omega
def sameA (a b : ActD) : Bool := ((decide (a.Kind = b.Kind) && decide (a.R = b.R)) && decide (a.Mark = b.Mark)) && decide (a.Args = b.Args)
theorem sameA_eq {a b : ActD} (h : sameA a b = true) : a = b := by
 unfold sameA at h
 simp only [Bool.and_eq_true, decide_eq_true_eq] at h
 exact ActD.ext' h.1.1.1 h.1.1.2 h.1.2 h.2
def oneA (l : List ActD) (a : ActD) : Bool := match l with
 | [x] => sameA x a
 | _ => false
theorem oneA_eq {l : List ActD} {a : ActD} (h : oneA l a = true) : l = [a] := by
 unfold oneA at h
 split at h
 ·rw [sameA_eq h]
 ·cases h
def actPre (a : ActD) : List UInt8 := [27, 91] ++ (if a.Mark = true then [63] else []) ++ argT a.Args
def actBy (a : ActD) : List UInt8 := if a.Kind = 1 then runeB a.R else if a.Kind = 2 then [ub a.R] else if a.Kind = 3 then [27, ub a.R] else if a.Kind = 4 then actPre a ++ [ub a.R] else []
def actOk (a : ActD) : Bool := oneA (vpParse vp0 (actBy a)).2 a
def actT (a : ActD) : ByteArray := if actOk a = true then ⟨(actBy a).toArray⟩ else ⟨#[]⟩
def goodI (s : List UInt8) (a : ActD) : Bool := (decide ((vpParse vp0 s).1.State = 0) && decide ((vpParse vp0 s).1.Part.length = 0)) && oneA (vpParse vp0 s).2 a
theorem vpStep_R {v : VpD} {b : Int} (hb : 0 ≤ b ∧ b ≤ 255) (h0 : (vpStep v b).2.Kind ≠ 0) (h1 : (vpStep v b).2.Kind ≠ 1) : 0 ≤ (vpStep v b).2.R ∧ (vpStep v b).2.R ≤ 127 := by
 revert h0 h1
 unfold vpStep vpPlain vpCsi
 (repeat' split) <;> simp [act0] <;> omega
theorem vpParse_R : ∀ {l : List UInt8} {v : VpD} {x : ActD}, x ∈ (vpParse v l).2 → x.Kind ≠ 0 ∧ (x.Kind ≠ 1 → 0 ≤ x.R ∧ x.R ≤ 127)
 | [], v, x, h => by cases h
 | y :: r, v, x, h => by
  simp only [vpParse, List.mem_append] at h
  rcases h with h | h
  ·split at h
   ·cases h
   ·rename_i hk
    rw [List.mem_singleton] at h
    subst h
    exact ⟨hk, fun h1 => vpStep_R (by have := UInt8.toNat_lt y; omega) hk h1⟩
  ·exact vpParse_R h
theorem vpStep_mid {v : VpD} {b : Int} (hs : v.State = 2 ∨ v.State = 3) (hb : 48 ≤ b ∧ b ≤ 63) : ((vpStep v b).1.State = 2 ∨ (vpStep v b).1.State = 3) ∧ (vpStep v b).2.Kind = 0 := by
 unfold vpStep
 rw [if_neg (by omega), if_neg (by omega), if_neg (by omega), if_neg (by omega)]
 rcases hs with hs | hs
 ·rw [if_pos hs]
  unfold vpCsi vpDigit vpNext
  (repeat' split) <;> simp [act0, hs] <;> omega
 ·rw [if_neg (by omega), if_neg (by omega)]
  exact ⟨.inr hs, rfl⟩
theorem vpParse_mid : ∀ {l : List UInt8} {v : VpD}, (v.State = 2 ∨ v.State = 3) → (∀ c, c ∈ l → 48 ≤ c.toNat ∧ c.toNat ≤ 63) → (vpParse v l).2 = [] ∧ ((vpParse v l).1.State = 2 ∨ (vpParse v l).1.State = 3)
 | [], v, h, _ => ⟨rfl, h⟩
 | y :: r, v, h, hc => by
  have h1 := hc y List.mem_cons_self
  obtain ⟨a, b⟩ := vpStep_mid (b := (y.toNat : Int)) h (by omega)
  obtain ⟨c, d⟩ := vpParse_mid (l := r) a (fun z hz => hc z (List.mem_cons_of_mem _ hz))
  refine ⟨?_, d⟩
  simp only [vpParse]
  rw [if_pos b, c]; rfl
theorem pre_parse (a : ActD) : (vpParse vp0 (actPre a)).2 = [] ∧ ((vpParse vp0 (actPre a)).1.State = 2 ∨ (vpParse vp0 (actPre a)).1.State = 3) := by
 have hc : ∀ c, c ∈ (if a.Mark = true then [63] else []) ++ argT a.Args → 48 ≤ c.toNat ∧ c.toNat ≤ 63 := by
  intro c hc
  rw [List.mem_append] at hc
  rcases hc with hc | hc
  ·split at hc
   ·rw [List.mem_singleton] at hc; rw [hc]; decide
   ·cases hc
  ·exact argT_chars c hc
 have h := vpParse_mid (v := ⟨2, false, [], []⟩) (.inl rfl) hc
 unfold actPre
 rw [List.append_assoc]
 exact h
theorem step_vp0 {b : Int} (h : (vpStep vp0 b).2.Kind ≠ 0) : (vpStep vp0 b).1 = vp0 := by
 revert h
 unfold vpStep vpPlain
 (repeat' split) <;> simp [act0, vp0] at *
theorem step_esc {b : Int} (h : (vpStep ⟨1, false, [], []⟩ b).2.Kind ≠ 0) : (vpStep ⟨1, false, [], []⟩ b).1 = vp0 := by
 revert h
 unfold vpStep
 (repeat' split) <;> simp [act0, vp0] at *
theorem step_csi {v : VpD} {b : Int} (hs : v.State = 2 ∨ v.State = 3) (h : (vpStep v b).2.Kind = 4) : (vpStep v b).1 = vp0 := by
 revert h
 unfold vpStep vpCsi
 (repeat' split) <;> simp [act0] at * <;> omega
theorem actOk_vp0 {a : ActD} (h : actOk a = true) : (vpParse vp0 (actBy a)).1 = vp0 := by
 have he := oneA_eq h
 unfold actBy at he ⊢
 split
 ·rename_i h1
  rw [if_pos h1] at he
  by_cases hs : shows a.R = true
  ·rw [vpParse_rune hs]
  ·have e : runeB a.R = [] := by unfold runeB; rw [if_pos (by simpa using hs)]
   rw [e] at he; cases he
 ·rename_i h1
  rw [if_neg h1] at he
  split
  ·rename_i h2
   rw [if_pos h2] at he
   have he2 : (if (vpStep vp0 ((ub a.R).toNat : Int)).2.Kind = 0 then [] else [(vpStep vp0 ((ub a.R).toNat : Int)).2]) ++ [] = [a] := he
   show (vpStep vp0 ((ub a.R).toNat : Int)).1 = vp0
   refine step_vp0 fun hk => ?_
   rw [if_pos hk] at he2; cases he2
  ·rename_i h2
   rw [if_neg h2] at he
   split
   ·rename_i h3
    rw [if_pos h3] at he
    have he2 : [] ++ ((if (vpStep ⟨1, false, [], []⟩ ((ub a.R).toNat : Int)).2.Kind = 0 then [] else [(vpStep ⟨1, false, [], []⟩ ((ub a.R).toNat : Int)).2]) ++ []) = [a] := he
    show (vpStep ⟨1, false, [], []⟩ ((ub a.R).toNat : Int)).1 = vp0
    refine step_esc fun hk => ?_
    rw [if_pos hk] at he2; cases he2
   ·rename_i h3
    rw [if_neg h3] at he
    split
    ·rename_i h4
     rw [if_pos h4, vpParse_snoc] at he
     rw [vpParse_snoc]
     obtain ⟨p1, p2⟩ := pre_parse a
     simp only [p1, List.nil_append] at he ⊢
     split at he
     ·cases he
     ·rw [List.cons.injEq] at he
      exact step_csi p2 (by rw [he.1]; exact h4)
    ·rfl
theorem goodI_B (a : ActD) : goodI (actBy a) a = actOk a := by
 unfold goodI
 cases h : actOk a with
 | false =>
  have : oneA (vpParse vp0 (actBy a)).2 a = false := h
  rw [this, Bool.and_false]
 | true =>
  have : oneA (vpParse vp0 (actBy a)).2 a = true := h
  rw [this, actOk_vp0 h]; rfl
theorem actOk_R {a : ActD} (h : actOk a = true) : a.Kind ≠ 0 ∧ (a.Kind ≠ 1 → 0 ≤ a.R ∧ a.R ≤ 127) := by
 have he := oneA_eq h
 exact vpParse_R (l := actBy a) (v := vp0) (by rw [he]; exact List.mem_cons_self)
theorem actOk_args {a : ActD} (h : actOk a = true) : areArgs a.Args = true := by
 have he := oneA_eq h
 exact vpParse_args (l := actBy a) (v := vp0) rfl a (by rw [he]; exact List.mem_cons_self)
theorem actOk_kind {a : ActD} (h : actOk a = true) : a.Kind = 1 ∨ a.Kind = 2 ∨ a.Kind = 3 ∨ a.Kind = 4 := by
 by_cases h1 : a.Kind = 1
 ·exact .inl h1
 by_cases h2 : a.Kind = 2
 ·exact .inr (.inl h2)
 by_cases h3 : a.Kind = 3
 ·exact .inr (.inr (.inl h3))
 by_cases h4 : a.Kind = 4
 ·exact .inr (.inr (.inr h4))
 have he := oneA_eq h
 unfold actBy at he
 rw [if_neg h1, if_neg h2, if_neg h3, if_neg h4] at he
 cases he
theorem join_len : ∀ {xs : List (List UInt8)}, (∀ x, x ∈ xs → x.length ≤ 21) → (Go.Lib.join xs [59]).length ≤ 22 * xs.length
 | [], _ => Nat.zero_le _
 | x :: r, h => by
  rw [Go.Lib.join_cons, List.length_append, List.length_cons]
  have h1 := h x List.mem_cons_self
  have h2 : ∀ (l : List (List UInt8)), (∀ y, y ∈ l → y.length ≤ 21) → (Go.Lib.joinTail [59] l).length ≤ 22 * l.length := by
   intro l
   induction l with
   | nil => intro _; exact Nat.zero_le _
   | cons y t ih =>
    intro hl
    have h3 := ih fun z hz => hl z (List.mem_cons_of_mem _ hz)
    have h4 := hl y List.mem_cons_self
    have e : Go.Lib.joinTail [59] (y :: t) = ([59] ++ y) ++ Go.Lib.joinTail [59] t := by simp [Go.Lib.joinTail]
    rw [e]
    simp only [List.length_append, List.length_cons, List.length_nil]
    omega
  have h5 := h2 r fun y hy => h y (List.mem_cons_of_mem _ hy)
  omega
theorem argT_len {l : List Int} : (argT l).length ≤ 22 * l.length := by
 have h := join_len (xs := l.map numT) (fun x hx => by obtain ⟨n, _, rfl⟩ := List.mem_map.1 hx; exact numT_len)
 rwa [List.length_map] at h
theorem join_args (l : List Int) {s : ByteArray} (hs : s.data.toList = [59]) : Go.Lib.join ((l.map numBA).map (·.data.toList)) s.data.toList = argT l := by
 rw [hs, List.map_map]; rfl
theorem actT_yes {a : ActD} (h : actOk a = true) : actT a = ⟨(actBy a).toArray⟩ := if_pos h
theorem actT_no {a : ActD} (h : actOk a = false) : actT a = ⟨#[]⟩ := if_neg (by rw [h]; decide)
theorem goodI_R {s : List UInt8} {a : ActD} {r : VpR} {x : List ActR} (h0 : r.dat = (vpParse vp0 s).1) (h1 : x.map ActR.dat = (vpParse vp0 s).2) (hl : r.Part.xs.length = r.Part.n) :
  goodI s a = ((decide (r.State = 0) && decide (r.Part.n = 0)) && (decide (x.length = 1) && sameA (gat encActR x 0).dat a)) := by
 unfold goodI
 rw [← h0, ← h1, ← hl]
 congr 1
 match x with
 | [] => rfl
 | [y] => show sameA y.dat a = (true && sameA (gat encActR [y] 0).dat a); rw [Bool.true_and]; rfl
 | y :: z :: t => rfl
theorem OwnF.spot {α : Type} {F : Enc α} {e : TypeId} {A : Option Addr} {n c : Nat} {xs : List α} {L : Hp} (h : OwnF F e (.slice A n c) xs L) : 0 < n → ∀ x, A = some x → x.spot = none := by
 intro hn x hx
 rcases h.2 with ⟨⟨A', hv⟩, h0', _⟩ | ⟨g, cap, o, pre, cl, lh, hv, _⟩
 ·simp only [Value.slice.injEq] at hv
  omega
 ·simp only [Value.slice.injEq] at hv
  rw [hx] at hv
  rw [Option.some.inj hv.1]
theorem vpBytes_vp0 {s : List UInt8} : vpBytes vp0 s = vpParse vp0 s := by unfold vpBytes; rw [if_pos (show vpOk vp0 = true from rfl)]
theorem join_len2 {l : List Int} (h : l.length ≤ 8) : (Go.Lib.join (List.map ((fun x : ByteArray => x.data.toList) ∘ numBA) l) [59]).length ≤ 200 := by
 have h9 := argT_len (l := l)
 have e9 := join_args l (s := ⟨#[59]⟩) rfl
 rw [List.map_map] at e9
 rw [show [59] = (⟨#[59]⟩ : ByteArray).data.toList from rfl, e9]
 omega
theorem actPre_len {a : ActD} : (actPre a).length ≤ 3 + 22 * a.Args.length := by
 have h := argT_len (l := a.Args)
 unfold actPre
 simp only [List.length_append, List.length_cons, List.length_nil]
 split <;> simp <;> omega
theorem map_numBA (l : List Int) : List.map ((fun x : ByteArray => x.data.toList) ∘ numBA) l = l.map numT := rfl
theorem vpParse_append : ∀ {a b : List UInt8} {v : VpD}, vpParse v (a ++ b) = ((vpParse (vpParse v a).1 b).1, (vpParse v a).2 ++ (vpParse (vpParse v a).1 b).2)
 | [], b, v => by
  show vpParse v b = ((vpParse v b).1, [] ++ (vpParse v b).2)
  rw [List.nil_append]
 | y :: r, b, v => by
  have h := vpParse_append (a := r) (b := b) (v := (vpStep v y.toNat).1)
  show ((vpParse _ (r ++ b)).1, _ ++ (vpParse _ (r ++ b)).2) = (_, (_ ++ _) ++ _)
  rw [h, List.append_assoc]; rfl
theorem vpParse_one {v v' : VpD} {c : UInt8} (h : vpStep v c.toNat = (v', act0)) : vpParse v [c] = (v', []) := by
 show ((vpParse (vpStep v c.toNat).1 []).1, (if (vpStep v c.toNat).2.Kind = 0 then [] else [(vpStep v c.toNat).2]) ++ (vpParse (vpStep v c.toNat).1 []).2) = _
 rw [h]; rfl
theorem digit_step {m : Bool} {L : List Int} {x : Int} {c : UInt8} (hc : 48 ≤ c.toNat ∧ c.toNat ≤ 57) : vpStep ⟨2, m, L ++ [x], []⟩ c.toNat = (⟨2, m, L ++ [min 9999 (10 * x + ((c.toNat : Int) - 48))], []⟩, act0) := by
 have h1 : args1 (L ++ [x]) = L ++ [x] := by unfold args1; rw [if_neg (by simp)]
 have h2 : (L ++ [x]).length - 1 = L.length := by simp
 have h3 : iat (L ++ [x]) L.length = x := by
  have e1 := gat_get (F := encI) (xs := L ++ [x]) (k := L.length) (by simp)
  rw [List.getElem?_append_right (Nat.le_refl _), Nat.sub_self] at e1
  exact (Option.some.inj e1).symm
 unfold vpStep
 rw [if_neg (by omega), if_neg (by omega), if_neg (show ¬ (2 : Int) = 0 by decide), if_neg (show ¬ (2 : Int) = 1 by decide), if_pos rfl]
 unfold vpCsi
 rw [if_neg (by omega), if_pos (by omega)]
 unfold vpDigit
 simp only [h1, h2, h3]
 rw [List.set_append_right _ _ (Nat.le_refl _), Nat.sub_self]
 rfl
theorem digit_none {m : Bool} {c : UInt8} (hc : 48 ≤ c.toNat ∧ c.toNat ≤ 57) : vpStep ⟨2, m, [], []⟩ c.toNat = vpStep ⟨2, m, [0], []⟩ c.toNat := by
 unfold vpStep
 rw [if_neg (by omega), if_neg (by omega), if_neg (show ¬ (2 : Int) = 0 by decide), if_neg (show ¬ (2 : Int) = 1 by decide), if_pos rfl, if_neg (by omega), if_neg (by omega), if_neg (show ¬ (2 : Int) = 0 by decide), if_neg (show ¬ (2 : Int) = 1 by decide), if_pos rfl]
 unfold vpCsi
 rw [if_neg (by omega), if_pos (by omega), if_neg (by omega), if_pos (by omega)]
 rfl
theorem dec_parse (m : Bool) (L : List Int) (u : Nat) (hu : u ≤ 9999) : vpParse ⟨2, m, L ++ [0], []⟩ (Go.Lib.decDigits u) = (⟨2, m, L ++ [(u : Int)], []⟩, []) := by
 induction u using Nat.strongRecOn with
 | _ u ih =>
  rw [Go.Lib.decDigits]
  split
  ·rename_i h
   have e : (UInt8.ofNat (48 + u)).toNat = 48 + u := by rw [UInt8.toNat_ofNat']; omega
   refine vpParse_one ((digit_step (by omega)).trans ?_)
   rw [e, show min 9999 (10 * 0 + (((48 + u : Nat) : Int) - 48)) = (u : Int) by omega]
  ·rename_i h
   have e : (UInt8.ofNat (48 + u % 10)).toNat = 48 + u % 10 := by rw [UInt8.toNat_ofNat']; omega
   have h2 : vpParse ⟨2, m, L ++ [((u / 10 : Nat) : Int)], []⟩ [UInt8.ofNat (48 + u % 10)] = (⟨2, m, L ++ [(u : Int)], []⟩, []) := by
    refine vpParse_one ((digit_step (by omega)).trans ?_)
    rw [e, show min 9999 (10 * ((u / 10 : Nat) : Int) + (((48 + u % 10 : Nat) : Int) - 48)) = (u : Int) by omega]
   rw [vpParse_append, ih (u / 10) (by omega) (by omega)]
   simp only [h2, List.append_nil]
theorem dec_cons (u : Nat) : ∃ c r, Go.Lib.decDigits u = c :: r ∧ 48 ≤ c.toNat ∧ c.toNat ≤ 57 := by
 cases h : Go.Lib.decDigits u with
 | nil =>
  exfalso
  rw [Go.Lib.decDigits] at h
  split at h
  ·cases h
  ·have := congrArg List.length h
   simp at this
 | cons c r =>
  have := dec_chars u c (by rw [h]; exact List.mem_cons_self)
  exact ⟨c, r, rfl, this⟩
theorem num_parse {m : Bool} {L : List Int} {x : Int} (hx : 0 ≤ x ∧ x ≤ 9999) : vpParse ⟨2, m, L ++ [0], []⟩ (numT x) = (⟨2, m, L ++ [x], []⟩, []) := by
 unfold numT
 rw [if_pos (by omega), dec_parse m L x.toNat (by omega), Int.toNat_of_nonneg hx.1]
theorem num_parse0 {m : Bool} {x : Int} (hx : 0 ≤ x ∧ x ≤ 9999) : vpParse ⟨2, m, [], []⟩ (numT x) = (⟨2, m, [x], []⟩, []) := by
 have h := num_parse (m := m) (L := []) hx
 rw [List.nil_append, List.nil_append] at h
 rw [← h]
 unfold numT
 rw [if_pos (by omega)]
 obtain ⟨c, r, e, hc⟩ := dec_cons x.toNat
 rw [e]
 simp only [vpParse, digit_none hc]
theorem sep_parse {m : Bool} {L : List Int} (h0 : L ≠ []) (h1 : L.length + 1 ≤ 8) : vpParse ⟨2, m, L, []⟩ [59] = (⟨2, m, L ++ [0], []⟩, []) := by
 refine vpParse_one ?_
 have ha : args1 L = L := by unfold args1; rw [if_neg (by intro h; exact h0 (List.eq_nil_of_length_eq_zero h))]
 show vpStep ⟨2, m, L, []⟩ 59 = _
 unfold vpStep
 rw [if_neg (by decide), if_neg (by decide), if_neg (show ¬ (2 : Int) = 0 by decide), if_neg (show ¬ (2 : Int) = 1 by decide), if_pos rfl]
 unfold vpCsi
 rw [if_neg (by omega), if_neg (by decide), if_pos rfl]
 unfold vpNext
 rw [ha, if_neg (by omega)]
theorem args_parse {m : Bool} {l : List Int} (h8 : l.length ≤ 8) (hx : ∀ x, x ∈ l → 0 ≤ x ∧ x ≤ 9999) : ∀ i, i ≤ l.length → vpParse ⟨2, m, [], []⟩ (argT (l.take i)) = (⟨2, m, l.take i, []⟩, []) := by
 intro i
 induction i with
 | zero => intro _; rfl
 | succ i ih =>
  intro hi
  have hg := gat_get (F := encI) (xs := l) (k := i) (by omega)
  have hm := hx _ (gat_mem (F := encI) (xs := l) (k := i) (by omega))
  have ht : l.take (i + 1) = l.take i ++ [iat l i] := by rw [List.take_add_one, hg]; rfl
  rw [argT_take (l := l) (i := i) (by omega)]
  by_cases h0 : i = 0
  ·subst h0
   rw [if_pos rfl, ht]
   exact num_parse0 hm
  ·rw [if_neg h0, vpParse_append, vpParse_append, ih (by omega)]
   have hl : (l.take i).length = i := by rw [List.length_take]; omega
   rw [sep_parse (L := l.take i) (by intro hh; rw [hh] at hl; exact h0 hl.symm) (by omega)]
   simp only [List.nil_append]
   rw [num_parse hm, ht]
theorem pre_back {a : ActD} (ha : areArgs a.Args = true) : vpParse vp0 (actPre a) = (⟨2, a.Mark, a.Args, []⟩, []) := by
 obtain ⟨h8, hx⟩ := areArgs_iff.1 ha
 have hp : ∀ m, vpParse ⟨2, m, [], []⟩ (argT a.Args) = (⟨2, m, a.Args, []⟩, []) := by
  intro m
  have h := args_parse (m := m) h8 hx a.Args.length (Nat.le_refl _)
  rwa [List.take_of_length_le (Nat.le_refl _)] at h
 have h1 : vpParse vp0 [27, 91] = (⟨2, false, [], []⟩, []) := rfl
 unfold actPre
 rw [List.append_assoc, vpParse_append, h1]
 simp only [List.nil_append]
 cases hm : a.Mark with
 | false =>
  rw [if_neg (by decide), List.nil_append, hp]
 | true =>
  have h2 : vpParse ⟨2, false, [], []⟩ [63] = (⟨2, true, [], []⟩, []) := rfl
  rw [if_pos rfl, vpParse_append, h2]
  simp only [List.nil_append]
  rw [hp]
def actForm (a : ActD) : Prop := (a.Kind = 1 ∧ shows a.R = true ∧ a.Mark = false ∧ a.Args = []) ∨ (a.Kind = 2 ∧ ((0 ≤ a.R ∧ a.R < 32) ∨ a.R = 127) ∧ (a.R ≠ 27 ∧ a.R ≠ 24 ∧ a.R ≠ 26) ∧ a.Mark = false ∧ a.Args = []) ∨ (a.Kind = 3 ∧ (48 ≤ a.R ∧ a.R ≤ 126) ∧ a.R ≠ 91 ∧ a.Mark = false ∧ a.Args = []) ∨ (a.Kind = 4 ∧ (64 ≤ a.R ∧ a.R ≤ 126) ∧ areArgs a.Args = true)
theorem runeL_shows {l : List UInt8} (h0 : 0 < l.length) (h : rvS (runeL l) = l.length) : shows (rvN (runeL l)) = true := by
 cases hr : runeL l with
 | none => rw [hr] at h; exact absurd h (by show ¬ (0 = l.length); omega)
 | some z =>
  obtain ⟨q, s⟩ := z
  obtain ⟨h1, h2, h3, h4⟩ := runeL_some hr
  show shows q = true
  rw [← Bool.not_eq_false]
  intro hs
  have e : runeB q = [] := by unfold runeB; rw [if_pos (by simp [hs])]
  rw [e] at h4
  have := congrArg List.length h4
  rw [List.length_take, List.length_nil] at this
  omega
theorem vpPlain_form {p : List UInt8} {b : Int} (hb : 0 ≤ b ∧ b ≤ 255) (hn : b ≠ 27 ∧ b ≠ 24 ∧ b ≠ 26) (hk : (vpPlain p b).2.Kind ≠ 0) : actForm (vpPlain p b).2 := by
 revert hk
 unfold vpPlain
 split
 ·rename_i h; exact fun _ => .inr (.inl ⟨rfl, by show (0 ≤ b ∧ b < 32) ∨ b = 127; omega, hn, rfl, rfl⟩)
 ·split
  ·rename_i h1 h2; exact fun _ => .inl ⟨rfl, shows_iff.2 (.inl (by show 32 ≤ b ∧ b ≤ 126; omega)), rfl, rfl⟩
  ·split
   ·rename_i h3; exact fun _ => .inl ⟨rfl, runeL_shows (by simp) h3, rfl, rfl⟩
   ·split
    ·exact fun h => absurd rfl h
    ·exact fun _ => .inl ⟨rfl, by decide, rfl, rfl⟩
theorem vpStep_form {v : VpD} {b : Int} (hv : vpOk v = true) (hb : 0 ≤ b ∧ b ≤ 255) (hk : (vpStep v b).2.Kind ≠ 0) : actForm (vpStep v b).2 := by
 revert hk
 unfold vpStep
 split
 ·exact fun h => absurd rfl h
 ·split
  ·exact fun h => absurd rfl h
  ·rename_i h1 h2
   split
   ·exact fun hk => vpPlain_form hb (by omega) hk
   ·split
    ·split
     ·exact fun h => absurd rfl h
     ·rename_i h91
      split
      ·rename_i h5; exact fun _ => .inr (.inr (.inl ⟨rfl, h5, h91, rfl, rfl⟩))
      ·exact fun h => absurd rfl h
    ·split
     ·rename_i hs
      rw [vpOk_csi (.inl hs), Bool.and_eq_true] at hv
      unfold vpCsi
      split
      ·exact fun h => absurd rfl h
      ·split
       ·exact fun h => absurd rfl h
       ·split
        ·exact fun h => absurd rfl h
        ·split
         ·rename_i h6; exact fun _ => .inr (.inr (.inr ⟨rfl, h6, hv.1⟩))
         ·split
          ·rename_i h7; exact fun _ => .inr (.inl ⟨rfl, by show (0 ≤ b ∧ b < 32) ∨ b = 127; omega, by show b ≠ 27 ∧ b ≠ 24 ∧ b ≠ 26; omega, rfl, rfl⟩)
          ·exact fun h => absurd rfl h
     ·split
      ·exact fun h => absurd rfl h
      ·exact fun h => absurd rfl h
theorem vpParse_form : ∀ {l : List UInt8} {v : VpD}, vpOk v = true → ∀ a, a ∈ (vpParse v l).2 → actForm a
 | [], v, _, a, ha => by cases ha
 | y :: r, v, h, a, ha => by
  simp only [vpParse, List.mem_append] at ha
  rcases ha with ha | ha
  ·split at ha
   ·cases ha
   ·rename_i hk; rw [List.mem_singleton] at ha; rw [ha]; exact vpStep_form h (by have := UInt8.toNat_lt y; omega) hk
  ·exact vpParse_form (vpStep_ok h) a ha
theorem oneA_self (a : ActD) : oneA [a] a = true := by show sameA a a = true; unfold sameA; simp
theorem form_ok {a : ActD} (h : actForm a) : actOk a = true := by
 obtain ⟨K, R, M, A⟩ := a
 unfold actOk actBy
 rcases h with ⟨h1, h2, h3, h4⟩ | ⟨h1, h2, h5, h3, h4⟩ | ⟨h1, h2, h5, h3, h4⟩ | ⟨h1, h2, h3⟩
 ·simp only at h1 h2 h3 h4
  subst h1 h3 h4
  rw [if_pos rfl]
  show oneA (vpParse vp0 (runeB R)).2 _ = true
  rw [vpParse_rune h2]
  exact oneA_self _
 ·simp only at h1 h2 h3 h4 h5
  subst h1 h3 h4
  have e : ((ub R).toNat : Int) = R := by rw [ub_toNat]; omega
  have hs : vpStep vp0 ((ub R).toNat : Int) = (vp0, ⟨2, R, false, []⟩) := by
   rw [e]; unfold vpStep
   rw [if_neg h5.1, if_neg (by omega), if_pos rfl]
   unfold vpPlain
   rw [if_pos (by omega)]
  rw [if_neg (show ¬ (2 : Int) = 1 by decide), if_pos rfl]
  show oneA ((if (vpStep vp0 ((ub R).toNat : Int)).2.Kind = 0 then [] else [(vpStep vp0 ((ub R).toNat : Int)).2]) ++ []) _ = true
  rw [hs]
  exact oneA_self _
 ·simp only at h1 h2 h3 h4 h5
  subst h1 h3 h4
  have e : ((ub R).toNat : Int) = R := by rw [ub_toNat]; omega
  have hs : vpStep ⟨1, false, [], []⟩ ((ub R).toNat : Int) = (vp0, ⟨3, R, false, []⟩) := by
   rw [e]; unfold vpStep
   rw [if_neg (by omega), if_neg (by omega), if_neg (by decide), if_pos rfl, if_neg h5, if_pos h2]
  rw [if_neg (show ¬ (3 : Int) = 1 by decide), if_neg (show ¬ (3 : Int) = 2 by decide), if_pos rfl]
  show oneA ([] ++ ((if (vpStep ⟨1, false, [], []⟩ ((ub R).toNat : Int)).2.Kind = 0 then [] else [(vpStep ⟨1, false, [], []⟩ ((ub R).toNat : Int)).2]) ++ [])) _ = true
  rw [hs]
  exact oneA_self _
 ·simp only at h1 h2 h3
  subst h1
  have e : ((ub R).toNat : Int) = R := by rw [ub_toNat]; omega
  have hp := pre_back (a := ⟨4, R, M, A⟩) h3
  have hs : vpStep ⟨2, M, A, []⟩ ((ub R).toNat : Int) = (vp0, ⟨4, R, M, A⟩) := by
   rw [e]; unfold vpStep
   rw [if_neg (by omega), if_neg (by omega), if_neg (show ¬ (2 : Int) = 0 by decide), if_neg (show ¬ (2 : Int) = 1 by decide), if_pos rfl]
   unfold vpCsi
   rw [if_neg (by omega), if_neg (by omega), if_neg (by omega), if_pos h2]
  rw [if_neg (show ¬ (4 : Int) = 1 by decide), if_neg (show ¬ (4 : Int) = 2 by decide), if_neg (show ¬ (4 : Int) = 3 by decide), if_pos rfl, vpParse_snoc, hp]
  simp only [hs]
  exact oneA_self _
theorem acts_ok {l : List UInt8} {a : ActD} (h : a ∈ (vpParse vp0 l).2) : actOk a = true := form_ok (vpParse_form (v := vp0) rfl a h)
theorem actT_back {a : ActD} (h : actOk a = true) : (vpParse vp0 (actBy a)).2 = [a] ∧ actBy a ≠ [] := by
 have he := oneA_eq h
 refine ⟨he, fun hh => ?_⟩
 rw [hh] at he; cases he
theorem actBy_len {a : ActD} (h : a.Args.length ≤ 8) : (actBy a).length ≤ 200 := by
 have h1 := actPre_len (a := a)
 have h2 := runeB_len a.R
 unfold actBy
 (repeat' split) <;> (try simp only [List.length_append, List.length_cons, List.length_nil]) <;> omega
theorem k37_ (A_s : Option Addr) (n_s c_s : Nat) (s : List UInt8) (w : World) (f_s : SlF encB w A_s n_s s) (hn : n_s ≤ 1048576) :
    Calls Tryd.prog 9 #[.slice A_s n_s c_s] w fun e w' => ∃ r L1, e = .returned (.agg #[i64 r.Kind, i64 r.R, .bool r.Mark, .slice r.Args.A r.Args.n r.Args.c]) ∧ St w [] L1 w' ∧ ownActR r L1 ∧ actOk r.dat = true := by
 refine enter 28 Tryd.func9 rfl Tryd.ntmps9 rfl rfl ?_
 have hs1 := St.init w
 refine WC.sr (WL.al hs1 Tryd.zeroValue33 rfl rfl (fun b2 _ hs3 => WL.nil (WC.sr (WL.r 1 hs3 [] rfl ?_))))
 refine WL.call rfl rfl rfl (Run.call Tryd.call15 rfl rfl rfl) (k1_ _ _ _ _ _ (SlF.st0 f_s hs3) ?_) ?_
 · omega
 rintro _ whs6 ⟨b4, h5, rfl, hs6⟩
 replace hs6 := hs3.callF hs6
 refine ⟨_, rfl, WL.r 1 hs6 [] rfl (WL.nil (WC.sr ?_))⟩
 refine WL.val rfl rfl rfl (Run.build rfl rfl rfl rfl (built_26)) (WL.r 1 hs6 [] rfl ?_)
 have hF7 : St _ _ ([(b4, _)] ++ _) _ := hs6
 refine WL.call rfl rfl rfl (Run.call Tryd.call16 rfl rfl rfl) (k36_ _ _ _ _ _ _ _ _ _ (hF7.own _ List.mem_cons_self).1 (SlF.st0 f_s hs6) (St.sep hF7 f_s) ?_ ?_ ?_) ?_
 · omega
 · omega
 · omega
 rintro _ whs17 ⟨A8, c9, zs10, L11, i12, h13, rfl, hs17, ho14, hl15, hi16⟩
 replace hs17 : St _ _ ((b4, _) :: (L11 ++ _)) _ := St.lend hF7 hs17
 refine ⟨_, rfl, ?_⟩
 have hs18 := ((hs17.fb b2).fb b4)
 refine WL.buildF (F := encB) hs18 ([43]) Tryd.runUnderlying22 Tryd.sizeOf5 Tryd.zeroValue5 rfl rfl rfl rfl rfl rfl rfl rfl rfl rfl rfl rfl (fun A22 c23 L19 whs20 hs20 ho21 => ?_)
 replace hs20 := St.back [_, _] hs20
 refine WL.appendG (hs20.fr L11) ho14 (SlF.src (SlF.ofOwn ho21 (hs20.ow L19)) Tryd.underlying22) Tryd.underlying22 inf5 rfl rfl rfl rfl rfl rfl rfl rfl rfl rfl ?_ (fun A27 c28 L24 whs25 hs25 ho26 => ?_)
 · first | omega | (simp only [List.length_append, List.length_singleton]; omega)
 replace hs25 := St.back [_, _] hs25
 refine WL.cl Tryd.call20 rfl (k35_ ⟨_, _, ⟨_, _, _, _⟩, ⟨_, _, _, _⟩⟩ _ _ _ _ _ ⟨(SlF.nil _ _), (by first | assumption | omega | simp), (by first | assumption | omega | (simp; omega) | simp), (SlF.nil _ _), (by first | assumption | omega | simp), (by first | assumption | omega | (simp; omega) | simp)⟩ (SlF.ofOwn ho26 (hs25.ow L24)) ?_ ?_) ?_
 iterate 2 first | assumption | rfl | omega | exact ⟨Nat.zero_le _, Nat.zero_le _⟩ | (simp only [List.length_append, List.length_singleton]; omega)
 rintro _ whs29 ⟨r0_30, L0_31, A1_32, c1_33, x1_34, L1_35, rfl, hs29, ho36, ho37, hd0_38, hd1_39⟩
 replace hs29 := hs25.callF hs29
 refine ⟨_, rfl, ?_⟩
 replace hs29 := St.assoc hs29
 replace hs29 := St.back2 [_, _] hs29
 have hpx : x1_34.map ActR.dat = (vpParse vp0 (zs10 ++ [43])).2 := hd1_39
 have hargs := vpParse_args (l := zs10 ++ [43]) (v := vp0) rfl
 have hxl : x1_34.length ≤ 1048576 := by have h9 := congrArg List.length hpx; rw [List.length_map] at h9; have h8 := vpParse_len (v := vp0) (l := zs10 ++ [43]); rw [List.length_append] at h8; have h7 : ([43] : List UInt8).length = 1 := rfl; omega
 have s1 : ∀ y, y ∈ x1_34.map ActR.dat → smAct 549755813888 y := by rw [hpx]; exact fun y hy => Nat.le_trans (areArgs_iff.1 (hargs y hy)).1 (by decide)
 refine WL.r 3 hs29 [] rfl (WL.al hs29 Tryd.zeroValue26 rfl rfl (fun b40 _ hs41 => WL.st tbk hs41 0 rfl rfl (fun _ hs42 => WL.r 1 hs42 [] rfl (WL.nil (WC.seq (fun K43 hK43 => WC.r1 hs42 [] rfl ?_))))))
 refine WC.cq rfl (fun h44 qh44 => ?_) (fun h44 qh44 => ?_)
 ·refine WC.sr ?_
  refine WL.val rfl rfl rfl (Run.build rfl rfl rfl rfl (built_33_0_1 _ _)) (WL.st tbk hs42 2 rfl rfl (fun _ hs45 => WL.nil (WC.ret (tkR ?_))))
  clear hK43
  refine retV1 rfl (resV.cellA tbk hs45 2 rfl rfl rfl rfl) (⟨⟨1, 43, false, ⟨none, 0, 0, []⟩⟩, [], rfl, hs45.nil, OwnF.nil _ _, form_ok (.inl ⟨rfl, by decide, rfl, rfl⟩)⟩)
 have hne : 0 < x1_34.length := by have h9 := h44; simp only [decide_eq_false_iff_not] at h9; omega
 refine WC.skip (hK43 _ _ (WC.sr (WL.r 4 hs42 [] rfl ?_)))
 replace hs42 := (hs42.fb b4)
 have hF46 : St _ _ ([(b4, _)] ++ _) _ := hs42
 refine WL.call rfl rfl rfl (Run.call Tryd.call21 rfl rfl rfl) (k3_ _ _ _ _ _ _ _ _ _ (hF46.own _ List.mem_cons_self).1 (SlF.st0 f_s hs42) (St.sep hF46 f_s) ?_ ?_) ?_
 · omega
 · omega
 rintro _ whs52 ⟨r47, i48, h49, rfl, hs52, hr50, hi51⟩
 replace hs52 := St.lend1 hF46 hs52
 try have hbhr50 := hr50.2 (by omega)
 refine ⟨_, rfl, WL.val rfl rfl rfl (Run.idxK (r47.toNat) Tryd.runUnderlying27 Tryd.sizeOf33 rfl rfl rfl ?_ ?_ ?_) ?_⟩
 · exact SlF.some_ (OwnN.sl ho37 (hs52.ow L1_35))
 · omega
 · omega
 refine WL.val rfl rfl rfl (Run.loadA Tryd.isAgg33 Tryd.sizeOf33 rfl rfl (SlF.whole (OwnN.sl ho37 (hs52.ow L1_35)) ?_)) ?_
 · omega
 refine WL.st tbk hs52 2 rfl rfl (fun _ hs53 => WL.nil (WC.ret (retV1 rfl (resV.cellA tbk hs53 2 rfl rfl rfl rfl) ?_)))
 obtain ⟨L0, Lb, hs9, _, hb9⟩ := OwnN.open_ (hs53.fr L1_35) ho37
 obtain ⟨La, Li, Lc, hs8, ho8, _⟩ := Bag.out (F := encActR) (i := r47.toNat) (hs9.fr Lb) hb9 (by omega)
 exact ⟨gat encActR x1_34 r47.toNat, Li, rfl, St.keep1 hs8, ho8, acts_ok (l := _) (hpx ▸ List.mem_map_of_mem (f := ActR.dat) (gat_mem (F := encActR) (by omega)))⟩
theorem k38_ (A_s : Option Addr) (n_s c_s : Nat) (s : List UInt8) (w : World) (f_s : SlF encB w A_s n_s s) (hn : n_s ≤ 1048576) :
    Calls Tryd.prog 5 #[.slice A_s n_s c_s] w fun e w' => ∃ A c zs L1, e = .returned (.slice A (List.length zs) c) ∧ St w [] L1 w' ∧ OwnF encB 5 (.slice A (List.length zs) c) zs L1 ∧ List.length zs ≤ 260 := by
 refine enter 18 Tryd.func5 rfl Tryd.ntmps5 rfl rfl ?_
 have hs1 := St.init w
 refine WC.r1 hs1 [] rfl (WC.sr (WL.r 1 hs1 [] rfl (WL.call rfl rfl rfl (Run.call Tryd.call15 rfl rfl rfl) (k1_ _ _ _ _ _ (SlF.st0 f_s hs1) ?_) ?_)))
 · omega
 rintro _ whs4 ⟨b2, h3, rfl, hs4⟩
 replace hs4 := hs1.callF hs4
 refine ⟨_, rfl, WL.r 1 hs4 [] rfl (WL.nil (WC.sr (WL.r 5 hs4 [0] rfl (WL.val rfl rfl rfl (Run.addW rfl rfl rfl) (WL.r 2 hs4 [] rfl (WL.st tbk hs4 0 rfl rfl (fun _ hs5 => ?_)))))))⟩
 refine WL.nil (WC.sr (WL.r 1 hs5 [] rfl ?_))
 have hF6 : St _ _ ([(b2, _)] ++ _) _ := hs5
 refine WL.call rfl rfl rfl (Run.call Tryd.call16 rfl rfl rfl) (k36_ _ _ _ _ _ _ _ _ _ (hF6.own _ List.mem_cons_self).1 (SlF.st0 f_s hs5) (St.sep hF6 f_s) ?_ ?_ ?_) ?_
 · omega
 · omega
 · omega
 rintro _ whs16 ⟨A7, c8, zs9, L10, i11, h12, rfl, hs16, ho13, hl14, hi15⟩
 replace hs16 : St _ _ ((b2, _) :: (L10 ++ _)) _ := St.lend hF6 hs16
 refine ⟨_, rfl, WL.r 1 hs16 [] rfl (WL.nil (WC.r1 hs16 [] rfl (WC.ret (retV1 rfl (resV.tmp rfl) (⟨_, _, zs9, _, rfl, (St.keep1 (hs16.fr L10)), ho13, hl14⟩)))))⟩
theorem k39_ (p : VpR) (A_b : Option Addr) (n_b c_b : Nat) (b : List UInt8) (w : World) (f_p : okVpR 549755813888 w p) (f_b : SlF encB w A_b n_b b) (hsm : smVp 1048576 p.dat) (hn : n_b ≤ 1048576) :
    Calls Tryd.prog 6 #[.agg #[i64 p.State, .bool p.Mark, .slice p.Args.A p.Args.n p.Args.c, .slice p.Part.A p.Part.n p.Part.c], .slice A_b n_b c_b] w fun e w' => ∃ r0 L0 A1 c1 x1 L1, e = .returned (.tuple #[.agg #[i64 r0.State, .bool r0.Mark, .slice r0.Args.A r0.Args.n r0.Args.c, .slice r0.Part.A r0.Part.n r0.Part.c], .slice A1 x1.length c1]) ∧ St w [] (L0 ++ L1) w' ∧ ownVpR r0 L0 ∧ OwnN encActR ownActR 33 (.slice A1 x1.length c1) x1 L1 ∧ r0.dat = (vpBytes p.dat b).1 ∧ x1.map ActR.dat = (vpBytes p.dat b).2 := by
 have nb_p_Args := f_p.Args_n
 have nl_p_Args := f_p.Args.len
 have nb_p_Part := f_p.Part_n
 have nl_p_Part := f_p.Part.len
 have hsB : smVp 549755813888 p.dat := ⟨Nat.le_trans hsm.1 (by decide), Nat.le_trans hsm.2 (by decide)⟩
 have hsa : p.Args.xs.length ≤ 1048576 := hsm.1
 have hsp : p.Part.xs.length ≤ 1048576 := hsm.2
 refine enter 15 Tryd.func6 rfl Tryd.ntmps6 rfl rfl ?_
 have hs1 := St.init w
 refine WC.sr (WL.bx hs1 rfl (fun b2 _ hs3 => WL.al hs3 Tryd.zeroValue26 rfl rfl (fun b4 _ hs5 => WL.r 1 hs5 [] rfl (WL.nil (WC.seq (fun K6 hK6 => WC.sr (WL.r 1 hs5 [1] rfl ?_)))))))
 refine WL.cl Tryd.call8 rfl (k22_ p _ (okVpR.st0 f_p hs5)) ?_
 rintro _ whs7 ⟨rfl, hs7⟩
 replace hs7 := hs5.call0 hs7
 refine ⟨_, rfl, WL.r 1 hs7 [] rfl (WL.nil (WC.cq rfl (fun h8 qh8 => ?_) (fun h8 qh8 => ?_)))⟩
 ·refine WC.sr ?_
  refine WL.val rfl rfl rfl (Run.build rfl rfl rfl rfl (built_26)) (WL.st tbk hs7 0 rfl rfl (fun _ hs9 => WL.r 1 hs9 [] rfl (WL.nil (WC.ret (tkR ?_)))))
  clear hK6
  refine retV2 rfl (resV.cellA tbk hs9 0 rfl rfl rfl rfl) (resV.tmp rfl) ?_
  have hvb : vpBytes p.dat b = (vp0, []) := by unfold vpBytes; rw [if_neg (by simpa using h8)]
  obtain ⟨L13, hs12, ho14⟩ := ownVpR.fl hs9 (OwnF.nil _ _) (OwnF.nil _ _)
  have hs15 := ((hs12.fb b2).fb b4)
  refine ⟨⟨0, false, ⟨none, 0, 0, []⟩, ⟨none, 0, 0, []⟩⟩, _, none, 0, [], _, rfl, (St.drop ((hs15.fr ([] : Hp)).fr L13) (List.Sublist.append_left (List.sublist_append_left ([] : Hp) _) L13)), ?_, ?_, ?_, ?_⟩
  · exact (by exact ho14)
  · exact (OwnN.nil _ _ _)
  · rw [hvb]; rfl
  · rw [hvb]; rfl
 have hok : vpOk p.dat = true := by simpa using h8
 refine WC.skip (hK6 _ _ (WC.sr (WL.r 2 hs7 [1] rfl ?_)))
 refine WL.cl Tryd.call17 rfl (k34_ p _ _ _ _ _ (okVpR.st0 f_p hs7) (SlF.st0 f_b hs7) ?_ ?_ ?_) ?_
 iterate 3 first | assumption | rfl | omega
 rintro _ whs17 ⟨r0_18, L0_19, A1_20, c1_21, x1_22, L1_23, rfl, hs17, ho24, ho25, hd0_26, hd1_27⟩
 replace hs17 := hs7.callF hs17
 refine ⟨_, rfl, ?_⟩
 replace hs17 := St.assoc hs17
 replace hs17 := St.back2 [_, _] hs17
 refine WL.r 2 hs17 [] rfl (WL.st tbk hs17 0 rfl rfl (fun _ hs28 => WL.r 1 hs28 [] rfl (WL.nil (WC.ret (retV2 rfl (resV.cellA tbk hs28 0 rfl rfl rfl rfl) (resV.tmp rfl) ?_)))))
 have hvb : vpBytes p.dat b = vpParse p.dat b := by unfold vpBytes; rw [if_pos hok]
 refine ⟨r0_18, _, _, _, _, _, rfl, (St.drop ((hs28.fr L1_23).fr L0_19) (List.Sublist.append_left (List.sublist_append_left L1_23 _) L0_19)), ?_, ?_, ?_, ?_⟩
 · exact ho24
 · exact ho25
 · rw [hvb]; exact hd0_26
 · rw [hvb]; exact hd1_27
theorem k40_ (A_a : Option Addr) (n_a c_a : Nat) (a : List Int) (A_b : Option Addr) (n_b c_b : Nat) (b : List Int) (w : World) (f_a : SlF encI w A_a n_a a) (f_b : SlF encI w A_b n_b b) (hn : n_a ≤ 268435456) (hab : a = b) :
    Calls Tryd.prog 7 #[.slice A_a n_a c_a, .slice A_b n_b c_b] w fun e w' => e = .returned (.bool true) ∧ St w [] [] w' := by
 subst hab
 obtain rfl : n_a = n_b := f_a.len.symm.trans f_b.len
 refine enter 26 Tryd.func7 rfl Tryd.ntmps7 rfl rfl ?_
 have hs1 := St.init w
 refine WC.r1 hs1 [] rfl (WC.seq (fun K2 hK2 => WC.r1 hs1 [] rfl (WC.condF rfl (by simp) (WC.skip (hK2 _ _ (WC.seq (fun K4 hK4 => WC.r1 hs1 [] rfl ?_)))))))
 refine WC.block (WC.lS [0, 1, 10, 12] rfl hs1 (fun k_ f w' => ∃ (i : Nat), k_ = n_a - i ∧ (i ≤ n_a) ∧ Sub [(13, .int .i64 i)] f) ((fun (i : Nat) => n_a - i) (0)) ?_ ?_)
 ·refine ⟨0, rfl, ?_, ⟨rfl, trivial⟩⟩
  · exact Nat.zero_le _
 clear hs1
 rintro _ f w ⟨i, rfl, p0, hG⟩ hF hs5
 refine WC.sub _ (hG.app hF) ?_
 clear hG hF
 refine WC.r1 hs5 [] rfl (WC.seq (fun K6 hK6 => ?_))
 refine WC.cD rfl (fun qh7 => ?_) (fun qh7 => ?_)
 ·refine WC.skip (hK6 _ _ (WC.seq (fun K8 hK8 => WC.block (WC.r1 hs5 [] rfl (WC.sq1 hs5 (WQ.r 2 [] rfl ?_))))))
  refine WQ.val rfl rfl rfl (fun w_ hs_ => (Run.idxN Tryd.runUnderlying24 Tryd.sizeOf3 rfl rfl rfl ?_ ?_ ?_)) ?_
  · exact SlF.some_ (SlF.st0 f_a (hs_ : St _ _ _ _))
  · omega
  · omega
  refine WQ.val rfl rfl rfl (fun w_ hs_ => (Run.load Tryd.isAgg3 rfl rfl (SlF.one1 (SlF.st0 f_a (hs_ : St _ _ _ _)) ?_ rfl))) ?_
  · omega
  refine WQ.r 2 [] rfl ?_
  refine WQ.val rfl rfl rfl (fun w_ hs_ => (Run.idxN Tryd.runUnderlying24 Tryd.sizeOf3 rfl rfl rfl ?_ ?_ ?_)) ?_
  · exact SlF.some_ (SlF.st0 f_b (hs_ : St _ _ _ _))
  · omega
  · omega
  refine WQ.val rfl rfl rfl (fun w_ hs_ => (Run.load Tryd.isAgg3 rfl rfl (SlF.one1 (SlF.st0 f_b (hs_ : St _ _ _ _)) ?_ rfl))) ?_
  · omega
  refine WQ.r 1 [] rfl (WQ.nil (fun _ (hs9 : St _ _ _ _) => WC.condF rfl (by simp) (WC.skip (hK8 _ _ (WC.region (WL.r 2 hs9 [] rfl (WL.nil ?_)))))))
  refine tkN (⟨sbF rfl, hs9, _, ?_, i + 1, rfl, ?_, ⟨rfl, trivial⟩⟩)
  · omega
  · omega
 refine WC.exit (hK4 _ _ (WC.r1 hs5 [] rfl (WC.ret (rtv rfl rfl hs5 ?_))))
 rfl
open Go.Shelf
def Tryd.lays156_ren : Go.Shelf.Ren := ⟨fun | 156 => 25 | 165 => 46 | 166 => 47 | 169 => 48 | 240 => 62 | 241 => 63 | 276 => 69 | 277 => 70 | n => n, fun | 31 => 52 | 9 => 9 | 3 => 3 | 4 => 4 | 0 => 0 | 20 => 20 | 72 => 68 | 76 => 72 | 70 => 66 | 37 => 22 | 75 => 71 | 127 => 78 | 164 => 84 | 5 => 5 | 80 => 74 | n => n, fun | n => n⟩
theorem Tryd.lays156 : Go.Proofs.Lays.n156 Tryd.prog Tryd.lays156_ren := {
  mixed := by kernel_rfl
  f156 := Tryd.func25.trans (congrArg some (by kernel_rfl))
  f165 := Tryd.func46.trans (congrArg some (by kernel_rfl))
  f166 := Tryd.func47.trans (congrArg some (by kernel_rfl))
  f169 := Tryd.func48.trans (congrArg some (by kernel_rfl))
  f240 := Tryd.func62.trans (congrArg some (by kernel_rfl))
  f241 := Tryd.func63.trans (congrArg some (by kernel_rfl))
  f276 := Tryd.func69.trans (congrArg some (by kernel_rfl))
  f277 := Tryd.func70.trans (congrArg some (by kernel_rfl))
  t0 := Tryd.underlying0
  a0 := Tryd.isAgg0
  z0 := Tryd.sizeOf0
  v0 := Tryd.zeroValue0
  t3 := Tryd.underlying3
  a3 := Tryd.isAgg3
  z3 := Tryd.sizeOf3
  v3 := Tryd.zeroValue3
  t4 := Tryd.underlying4
  a4 := Tryd.isAgg4
  z4 := Tryd.sizeOf4
  v4 := Tryd.zeroValue4
  t9 := Tryd.underlying9
  a9 := Tryd.isAgg9
  z9 := Tryd.sizeOf9
  v9 := Tryd.zeroValue9
  t20 := Tryd.underlying20
  a20 := Tryd.isAgg20
  z20 := Tryd.sizeOf20
  v20 := Tryd.zeroValue20
  t31 := Tryd.underlying52
  a31 := Tryd.isAgg52
  z31 := Tryd.sizeOf52
  v31 := Tryd.zeroValue52
  t37 := Tryd.underlying22
  a37 := Tryd.isAgg22
  z37 := Tryd.sizeOf22
  v37 := Tryd.zeroValue22
  t70 := Tryd.underlying66
  a70 := Tryd.isAgg66
  z70 := Tryd.sizeOf66
  v70 := Tryd.zeroValue66
  t72 := Tryd.underlying68
  a72 := Tryd.isAgg68
  z72 := Tryd.sizeOf68
  v72 := Tryd.zeroValue68
  t75 := Tryd.underlying71
  a75 := Tryd.isAgg71
  z75 := Tryd.sizeOf71
  v75 := Tryd.zeroValue71
  t76 := Tryd.underlying72
  a76 := Tryd.isAgg72
  z76 := Tryd.sizeOf72
  v76 := Tryd.zeroValue72
  t127 := Tryd.underlying78
  a127 := Tryd.isAgg78
  z127 := Tryd.sizeOf78
  v127 := Tryd.zeroValue78
  t164 := Tryd.underlying84
  a164 := Tryd.isAgg84
  z164 := Tryd.sizeOf84
  v164 := Tryd.zeroValue84 }
theorem Tryd.Builder_Extra_156 : Builder.Extra Tryd.prog Tryd.lays156_ren := {
  sizeBuilder := by kernel_rfl
  liesBuilder := by kernel_rfl
  t5 := Tryd.underlying5
  a5 := Tryd.isAgg5
  z5 := Tryd.sizeOf5
  v5 := Tryd.zeroValue5
  infoByte := by kernel_rfl
  cellsByte := by kernel_rfl
  sizeByte := by kernel_rfl
  neB5 := by decide }
open Go.RowKit in
theorem Tryd.strings_Join_none (a : Option Addr) (c : Nat) (sep : ByteArray) (w : World) :
    Calls Tryd.prog 25 #[.slice a 0 c, .string sep] w fun e w' => e = .returned (.string ⟨#[]⟩) ∧ w' = w := Any.strings_Join_none Tryd.lays156 Tryd.Builder_Extra_156 a c sep w
open Go.RowKit in
theorem Tryd.strings_Join (bk o c : Nat) (xs : List ByteArray) (sep : ByteArray) (w : World) (hcells : ∀ (j : Nat) x, xs[j]? = some x → w.cell? ⟨bk, o + j, none⟩ = some (.string x)) (hbk : bk < w.heap.size) (hN : xs.length ≤ 140737488355328) (hcap : xs.length ≤ c) (hlen : (Lib.join (xs.map (·.data.toList)) sep.data.toList).length ≤ 140737488355328) :
    Calls Tryd.prog 25 #[.slice (some ⟨bk, o, none⟩) xs.length c, .string sep] w fun e w' => e = .returned (.string ⟨(Lib.join (xs.map (·.data.toList)) sep.data.toList).toArray⟩) ∧ Below w.heap.size w w' := Any.strings_Join Tryd.lays156 Tryd.Builder_Extra_156 bk o c xs sep w hcells hbk hN hcap hlen
def Tryd.laysM171_ren : Go.Shelf.Ren := ⟨fun | 171 => 45 | 243 => 61 | 246 => 68 | 283 => 72 | 284 => 73 | 285 => 74 | 286 => 75 | 129 => 77 | 317 => 76 | 318 => 78 | 319 => 79 | 320 => 80 | 337 => 81 | 338 => 82 | n => n, fun | 3 => 3 | 9 => 9 | 2 => 2 | 4 => 4 | 171 => 88 | 0 => 0 | 53 => 89 | 37 => 22 | 5 => 5 | 173 => 92 | 212 => 96 | 51 => 97 | 20 => 20 | 213 => 98 | 46 => 75 | 232 => 101 | 233 => 102 | n => n, fun | 17 => 1 | 18 => 2 | 19 => 3 | n => n⟩
theorem Tryd.laysM171 : Go.Proofs.LaysM.n171 Tryd.prog Tryd.laysM171_ren := {
  mixed := by kernel_rfl
  f129 := Tryd.func77.trans (congrArg some (by kernel_rfl))
  f171 := Tryd.func45.trans (congrArg some (by kernel_rfl))
  f243 := Tryd.func61.trans (congrArg some (by kernel_rfl))
  f246 := Tryd.func68.trans (congrArg some (by kernel_rfl))
  f283 := Tryd.func72.trans (congrArg some (by kernel_rfl))
  f284 := Tryd.func73.trans (congrArg some (by kernel_rfl))
  f285 := Tryd.func74.trans (congrArg some (by kernel_rfl))
  f286 := Tryd.func75.trans (congrArg some (by kernel_rfl))
  f317 := Tryd.func76.trans (congrArg some (by kernel_rfl))
  f318 := Tryd.func78.trans (congrArg some (by kernel_rfl))
  f319 := Tryd.func79.trans (congrArg some (by kernel_rfl))
  f320 := Tryd.func80.trans (congrArg some (by kernel_rfl))
  f337 := Tryd.func81.trans (congrArg some (by kernel_rfl))
  f338 := Tryd.func82.trans (congrArg some (by kernel_rfl))
  t0 := Tryd.underlying0
  a0 := Tryd.isAgg0
  z0 := Tryd.sizeOf0
  v0 := Tryd.zeroValue0
  t2 := Tryd.underlying2
  a2 := Tryd.isAgg2
  z2 := Tryd.sizeOf2
  v2 := Tryd.zeroValue2
  t3 := Tryd.underlying3
  a3 := Tryd.isAgg3
  z3 := Tryd.sizeOf3
  v3 := Tryd.zeroValue3
  t4 := Tryd.underlying4
  a4 := Tryd.isAgg4
  z4 := Tryd.sizeOf4
  v4 := Tryd.zeroValue4
  t5 := Tryd.underlying5
  a5 := Tryd.isAgg5
  z5 := Tryd.sizeOf5
  v5 := Tryd.zeroValue5
  t9 := Tryd.underlying9
  a9 := Tryd.isAgg9
  z9 := Tryd.sizeOf9
  v9 := Tryd.zeroValue9
  t20 := Tryd.underlying20
  a20 := Tryd.isAgg20
  z20 := Tryd.sizeOf20
  v20 := Tryd.zeroValue20
  t37 := Tryd.underlying22
  a37 := Tryd.isAgg22
  z37 := Tryd.sizeOf22
  v37 := Tryd.zeroValue22
  t46 := Tryd.underlying75
  a46 := Tryd.isAgg75
  z46 := Tryd.sizeOf75
  v46 := Tryd.zeroValue75
  t51 := Tryd.underlying97
  a51 := Tryd.isAgg97
  z51 := Tryd.sizeOf97
  v51 := Tryd.zeroValue97
  t53 := Tryd.underlying89
  a53 := Tryd.isAgg89
  z53 := Tryd.sizeOf89
  v53 := Tryd.zeroValue89
  t171 := Tryd.underlying88
  a171 := Tryd.isAgg88
  z171 := Tryd.sizeOf88
  v171 := Tryd.zeroValue88
  t173 := Tryd.underlying92
  a173 := Tryd.isAgg92
  z173 := Tryd.sizeOf92
  v173 := Tryd.zeroValue92
  t212 := Tryd.underlying96
  a212 := Tryd.isAgg96
  z212 := Tryd.sizeOf96
  v212 := Tryd.zeroValue96
  t213 := Tryd.underlying98
  a213 := Tryd.isAgg98
  z213 := Tryd.sizeOf98
  t232 := Tryd.underlying101
  a232 := Tryd.isAgg101
  z232 := Tryd.sizeOf101
  v232 := Tryd.zeroValue101
  t233 := Tryd.underlying102
  a233 := Tryd.isAgg102
  z233 := Tryd.sizeOf102
  v233 := Tryd.zeroValue102
  g17 := by kernel_rfl
  g18 := by kernel_rfl
  g19 := by kernel_rfl
  i0 := by kernel_rfl
  i2 := by kernel_rfl
  i3 := by kernel_rfl
  i4 := by kernel_rfl
  i5 := by kernel_rfl
  i9 := by kernel_rfl
  i20 := by kernel_rfl
  i37 := by kernel_rfl
  i46 := by kernel_rfl
  i51 := by kernel_rfl
  i53 := by kernel_rfl
  i171 := by kernel_rfl
  i173 := by kernel_rfl
  i212 := by kernel_rfl
  i232 := by kernel_rfl
  i233 := by kernel_rfl
  m17 := by kernel_rfl
  m18 := by kernel_rfl
  m19 := by kernel_rfl }
open Go.RowKit Go.Sort Go.Lib in
theorem Tryd.strconv_Itoa (n : Int) (h0 : -9223372036854775808 ≤ n) (h1 : n ≤ 9223372036854775807) (w : World) (htab : Lib.TabIs Tryd.prog w "internal/strconv.uint64pow10" .u64 Lib.pow10Tab) :
    Calls Tryd.prog 45 #[.int .i64 n] w fun e w' => e = .returned (.string ⟨(Lib.itoa n).toArray⟩) ∧ ∃ k os, w' = grow (w.drewN k) os := Any.strconv_Itoa Tryd.laysM171 n h0 h1 w htab
def TabOk (w : World) : Prop := Go.Lib.TabIs Tryd.prog w "internal/strconv.uint64pow10" .u64 Go.Lib.pow10Tab
theorem tab_st {w w' : World} {L : Hp} (h : TabOk w) (hs : St w [] L w') : TabOk w' := by
  have hgn : Tryd.prog.globalNamed "internal/strconv.uint64pow10" = some 1 := by kernel_rfl
  unfold TabOk Go.Lib.TabIs World.var? at h ⊢
  rw [hgn] at h ⊢
  simp only [Option.bind_some] at h ⊢
  have hlt : 1 < w.heap.size := by
    rcases Nat.lt_or_ge 1 w.heap.size with h' | h'
    · exact h'
    · rw [Array.getElem?_eq_none h'] at h; cases h
  rw [hs.keep 1 hlt (by simp)]
  exact h
theorem st_grow (w : World) (k : Nat) (os : Array Obj) : St w [] [] (Go.Sort.grow (w.drewN k) os) := ⟨rfl, rfl, rfl, by show w.heap.size ≤ (w.heap ++ os).size; rw [Array.size_append]; omega, fun k hk _ => by show (w.heap ++ os)[k]? = _; rw [Array.getElem?_append_left hk], (fun _ h => by cases h), List.nodup_nil⟩
theorem k41_ (n : Int) (w : World) (h0 : 0 ≤ n ∧ n ≤ 4294967295) (ht : TabOk w) : Calls Tryd.prog 45 #[i64 n] w fun e w' => e = .returned (.string (numBA n)) ∧ St w [] [] w' := by
  refine (Tryd.strconv_Itoa n (by omega) (by omega) w ht).mono ?_
  rintro e w' ⟨rfl, k, os, rfl⟩
  refine ⟨?_, st_grow _ _ _⟩
  unfold numBA numT
  rw [if_pos h0, show Go.Lib.itoa n = Go.Lib.decDigits n.toNat from by unfold Go.Lib.itoa; rw [if_neg (by omega)]]
theorem k42_ (A_s : Option Addr) (n_s c_s : Nat) (s : List ByteArray) (sep : ByteArray) (w : World) (f_s : SlF encS w A_s n_s s) (hc : n_s ≤ c_s) (hA : 0 < n_s → ∀ x, A_s = some x → x.spot = none) (hN : n_s ≤ 1000000) (hl : (Go.Lib.join (s.map (·.data.toList)) sep.data.toList).length ≤ 140737488355328) :
    Calls Tryd.prog 25 #[.slice A_s n_s c_s, .string sep] w fun e w' => e = .returned (.string ⟨(Go.Lib.join (s.map (·.data.toList)) sep.data.toList).toArray⟩) ∧ St w [] [] w' := by
  have hln := f_s.len
  by_cases h0 : n_s = 0
  · subst h0
    obtain rfl : s = [] := List.eq_nil_of_length_eq_zero hln
    refine (Tryd.strings_Join_none A_s c_s sep w).mono ?_
    rintro e w' ⟨rfl, rfl⟩
    exact ⟨rfl, St.init _⟩
  · obtain ⟨⟨b, o, sp⟩, rfl⟩ := Option.isSome_iff_exists.1 (f_s.some_ (by omega))
    obtain rfl : sp = none := hA (by omega) _ rfl
    subst hln
    have hcell : ∀ (j : Nat) x, s[j]? = some x → w.cell? ⟨b, o + j, none⟩ = some (.string x) := by
      intro j x hx
      have hj := (List.getElem?_eq_some_iff.1 hx).1
      have h1 := f_s.one1 (v := .string x) hj (by have e := gat_get (F := encS) hj; rw [hx] at e; rw [← Option.some.inj e]; rfl)
      have e1 : (adr (some (⟨b, o, none⟩ : Addr))).add (j * encS.sz) = ⟨b, o + j, none⟩ := by show Addr.add ⟨b, o, none⟩ (j * 1) = _; rw [Nat.mul_one]; unfold Addr.add; split <;> simp_all
      rw [e1] at h1; exact h1
    have hlt : b < w.heap.size := by
      have hx : s[0]? = some (s[0]'(by omega)) := List.getElem?_eq_getElem _
      exact cell?_lt (hcell 0 _ hx)
    refine (Tryd.strings_Join b o c_s s sep w hcell hlt (by omega) hc hl).mono ?_
    rintro e w' ⟨rfl, hb⟩
    exact ⟨rfl, St.ofBelow hb⟩
theorem nthL_eq : ∀ (L : Hp) (i : Nat), nthL L i = L[i]?
 | [], _ => rfl
 | _ :: _, 0 => rfl
 | _ :: L, i + 1 => (nthL_eq L i).trans (by simp)
section
variable {P : Program} {w0 w : World} {T : List Nat} {L : Hp} {n : Nat} {ol : List Oper} {o : Oper} {rest : List Oper} {f : Fr} {d : Nat} {K : Fr → World → Prop}
theorem St.neq (h : St w0 T L w) {i j : Nat} {p q : Nat × Obj} (hi : nthL L i = some p) (hj : nthL L j = some q) (hij : i ≠ j) : p.1 ≠ q.1 := by
 intro he
 rw [nthL_eq] at hi hj
 have h1 : (L.map (·.1))[i]? = some p.1 := by rw [List.getElem?_map, hi]; rfl
 have h2 : (L.map (·.1))[j]? = some q.1 := by rw [List.getElem?_map, hj]; rfl
 exact hij ((List.getElem?_inj (List.getElem?_eq_some_iff.1 h1).1 h.nodup).1 (h1.trans (he ▸ h2.symm)))
end
def BM (es : Array MapEntry) (q : Int → Bool) : Prop :=
 (∀ x ∈ es.toList, ∃ n v, x.key = .int .i64 n ∧ x.val = .bool v ∧ q n = v) ∧ (∀ n, q n = true → ∃ x ∈ es.toList, x.key = .int .i64 n)
theorem BM.nil : BM #[] (fun _ => false) := ⟨by simp, by simp⟩
theorem BM.put {es : Array MapEntry} {q : Int → Bool} (h : BM es q) {n : Int} {v : Bool} {clock : Nat} (hn : ∀ x ∈ es.toList, x.key ≠ .int .i64 n) : BM (es.push { key := .int .i64 n, val := .bool v, born := clock }) (fun m => if m = n then v else q m) := by
 refine ⟨fun x hx => ?_, fun m hm => ?_⟩
 ·simp only [Array.toList_push, List.mem_append, List.mem_singleton] at hx
  rcases hx with hx | rfl
  ·obtain ⟨m, u, hk, hv, hq⟩ := h.1 x hx
   refine ⟨m, u, hk, hv, ?_⟩
   show (if m = n then v else q m) = u
   rw [if_neg (fun e => hn x hx (by rw [hk, e]))]; exact hq
  ·exact ⟨n, v, rfl, rfl, by simp⟩
 ·by_cases he : m = n
  ·subst he
   exact ⟨{ key := .int .i64 m, val := .bool v, born := clock }, by simp, rfl⟩
  ·simp only [if_neg he] at hm
   obtain ⟨x, hx, hk⟩ := h.2 m hm
   exact ⟨x, by simp [hx], hk⟩
theorem BM.set {es : Array MapEntry} {q : Int → Bool} (h : BM es q) {n : Int} {v : Bool} {j : Nat} {e : MapEntry} (hj : es[j]? = some e) (hk : e.key = .int .i64 n) (hu : (es.toList.map (·.key)).Nodup) : BM (es.modify j fun e => { e with key := .int .i64 n, val := .bool v }) (fun m => if m = n then v else q m) := by
 have hmem : ∀ x, x ∈ (es.modify j fun e => { e with key := .int .i64 n, val := .bool v }).toList ↔ ∃ i y, es[i]? = some y ∧ x = if i = j then { y with key := .int .i64 n, val := .bool v } else y := by
  intro x
  rw [Array.mem_toList_iff, Array.mem_iff_getElem?]
  constructor
  ·rintro ⟨i, hi⟩
   rw [Array.getElem?_modify] at hi
   by_cases hij : j = i
   ·rw [if_pos hij] at hi
    obtain ⟨y, hy, rfl⟩ := Option.map_eq_some_iff.1 hi
    exact ⟨i, y, hy, by rw [if_pos hij.symm]⟩
   ·rw [if_neg hij] at hi
    exact ⟨i, x, hi, by rw [if_neg (fun h => hij h.symm)]⟩
  ·rintro ⟨i, y, hy, rfl⟩
   refine ⟨i, ?_⟩
   rw [Array.getElem?_modify]
   by_cases hij : j = i
   ·subst hij; rw [if_pos rfl, hy, if_pos rfl]; rfl
   ·rw [if_neg hij, hy, if_neg (fun h => hij h.symm)]
 have huniq : ∀ (i : Nat) (y : MapEntry), es[i]? = some y → y.key = .int .i64 n → i = j := by
  intro i y hy hky
  have e1 : (es.toList.map (·.key))[i]? = some (.int .i64 n) := by rw [List.getElem?_map, Array.getElem?_toList, hy, ← hky]; rfl
  have e2 : (es.toList.map (·.key))[j]? = some (.int .i64 n) := by rw [List.getElem?_map, Array.getElem?_toList, hj, ← hk]; rfl
  exact (List.getElem?_inj (List.getElem?_eq_some_iff.1 e1).1 hu).1 (e1.trans e2.symm)
 refine ⟨fun x hx => ?_, fun m hm => ?_⟩
 ·obtain ⟨i, y, hy, rfl⟩ := (hmem x).1 hx
  by_cases hij : i = j
  ·rw [if_pos hij]; exact ⟨n, v, rfl, rfl, by simp⟩
  ·rw [if_neg hij]
   obtain ⟨m, u, hk', hv, hq⟩ := h.1 y (by rw [← Array.getElem?_toList] at hy; exact List.mem_of_getElem? hy)
   refine ⟨m, u, hk', hv, ?_⟩
   show (if m = n then v else q m) = u
   rw [if_neg (fun he => hij (huniq i y hy (by rw [hk', he])))]; exact hq
 ·by_cases he : m = n
  ·subst he
   exact ⟨_, (hmem _).2 ⟨j, e, hj, rfl⟩, by rw [if_pos rfl]⟩
  ·simp only [if_neg he] at hm
   obtain ⟨x, hx, hkx⟩ := h.2 m hm
   obtain ⟨i, hi⟩ := List.mem_iff_getElem?.1 hx
   rw [Array.getElem?_toList] at hi
   by_cases hij : i = j
   ·subst hij
    rw [hj] at hi; cases hi
    rw [hk] at hkx; cases hkx; exact absurd rfl he
   ·exact ⟨x, (hmem x).2 ⟨i, x, hi, by rw [if_neg hij]⟩, hkx⟩
section
variable {P : Program} {w0 w : World} {T : List Nat} {L : Hp} {n : Nat} {ol : List Oper} {o : Oper} {rest : List Oper} {f : Fr} {d : Nat} {K : Fr → World → Prop}
theorem Run.addS {t t' : TypeId} {x y : Operand} {a b : ByteArray} (ho : o.op = .binOp .add t x y t') (hx : ev f x = some (.string a)) (hy : ev f y = some (.string b)) (hb : a.size + b.size ≤ 9223372036854775807) : Run P o f w (.value (.string (a ++ b))) w := fun ρ hρ => by
 have h : ¬ (((a.size + b.size : Nat) : Int) > IntKind.i64.max) := by
  have e : IntKind.i64.max = 9223372036854775807 := rfl
  rw [e]; omega
 simp only [Int.natCast_add] at h
 simp [execOp, ho, hρ _ _ hx, hρ _ _ hy, eqGuard, binOp, Op.stringOp, h]
 omega
end
theorem k43_ (n : Int) (w : World) :
    Calls Tryd.prog 44 #[i64 n] w fun e w' => e = .returned (.bool (isNumB n)) ∧ St w [] [] w' := by
 refine enter 5 Tryd.func44 rfl Tryd.ntmps44 rfl rfl ?_
 have hs1 := St.init w
 refine WC.r1 hs1 [] rfl (WC.sr (WL.r 1 hs1 [] rfl (WL.cl Tryd.call23 rfl (k0_ _ _ _ _) ?_)))
 rintro _ whs2 ⟨rfl, hs2⟩
 replace hs2 := hs1.call0 hs2
 refine ⟨_, rfl, WL.r 1 hs2 [] rfl (WL.nil (WC.ret (rtv rfl rfl hs2 ?_)))⟩
 simp [isNumB, within]
theorem k44_ (n : Int) (w : World) (ht : TabOk w) :
    Calls Tryd.prog 24 #[i64 n] w fun e w' => e = .returned (.string (numBA n)) ∧ St w [] [] w' := by
 refine enter 8 Tryd.func24 rfl Tryd.ntmps24 rfl rfl ?_
 have hs1 := St.init w
 refine WC.r1 hs1 [] rfl (WC.seq (fun K2 hK2 => WC.sr (WL.r 1 hs1 [] rfl (WL.cl Tryd.call44 rfl (k43_ _ _) ?_))))
 rintro _ whs3 ⟨rfl, hs3⟩
 replace hs3 := hs1.call0 hs3
 refine ⟨_, rfl, WL.r 1 hs3 [] rfl (WL.nil (WC.cq rfl (fun h4 qh4 => ?_) (fun h4 qh4 => ?_)))⟩
 ·have hn : ¬ (0 ≤ n ∧ n ≤ 4294967295) := by have h9 := h4; simp [isNumB] at h9; omega
  refine WC.r1 hs3 [] rfl (WC.ret (tkR ?_))
  clear hK2
  refine rtv rfl rfl hs3 ?_
  unfold numBA numT; rw [if_neg hn]
 have hn : 0 ≤ n ∧ n ≤ 4294967295 := by have h9 := h4; simp [isNumB] at h9; omega
 refine WC.skip (hK2 _ _ (WC.sr (WL.r 1 hs3 [] rfl ?_)))
 refine WL.cl Tryd.call45 rfl (k41_ _ _ ?_ ?_) ?_
 · first | omega | assumption | exact tab_st ht (by assumption)
 · first | assumption | omega | exact tab_st ht (by assumption)
 rintro _ whs5 ⟨rfl, hs5⟩
 replace hs5 := hs3.call0 hs5
 refine ⟨_, rfl, WL.r 1 hs5 [] rfl (WL.nil (WC.ret (rtv rfl rfl hs5 ?_)))⟩
 rfl
theorem k45_ (A_a : Option Addr) (n_a c_a : Nat) (a : List Int) (A_b : Option Addr) (n_b c_b : Nat) (b : List Int) (w : World) (f_a : SlF encI w A_a n_a a) (f_b : SlF encI w A_b n_b b) (hn : n_a ≤ 1099511627776) :
    Calls Tryd.prog 49 #[.slice A_a n_a c_a, .slice A_b n_b c_b] w fun e w' => e = .returned (.bool (decide (a = b))) ∧ St w [] [] w' := by
 have hla := f_a.len
 have hlb := f_b.len
 refine enter 26 Tryd.func49 rfl Tryd.ntmps49 rfl rfl ?_
 have hs1 := St.init w
 refine WC.r1 hs1 [] rfl (WC.seq (fun K2 hK2 => WC.r1 hs1 [] rfl ?_))
 refine WC.cq rfl (fun h3 qh3 => ?_) (fun h3 qh3 => ?_)
 ·refine WC.r1 hs1 [] rfl (WC.ret (tkR ?_))
  clear hK2
  refine rtv rfl rfl hs1 ?_
  refine congrArg Value.bool ?_; symm; rw [decide_eq_false_iff_not]; intro he; subst he; omega
 refine WC.skip (hK2 _ _ (WC.seq (fun K4 hK4 => WC.r1 hs1 [] rfl (WC.block ?_))))
 refine WC.lS [0, 1, 10, 12] rfl hs1 (fun k_ f w' => ∃ (i : Nat), k_ = n_a - i ∧ (i ≤ n_a) ∧ (∀ j, j < i → gat encI a j = gat encI b j) ∧ Sub [(13, .int .i64 i)] f) ((fun (i : Nat) => n_a - i) (0)) ?_ ?_
 ·refine ⟨0, rfl, ?_, ?_, ⟨rfl, trivial⟩⟩
  · exact Nat.zero_le _
  · exact fun j hj => absurd hj (by omega)
 clear hs1
 rintro _ f w ⟨i, rfl, p0, p1, hG⟩ hF hs5
 refine WC.sub _ (hG.app hF) ?_
 clear hG hF
 refine WC.r1 hs5 [] rfl (WC.seq (fun K6 hK6 => ?_))
 refine WC.cq rfl (fun h7 qh7 => ?_) (fun h7 qh7 => ?_)
 ·refine WC.skip (hK6 _ _ (WC.seq (fun K8 hK8 => WC.block (WC.r1 hs5 [] rfl (WC.sq1 hs5 (WQ.r 2 [] rfl ?_))))))
  refine WQ.val rfl rfl rfl (fun w_ hs_ => (Run.idxN Tryd.runUnderlying24 Tryd.sizeOf3 rfl rfl rfl ?_ ?_ ?_)) ?_
  · exact SlF.some_ (SlF.st0 f_a (hs_ : St _ _ _ _))
  · omega
  · omega
  refine WQ.val rfl rfl rfl (fun w_ hs_ => (Run.load Tryd.isAgg3 rfl rfl (SlF.one1 (SlF.st0 f_a (hs_ : St _ _ _ _)) ?_ rfl))) ?_
  · omega
  refine WQ.r 2 [] rfl ?_
  refine WQ.val rfl rfl rfl (fun w_ hs_ => (Run.idxN Tryd.runUnderlying24 Tryd.sizeOf3 rfl rfl rfl ?_ ?_ ?_)) ?_
  · exact SlF.some_ (SlF.st0 f_b (hs_ : St _ _ _ _))
  · omega
  · omega
  refine WQ.val rfl rfl rfl (fun w_ hs_ => (Run.load Tryd.isAgg3 rfl rfl (SlF.one1 (SlF.st0 f_b (hs_ : St _ _ _ _)) ?_ rfl))) ?_
  · omega
  refine WQ.r 1 [] rfl (WQ.nil (fun _ (hs9 : St _ _ _ _) => ?_))
  refine WC.cq rfl (fun h10 qh10 => ?_) (fun h10 qh10 => ?_)
  ·refine WC.r1 hs9 [] rfl (WC.ret (ibR (tkR (tkR (ibR (tkR ?_))))))
   clear hK8 hK4
   refine rtv rfl rfl hs9 ?_
   refine congrArg Value.bool ?_; symm; rw [decide_eq_false_iff_not]; intro he; subst he; simp at h10
  refine WC.skip (hK8 _ _ (WC.region (WL.r 2 hs9 [] rfl (WL.nil (tkN ?_)))))
  refine ⟨sbF rfl, hs9, _, ?_, i + 1, rfl, ?_, ?_, ⟨rfl, trivial⟩⟩
  · omega
  · omega
  · intro j hj; rcases Nat.lt_or_ge j i with h_ | h_
    · exact p1 j h_
    · obtain rfl : j = i := by omega
      exact (by simpa using h10)
 refine WC.exit (hK4 _ _ (WC.r1 hs5 [] rfl (WC.ret (rtv rfl rfl hs5 ?_))))
 refine congrArg Value.bool ?_; symm; rw [decide_eq_true_eq]; exact gat_ext (F := encI) (by omega) (fun j hj => p1 j (by omega))
theorem k46_ (a : ActR) (b : ActR) (w : World) (f_a : okActR 549755813888 w a) (f_b : okActR 549755813888 w b) :
    Calls Tryd.prog 26 #[.agg #[i64 a.Kind, i64 a.R, .bool a.Mark, .slice a.Args.A a.Args.n a.Args.c], .agg #[i64 b.Kind, i64 b.R, .bool b.Mark, .slice b.Args.A b.Args.n b.Args.c]] w fun e w' => e = .returned (.bool (sameA a.dat b.dat)) ∧ St w [] [] w' := by
 have nb_a_Args := f_a.Args_n
 have nl_a_Args := f_a.Args.len
 have nb_b_Args := f_b.Args_n
 have nl_b_Args := f_b.Args.len
 refine enter 31 Tryd.func26 rfl Tryd.ntmps26 rfl rfl ?_
 have hs1 := St.init w
 refine WC.sr (WL.bx hs1 rfl (fun b2 _ hs3 => WL.bx hs3 rfl (fun b4 _ hs5 => WL.r 1 hs5 [] rfl (WL.nil (WC.sr (WL.r 6 hs5 [1, 0] rfl (WL.pA tbk 5 Acts.nil hs5 [1, 0] rfl rfl rfl rfl (fun g_ => ⟨rfl, rfl, trivial⟩) ?_)))))))
 refine WL.r 1 hs5 [] rfl (WL.pA tbk 5 Acts.nil hs5 [1, 0] rfl rfl rfl rfl (fun g_ => ⟨rfl, rfl, trivial⟩) (WL.r 1 hs5 [] rfl ?_))
 apply WL.gA 5 Acts.nil hs5 rfl
 ·intro g6 J7
  have qg6 := g6
  try simp only [bf, within_iff, within_not] at qg6
  refine WL.runA tbk 4 (Acts.nil.cons (j := 19) rfl g6) hs5 [1, 0] rfl ⟨rfl, rfl, trivial⟩ (WL.call (wantT rfl g6) rfl rfl (Run.call Tryd.call49 rfl rfl rfl) (k45_ _ _ _ _ _ _ _ _ _ (SlF.st0 f_a.Args hs5) (SlF.st0 f_b.Args hs5) ?_) ?_)
  · first | assumption | rfl | omega
  rintro _ whs8 ⟨rfl, hs8⟩
  replace hs8 := hs5.call0 hs8
  refine ⟨_, rfl, WL.eA 5 Acts.nil J7 hs8 g6 rfl rfl⟩
 intro _ hs9
 refine WL.r 1 hs9 [] rfl (WL.nil (WC.ret (rtv rfl rfl hs9 ?_)))
 first | rfl | (simp only [sameA]; grind)
theorem inf9 : Tryd.prog.info? 9 = some Tryd.t9 := by kernel_rfl
set_option maxHeartbeats 8000000 in
theorem k47_ (a : ActR) (w : World) (f_a : okActR 549755813888 w a) (ht : TabOk w) (hn : a.Args.xs.length ≤ 1048576) :
    Calls Tryd.prog 10 #[.agg #[i64 a.Kind, i64 a.R, .bool a.Mark, .slice a.Args.A a.Args.n a.Args.c]] w fun e w' => e = .returned (.string (actT a.dat)) ∧ St w [] [] w' := by
 have nb_a_Args := f_a.Args_n
 have nl_a_Args := f_a.Args.len
 have hla := f_a.Args.len
 have hrl := runeB_len a.R
 refine enter 108 Tryd.func10 rfl Tryd.ntmps10 rfl rfl ?_
 have hs1 := St.init w
 refine WC.sr (WL.bx hs1 rfl (fun b2 _ hs3 => WL.r 1 hs3 [] rfl (WL.nil (WC.r1 hs3 [] rfl (WC.seq (fun K4 hK4 => WC.block (WC.r1 hs3 [0] rfl ?_)))))))
 refine WC.cq rfl (fun h5 qh5 => ?_) (fun h5 qh5 => ?_)
 ·have k1 : a.dat.Kind = 1 := (show a.Kind = 1 by have h9 := h5; simpa using h9)
  refine WC.region (WL.r 2 hs3 [0] rfl (WL.cl Tryd.call22 rfl (k8_ _ _) ?_))
  rintro _ whs6 ⟨A7, c8, L1_9, rfl, hs6, ho10⟩
  replace hs6 := hs3.callF hs6
  refine ⟨_, rfl, ?_⟩
  replace hs6 := St.back [_] hs6
  refine WL.val rfl rfl rfl (Run.strOf (SlF.ofOwn ho10 (hs6.ow L1_9)) Tryd.underlying22 Tryd.underlying5 Tryd.underlying9 rfl rfl) (WL.r 1 hs6 [] rfl (WL.nil (hK4 _ _ (WC.seq (fun K11 hK11 => WC.sr ?_)))))
  refine WL.val rfl rfl rfl (Run.build rfl rfl rfl rfl (built_26)) (WL.r 1 hs6 [] rfl (WL.bytesOf hs6 Tryd.underlying9 Tryd.underlying22 Tryd.underlying5 rfl rfl rfl rfl rfl ?_ (fun A15 c16 L12 whs13 hs13 ho14 => ?_)))
  · (simp [ByteArray.size]; try omega)
  replace hs13 := St.back [_] hs13
  refine WL.cl Tryd.call17 rfl (k34_ ⟨_, _, ⟨_, _, _, _⟩, ⟨_, _, _, _⟩⟩ _ _ _ _ _ ⟨(SlF.nil _ _), (by first | assumption | omega | simp), (by first | assumption | omega | (simp; omega) | simp), (SlF.nil _ _), (by first | assumption | omega | simp), (by first | assumption | omega | (simp; omega) | simp)⟩ (SlF.ofOwn ho14 (hs13.ow L12)) ?_ ?_ ?_) ?_
  iterate 3 focus first | assumption | rfl | omega | exact tab_st ht (by assumption) | exact ⟨Nat.zero_le _, Nat.zero_le _⟩ | (simp; first | done | omega)
  rintro _ whs17 ⟨r0_18, L0_19, A1_20, c1_21, x1_22, L1_23, rfl, hs17, ho24, ho25, hd0_26, hd1_27⟩
  replace hs17 := hs13.callF hs17
  refine ⟨_, rfl, ?_⟩
  replace hs17 := St.assoc hs17
  replace hs17 := St.back2 [_] hs17
  have hp0 : r0_18.dat = (vpParse vp0 (runeB a.R)).1 := hd0_26.trans (congrArg (fun z => (vpParse vp0 z).1) (by simp))
  have hp1 : x1_22.map ActR.dat = (vpParse vp0 (runeB a.R)).2 := hd1_27.trans (congrArg (fun z => (vpParse vp0 z).2) (by simp))
  have hsma : ∀ y, y ∈ x1_22.map ActR.dat → smAct 549755813888 y := by intro y hy; rw [hp1] at hy; have h9 := vpParse_act (v := vp0) rfl y hy; show y.Args.length ≤ 549755813888; omega
  have hvk := vpOk_len (vpParse_ok (l := (runeB a.R)) (v := vp0) rfl)
  have hsv : smVp 549755813888 r0_18.dat := by rw [hp0]; exact ⟨by omega, by omega⟩
  have hl0 : r0_18.Part.xs.length = r0_18.Part.n := (ownVpR.ok (B := 549755813888) ho24 (hs17.ow L0_19) hsv).Part.len
  have hB : (runeB a.R) = actBy a.dat := (by unfold actBy; rw [if_pos k1]; rfl)
  have hG : goodI (runeB a.R) a.dat = actOk a.dat := by rw [hB]; exact goodI_B a.dat
  refine WL.r 3 hs17 [] rfl (WL.al hs17 Tryd.zeroValue26 rfl rfl (fun b28 _ hs29 => WL.st tbk hs29 0 rfl rfl (fun _ hs30 => WL.r 1 hs30 [] rfl (WL.nil (WC.sq1 hs30 (WQ.r 4 [0] rfl (WQ.pO tbk 4 Acts.nil [0] rfl rfl rfl rfl (fun g_ => ⟨rfl, trivial⟩) ?_)))))))
  refine WQ.r 1 [] rfl (WQ.pO tbk 3 Acts.nil [] rfl rfl rfl rfl (fun g_ => trivial) (WQ.r 1 [] rfl ?_))
  apply WQ.gO 6 Acts.nil rfl
  ·intro g31 J32
   have qg31 := g31
   try simp only [bf, within_iff, within_not] at qg31
   refine WQ.runA tbk 1 (Acts.nil.cons (j := 14) rfl g31) [] rfl trivial ?_
   refine WQ.val (wantF rfl g31) rfl rfl (fun w_ hs_ => (Run.idx Tryd.runUnderlying27 Tryd.sizeOf33 rfl rfl rfl ?_ ?_ ?_)) ?_
   · exact SlF.some_ (OwnN.sl ho25 ((hs_ : St _ _ _ _).ow L1_23))
   · omega
   · omega
   refine WQ.val (wantF rfl g31) rfl rfl (fun w_ hs_ => (Run.loadA Tryd.isAgg33 Tryd.sizeOf33 rfl rfl (SlF.whole (OwnN.sl ho25 ((hs_ : St _ _ _ _).ow L1_23)) ?_))) ?_
   · omega
   refine WQ.runA tbk 1 (Acts.nil.cons (j := 14) rfl g31) [1] rfl ⟨rfl, trivial⟩ ?_
   refine WQ.call (wantF rfl g31) rfl rfl (fun w_ hs_ => (Run.call Tryd.call26 rfl rfl rfl)) (fun w_ hs_ => (k46_ (gat encActR x1_22 0) a _ (SlN.nth (OwnN.ok ho25 ((hs_ : St _ _ _ _).ow L1_23) (fun y Li hy h3 hl => h3.ok hl (by have h9_ := List.mem_map_of_mem (f := ActR.dat) hy; first | exact hsma _ h9_))) (by omega)) (okActR.st0 f_a (hs_ : St _ _ _ _))).mono fun e_ w_ h_ => ⟨h_.1, (hs_ : St _ _ _ _).call0 h_.2⟩) ?_
   refine WQ.runA tbk 1 (Acts.nil.cons (j := 14) rfl g31) [] rfl trivial (WQ.eO 6 Acts.nil J32 g31 rfl rfl)
  refine WQ.nil (fun _ (hs33 : St _ _ _ _) => ?_)
  refine WC.cq rfl (fun h34 qh34 => ?_) (fun h34 qh34 => ?_)
  ·have hg : actOk a.dat = false := by rw [← hG, goodI_R hp0 hp1 hl0]; have h9 := h34; grind
   refine WC.r1 hs33 [] rfl (WC.ret (tkR ?_))
   clear hK11
   refine rtv rfl rfl hs33 ?_
   first | (rw [actT_no hg]; done) | (rw [hno] at hg; cases hg) | (rw [actT_yes hg, ← hB]; done) | (rw [actT_yes hg, ← hB]; refine congrArg Value.string (ByteArray.ext ?_); simp; done) | (rw [actT_yes hg, ← hB]; refine congrArg Value.string (ByteArray.ext ?_); simp [actPre, argT, map_numBA, ActR.dat, hmk]; done) | (rw [actT_no (by rw [← Bool.not_eq_true]; intro hh; have := (actOk_R hh).2 k1; exact hr (by have e : a.dat.R = a.R := rfl; omega))])
  have hg : actOk a.dat = true := by rw [← hG, goodI_R hp0 hp1 hl0]; have h9 := h34; grind
  refine WC.skip (hK11 _ _ (WC.r1 hs33 [] rfl (WC.ret (rtv rfl rfl hs33 ?_))))
  first | (rw [actT_no hg]; done) | (rw [hno] at hg; cases hg) | (rw [actT_yes hg, ← hB]; done) | (rw [actT_yes hg, ← hB]; refine congrArg Value.string (ByteArray.ext ?_); simp; done) | (rw [actT_yes hg, ← hB]; refine congrArg Value.string (ByteArray.ext ?_); simp [actPre, argT, map_numBA, ActR.dat, hmk]; done) | (rw [actT_no (by rw [← Bool.not_eq_true]; intro hh; have := (actOk_R hh).2 k1; exact hr (by have e : a.dat.R = a.R := rfl; omega))])
 have k1 : ¬ a.dat.Kind = 1 := (show ¬ a.Kind = 1 by have h9 := h5; simpa using h9)
 refine WC.sr (WL.r 2 hs3 [0] rfl (WL.cl Tryd.call23 rfl (k0_ _ _ _ _) ?_))
 rintro _ whs35 ⟨rfl, hs35⟩
 replace hs35 := hs3.call0 hs35
 refine ⟨_, rfl, WL.r 2 hs35 [] rfl (WL.nil (WC.cq rfl (fun h36 qh36 => ?_) (fun h36 qh36 => ?_)))⟩
 ·have hr : ¬ (0 ≤ a.R ∧ a.R ≤ 255) := within_not.1 (by have h9 := h36; simpa using h9)
  refine WC.r1 hs35 [] rfl (WC.ret (ibR (tkR ?_)))
  clear hK4
  refine rtv rfl rfl hs35 ?_
  first | (rw [actT_no hg]; done) | (rw [hno] at hg; cases hg) | (rw [actT_yes hg, ← hB]; done) | (rw [actT_yes hg, ← hB]; refine congrArg Value.string (ByteArray.ext ?_); simp; done) | (rw [actT_yes hg, ← hB]; refine congrArg Value.string (ByteArray.ext ?_); simp [actPre, argT, map_numBA, ActR.dat, hmk]; done) | (rw [actT_no (by rw [← Bool.not_eq_true]; intro hh; have := (actOk_R hh).2 k1; exact hr (by have e : a.dat.R = a.R := rfl; omega))])
 have hr : 0 ≤ a.R ∧ a.R ≤ 255 := within_iff.1 (by have h9 := h36; simpa using h9)
 refine WC.r1 hs35 [0] rfl (WC.cq rfl (fun h37 qh37 => ?_) (fun h37 qh37 => ?_))
 ·have k2 : a.dat.Kind = 2 := (show a.Kind = 2 by have h9 := h37; simpa using h9)
  refine WC.region (WL.r 3 hs35 [0] rfl (WL.buildSlice hs35 Tryd.runUnderlying22 Tryd.sizeOf5 Tryd.zeroValue5 rfl rfl rfl rfl rfl rfl rfl rfl rfl rfl (fun b38 whs39 hs39 => WL.val rfl rfl rfl (Run.strOf (SlF.own1 (hs39.own _ (nthL_mem (i := 0) rfl)).1) Tryd.underlying22 Tryd.underlying5 Tryd.underlying9 rfl rfl) (WL.r 1 hs39 [] rfl (WL.nil (hK4 _ _ (WC.seq (fun K40 hK40 => ?_))))))))
  refine WC.sr ?_
  refine WL.val rfl rfl rfl (Run.build rfl rfl rfl rfl (built_26)) (WL.r 1 hs39 [] rfl (WL.bytesOf hs39 Tryd.underlying9 Tryd.underlying22 Tryd.underlying5 rfl rfl rfl rfl rfl ?_ (fun A44 c45 L41 whs42 hs42 ho43 => ?_)))
  · (simp [ByteArray.size]; try omega)
  replace hs42 := St.back [_, _] hs42
  refine WL.cl Tryd.call17 rfl (k34_ ⟨_, _, ⟨_, _, _, _⟩, ⟨_, _, _, _⟩⟩ _ _ _ _ _ ⟨(SlF.nil _ _), (by first | assumption | omega | simp), (by first | assumption | omega | (simp; omega) | simp), (SlF.nil _ _), (by first | assumption | omega | simp), (by first | assumption | omega | (simp; omega) | simp)⟩ (SlF.ofOwn ho43 (hs42.ow L41)) ?_ ?_ ?_) ?_
  iterate 3 focus first | assumption | rfl | omega | exact tab_st ht (by assumption) | exact ⟨Nat.zero_le _, Nat.zero_le _⟩ | (simp; first | done | omega)
  rintro _ whs46 ⟨r0_47, L0_48, A1_49, c1_50, x1_51, L1_52, rfl, hs46, ho53, ho54, hd0_55, hd1_56⟩
  replace hs46 := hs42.callF hs46
  refine ⟨_, rfl, ?_⟩
  replace hs46 := St.assoc hs46
  replace hs46 := St.back2 [_, _] hs46
  have hp0 : r0_47.dat = (vpParse vp0 [ub a.R]).1 := hd0_55.trans (congrArg (fun z => (vpParse vp0 z).1) (by simp))
  have hp1 : x1_51.map ActR.dat = (vpParse vp0 [ub a.R]).2 := hd1_56.trans (congrArg (fun z => (vpParse vp0 z).2) (by simp))
  have hsma : ∀ y, y ∈ x1_51.map ActR.dat → smAct 549755813888 y := by intro y hy; rw [hp1] at hy; have h9 := vpParse_act (v := vp0) rfl y hy; show y.Args.length ≤ 549755813888; omega
  have hvk := vpOk_len (vpParse_ok (l := [ub a.R]) (v := vp0) rfl)
  have hsv : smVp 549755813888 r0_47.dat := by rw [hp0]; exact ⟨by omega, by omega⟩
  have hl0 : r0_47.Part.xs.length = r0_47.Part.n := (ownVpR.ok (B := 549755813888) ho53 (hs46.ow L0_48) hsv).Part.len
  have hB : [ub a.R] = actBy a.dat := (by unfold actBy; rw [if_neg k1, if_pos k2]; rfl)
  have hG : goodI [ub a.R] a.dat = actOk a.dat := by rw [hB]; exact goodI_B a.dat
  refine WL.r 3 hs46 [] rfl (WL.al hs46 Tryd.zeroValue26 rfl rfl (fun b57 _ hs58 => WL.st tbk hs58 0 rfl rfl (fun _ hs59 => WL.r 1 hs59 [] rfl (WL.nil (WC.sq1 hs59 (WQ.r 4 [0] rfl (WQ.pO tbk 4 Acts.nil [0] rfl rfl rfl rfl (fun g_ => ⟨rfl, trivial⟩) ?_)))))))
  refine WQ.r 1 [] rfl (WQ.pO tbk 3 Acts.nil [] rfl rfl rfl rfl (fun g_ => trivial) (WQ.r 1 [] rfl ?_))
  apply WQ.gO 6 Acts.nil rfl
  ·intro g60 J61
   have qg60 := g60
   try simp only [bf, within_iff, within_not] at qg60
   refine WQ.runA tbk 1 (Acts.nil.cons (j := 14) rfl g60) [] rfl trivial ?_
   refine WQ.val (wantF rfl g60) rfl rfl (fun w_ hs_ => (Run.idx Tryd.runUnderlying27 Tryd.sizeOf33 rfl rfl rfl ?_ ?_ ?_)) ?_
   · exact SlF.some_ (OwnN.sl ho54 ((hs_ : St _ _ _ _).ow L1_52))
   · omega
   · omega
   refine WQ.val (wantF rfl g60) rfl rfl (fun w_ hs_ => (Run.loadA Tryd.isAgg33 Tryd.sizeOf33 rfl rfl (SlF.whole (OwnN.sl ho54 ((hs_ : St _ _ _ _).ow L1_52)) ?_))) ?_
   · omega
   refine WQ.runA tbk 1 (Acts.nil.cons (j := 14) rfl g60) [2] rfl ⟨rfl, trivial⟩ ?_
   refine WQ.call (wantF rfl g60) rfl rfl (fun w_ hs_ => (Run.call Tryd.call26 rfl rfl rfl)) (fun w_ hs_ => (k46_ (gat encActR x1_51 0) a _ (SlN.nth (OwnN.ok ho54 ((hs_ : St _ _ _ _).ow L1_52) (fun y Li hy h3 hl => h3.ok hl (by have h9_ := List.mem_map_of_mem (f := ActR.dat) hy; first | exact hsma _ h9_))) (by omega)) (okActR.st0 f_a (hs_ : St _ _ _ _))).mono fun e_ w_ h_ => ⟨h_.1, (hs_ : St _ _ _ _).call0 h_.2⟩) ?_
   refine WQ.runA tbk 1 (Acts.nil.cons (j := 14) rfl g60) [] rfl trivial (WQ.eO 6 Acts.nil J61 g60 rfl rfl)
  refine WQ.nil (fun _ (hs62 : St _ _ _ _) => ?_)
  refine WC.cq rfl (fun h63 qh63 => ?_) (fun h63 qh63 => ?_)
  ·have hg : actOk a.dat = false := by rw [← hG, goodI_R hp0 hp1 hl0]; have h9 := h63; grind
   refine WC.r1 hs62 [] rfl (WC.ret (tkR ?_))
   clear hK40
   refine rtv rfl rfl hs62 ?_
   first | (rw [actT_no hg]; done) | (rw [hno] at hg; cases hg) | (rw [actT_yes hg, ← hB]; done) | (rw [actT_yes hg, ← hB]; refine congrArg Value.string (ByteArray.ext ?_); simp; done) | (rw [actT_yes hg, ← hB]; refine congrArg Value.string (ByteArray.ext ?_); simp [actPre, argT, map_numBA, ActR.dat, hmk]; done) | (rw [actT_no (by rw [← Bool.not_eq_true]; intro hh; have := (actOk_R hh).2 k1; exact hr (by have e : a.dat.R = a.R := rfl; omega))])
  have hg : actOk a.dat = true := by rw [← hG, goodI_R hp0 hp1 hl0]; have h9 := h63; grind
  refine WC.skip (hK40 _ _ (WC.r1 hs62 [] rfl (WC.ret (rtv rfl rfl hs62 ?_))))
  first | (rw [actT_no hg]; done) | (rw [hno] at hg; cases hg) | (rw [actT_yes hg, ← hB]; done) | (rw [actT_yes hg, ← hB]; refine congrArg Value.string (ByteArray.ext ?_); simp; done) | (rw [actT_yes hg, ← hB]; refine congrArg Value.string (ByteArray.ext ?_); simp [actPre, argT, map_numBA, ActR.dat, hmk]; done) | (rw [actT_no (by rw [← Bool.not_eq_true]; intro hh; have := (actOk_R hh).2 k1; exact hr (by have e : a.dat.R = a.R := rfl; omega))])
 have k2 : ¬ a.dat.Kind = 2 := (show ¬ a.Kind = 2 by have h9 := h37; simpa using h9)
 refine WC.r1 hs35 [0] rfl (WC.cq rfl (fun h64 qh64 => ?_) (fun h64 qh64 => ?_))
 ·have k3 : a.dat.Kind = 3 := (show a.Kind = 3 by have h9 := h64; simpa using h9)
  refine WC.region (WL.r 3 hs35 [0] rfl (WL.buildSlice hs35 Tryd.runUnderlying22 Tryd.sizeOf5 Tryd.zeroValue5 rfl rfl rfl rfl rfl rfl rfl rfl rfl rfl (fun b65 whs66 hs66 => WL.val rfl rfl rfl (Run.strOf (SlF.own1 (hs66.own _ (nthL_mem (i := 0) rfl)).1) Tryd.underlying22 Tryd.underlying5 Tryd.underlying9 rfl rfl) ?_)))
  refine WL.val rfl rfl rfl (Run.addS rfl rfl rfl ?_) ?_
  · (simp [ByteArray.size]; try omega)
  refine WL.r 1 hs66 [] rfl (WL.nil (hK4 _ _ (WC.seq (fun K67 hK67 => WC.sr ?_))))
  refine WL.val rfl rfl rfl (Run.build rfl rfl rfl rfl (built_26)) (WL.r 1 hs66 [] rfl (WL.bytesOf hs66 Tryd.underlying9 Tryd.underlying22 Tryd.underlying5 rfl rfl rfl rfl rfl ?_ (fun A71 c72 L68 whs69 hs69 ho70 => ?_)))
  · (simp [ByteArray.size]; try omega)
  replace hs69 := St.back [_, _] hs69
  refine WL.cl Tryd.call17 rfl (k34_ ⟨_, _, ⟨_, _, _, _⟩, ⟨_, _, _, _⟩⟩ _ _ _ _ _ ⟨(SlF.nil _ _), (by first | assumption | omega | simp), (by first | assumption | omega | (simp; omega) | simp), (SlF.nil _ _), (by first | assumption | omega | simp), (by first | assumption | omega | (simp; omega) | simp)⟩ (SlF.ofOwn ho70 (hs69.ow L68)) ?_ ?_ ?_) ?_
  iterate 3 focus first | assumption | rfl | omega | exact tab_st ht (by assumption) | exact ⟨Nat.zero_le _, Nat.zero_le _⟩ | (simp; first | done | omega)
  rintro _ whs73 ⟨r0_74, L0_75, A1_76, c1_77, x1_78, L1_79, rfl, hs73, ho80, ho81, hd0_82, hd1_83⟩
  replace hs73 := hs69.callF hs73
  refine ⟨_, rfl, ?_⟩
  replace hs73 := St.assoc hs73
  replace hs73 := St.back2 [_, _] hs73
  have hp0 : r0_74.dat = (vpParse vp0 [27, ub a.R]).1 := hd0_82.trans (congrArg (fun z => (vpParse vp0 z).1) (by simp))
  have hp1 : x1_78.map ActR.dat = (vpParse vp0 [27, ub a.R]).2 := hd1_83.trans (congrArg (fun z => (vpParse vp0 z).2) (by simp))
  have hsma : ∀ y, y ∈ x1_78.map ActR.dat → smAct 549755813888 y := by intro y hy; rw [hp1] at hy; have h9 := vpParse_act (v := vp0) rfl y hy; show y.Args.length ≤ 549755813888; omega
  have hvk := vpOk_len (vpParse_ok (l := [27, ub a.R]) (v := vp0) rfl)
  have hsv : smVp 549755813888 r0_74.dat := by rw [hp0]; exact ⟨by omega, by omega⟩
  have hl0 : r0_74.Part.xs.length = r0_74.Part.n := (ownVpR.ok (B := 549755813888) ho80 (hs73.ow L0_75) hsv).Part.len
  have hB : [27, ub a.R] = actBy a.dat := (by unfold actBy; rw [if_neg k1, if_neg k2, if_pos k3]; rfl)
  have hG : goodI [27, ub a.R] a.dat = actOk a.dat := by rw [hB]; exact goodI_B a.dat
  refine WL.r 3 hs73 [] rfl (WL.al hs73 Tryd.zeroValue26 rfl rfl (fun b84 _ hs85 => WL.st tbk hs85 0 rfl rfl (fun _ hs86 => WL.r 1 hs86 [] rfl (WL.nil (WC.sq1 hs86 (WQ.r 4 [0] rfl (WQ.pO tbk 4 Acts.nil [0] rfl rfl rfl rfl (fun g_ => ⟨rfl, trivial⟩) ?_)))))))
  refine WQ.r 1 [] rfl (WQ.pO tbk 3 Acts.nil [] rfl rfl rfl rfl (fun g_ => trivial) (WQ.r 1 [] rfl ?_))
  apply WQ.gO 6 Acts.nil rfl
  ·intro g87 J88
   have qg87 := g87
   try simp only [bf, within_iff, within_not] at qg87
   refine WQ.runA tbk 1 (Acts.nil.cons (j := 14) rfl g87) [] rfl trivial ?_
   refine WQ.val (wantF rfl g87) rfl rfl (fun w_ hs_ => (Run.idx Tryd.runUnderlying27 Tryd.sizeOf33 rfl rfl rfl ?_ ?_ ?_)) ?_
   · exact SlF.some_ (OwnN.sl ho81 ((hs_ : St _ _ _ _).ow L1_79))
   · omega
   · omega
   refine WQ.val (wantF rfl g87) rfl rfl (fun w_ hs_ => (Run.loadA Tryd.isAgg33 Tryd.sizeOf33 rfl rfl (SlF.whole (OwnN.sl ho81 ((hs_ : St _ _ _ _).ow L1_79)) ?_))) ?_
   · omega
   refine WQ.runA tbk 1 (Acts.nil.cons (j := 14) rfl g87) [2] rfl ⟨rfl, trivial⟩ ?_
   refine WQ.call (wantF rfl g87) rfl rfl (fun w_ hs_ => (Run.call Tryd.call26 rfl rfl rfl)) (fun w_ hs_ => (k46_ (gat encActR x1_78 0) a _ (SlN.nth (OwnN.ok ho81 ((hs_ : St _ _ _ _).ow L1_79) (fun y Li hy h3 hl => h3.ok hl (by have h9_ := List.mem_map_of_mem (f := ActR.dat) hy; first | exact hsma _ h9_))) (by omega)) (okActR.st0 f_a (hs_ : St _ _ _ _))).mono fun e_ w_ h_ => ⟨h_.1, (hs_ : St _ _ _ _).call0 h_.2⟩) ?_
   refine WQ.runA tbk 1 (Acts.nil.cons (j := 14) rfl g87) [] rfl trivial (WQ.eO 6 Acts.nil J88 g87 rfl rfl)
  refine WQ.nil (fun _ (hs89 : St _ _ _ _) => ?_)
  refine WC.cq rfl (fun h90 qh90 => ?_) (fun h90 qh90 => ?_)
  ·have hg : actOk a.dat = false := by rw [← hG, goodI_R hp0 hp1 hl0]; have h9 := h90; grind
   refine WC.r1 hs89 [] rfl (WC.ret (tkR ?_))
   clear hK67
   refine rtv rfl rfl hs89 ?_
   first | (rw [actT_no hg]; done) | (rw [hno] at hg; cases hg) | (rw [actT_yes hg, ← hB]; done) | (rw [actT_yes hg, ← hB]; refine congrArg Value.string (ByteArray.ext ?_); simp; done) | (rw [actT_yes hg, ← hB]; refine congrArg Value.string (ByteArray.ext ?_); simp [actPre, argT, map_numBA, ActR.dat, hmk]; done) | (rw [actT_no (by rw [← Bool.not_eq_true]; intro hh; have := (actOk_R hh).2 k1; exact hr (by have e : a.dat.R = a.R := rfl; omega))])
  have hg : actOk a.dat = true := by rw [← hG, goodI_R hp0 hp1 hl0]; have h9 := h90; grind
  refine WC.skip (hK67 _ _ (WC.r1 hs89 [] rfl (WC.ret (rtv rfl rfl hs89 ?_))))
  first | (rw [actT_no hg]; done) | (rw [hno] at hg; cases hg) | (rw [actT_yes hg, ← hB]; done) | (rw [actT_yes hg, ← hB]; refine congrArg Value.string (ByteArray.ext ?_); simp; done) | (rw [actT_yes hg, ← hB]; refine congrArg Value.string (ByteArray.ext ?_); simp [actPre, argT, map_numBA, ActR.dat, hmk]; done) | (rw [actT_no (by rw [← Bool.not_eq_true]; intro hh; have := (actOk_R hh).2 k1; exact hr (by have e : a.dat.R = a.R := rfl; omega))])
 have k3 : ¬ a.dat.Kind = 3 := (show ¬ a.Kind = 3 by have h9 := h64; simpa using h9)
 refine WC.sr (WL.r 4 hs35 [0] rfl ?_)
 apply WL.gA 3 Acts.nil hs35 rfl
 ·intro g91 J92
  have qg91 := g91
  try simp only [bf, within_iff, within_not] at qg91
  refine WL.runA tbk 2 (Acts.nil.cons (j := 3) rfl g91) hs35 [0] rfl ⟨rfl, trivial⟩ (WL.call (wantT rfl g91) rfl rfl (Run.call Tryd.call19 rfl rfl rfl) (k20_ _ _ _ _ _ (SlF.st0 f_a.Args hs35) ?_) ?_)
  · first | assumption | rfl | omega | exact tab_st ht (by assumption) | exact ⟨Nat.zero_le _, Nat.zero_le _⟩ | (simp; first | done | omega)
  rintro _ whs93 ⟨rfl, hs93⟩
  replace hs93 := hs35.call0 hs93
  refine ⟨_, rfl, WL.eA 3 Acts.nil J92 hs93 g91 rfl rfl⟩
 intro _ hs94
 refine WL.r 1 hs94 [] rfl (WL.nil (WC.cq rfl (fun h95 qh95 => ?_) (fun h95 qh95 => ?_)))
 ·have k4 : a.dat.Kind = 4 ∧ areArgs a.Args.xs = true := (show a.Kind = 4 ∧ areArgs a.Args.xs = true by have h9 := h95; simpa using h9)
  have hal := (areArgs_iff.1 k4.2).1
  have hjl := join_len2 hal
  replace k4 := k4.1
  refine WC.sr (WL.buildF (F := encS) hs94 ([]) Tryd.runUnderlying52 Tryd.sizeOf9 Tryd.zeroValue9 rfl rfl rfl rfl rfl rfl rfl rfl rfl rfl rfl rfl (fun A99 c100 L96 whs97 hs97 ho98 => ?_))
  replace hs97 := St.back [_] hs97
  refine WL.r 1 hs97 [] rfl (WL.nil (WC.seq (fun K101 hK101 => WC.r1 hs97 [0] rfl (WC.block ?_))))
  refine WC.lO [1, 2, 3, 9, 17, 22, 31, 41, 52, 53] rfl (hs97.fr L96) (fun k_ f L_ => ∃ (ws : List ByteArray) (i : Nat) (A102 : Option Addr) (c103 : Nat), k_ = a.Args.n - i ∧ (i ≤ a.Args.n) ∧ (ws = (a.Args.xs.take i).map numBA) ∧ OwnF encS 9 (.slice A102 (ws.length) c103) (ws) L_ ∧ Sub [(4, .slice A102 (ws.length) c103), (54, .int .i64 i)] f) (((fun (ws : List ByteArray) (i : Nat) => a.Args.n - i) ([]) (0))) ?_ ?_
  ·refine ⟨[], 0, _, _, rfl, ?_, ?_, ho98, ⟨rfl, rfl, trivial⟩⟩
   · exact Nat.zero_le _
   · rfl
  clear hs97
  rintro _ f w L104 ⟨ws, i, A102, c103, rfl, p0, p1, ho105, hG⟩ hF hs106
  refine WC.sub _ (hG.app hF) ?_
  clear hG hF
  replace hs106 := St.back [_] hs106
  have hwl : ws.length ≤ 8 := by rw [p1, List.length_map, List.length_take]; omega
  refine WC.r1 hs106 [] rfl (WC.seq (fun K107 hK107 => ?_))
  refine WC.cq rfl (fun h108 qh108 => ?_) (fun h108 qh108 => ?_)
  ·have hil : i < a.Args.n := by have h9 := h108; simpa using h9
   refine WC.skip (hK107 _ _ (WC.seq (fun K109 hK109 => WC.block (WC.sr ?_))))
   refine WL.val rfl rfl rfl (Run.idxN Tryd.runUnderlying24 Tryd.sizeOf3 rfl rfl rfl ?_ ?_ ?_) ?_
   · exact SlF.some_ (SlF.st0 f_a.Args hs106)
   · omega
   · omega
   refine WL.val rfl rfl rfl (Run.load Tryd.isAgg3 rfl rfl (SlF.one1 (SlF.st0 f_a.Args hs106) ?_ rfl)) ?_
   · omega
   refine WL.r 1 hs106 [] rfl (WL.nil (WC.region (WL.r 2 hs106 [] rfl (WL.cl Tryd.call24 rfl (k44_ _ _ ?_) ?_))))
   · first | assumption | rfl | omega | exact tab_st ht (by assumption) | exact ⟨Nat.zero_le _, Nat.zero_le _⟩ | (simp; first | done | omega)
   rintro _ whs110 ⟨rfl, hs110⟩
   replace hs110 := hs106.call0 hs110
   refine ⟨_, rfl, WL.buildSlice hs110 Tryd.runUnderlying52 Tryd.sizeOf9 Tryd.zeroValue9 rfl rfl rfl rfl rfl rfl rfl rfl rfl rfl (fun b111 whs112 hs112 => ?_)⟩
   refine WL.appendG (hs112.fr L104) ho105 (srcF (F := encS) (ys := [numBA (gat encI a.Args.xs i)]) Tryd.underlying52 rfl rfl (hs112.own _ (nthL_mem (i := 0) rfl)).1) Tryd.underlying52 inf9 rfl rfl rfl rfl rfl rfl rfl rfl rfl rfl ?_ (fun A116 c117 L113 whs114 hs114 ho115 => ?_)
   · (try simp only [List.length_append, List.length_singleton]); omega
   replace hs114 := St.back [_, _] hs114
   refine WL.r 1 hs114 [] rfl (WL.nil (hK109 _ _ (WC.region (WL.r 2 hs114 [] rfl (WL.nil (tkN ?_))))))
   replace hs114 := hs114.d1
   refine ⟨sbF rfl, _, (hs114.fr L113), _, ?_, _, i + 1, _, _, rfl, ?_, ?_, ho115, ⟨rfl, rfl, trivial⟩⟩
   · omega
   · omega
   · rw [p1, List.take_add_one, gat_get (F := encI) (by omega), List.map_append]; rfl
  have hws : ws = a.Args.xs.map numBA := by rw [p1, List.take_of_length_le (by omega)]
  subst hws
  refine WC.exit (hK101 _ _ (WC.r1 hs106 [] rfl (WC.seq (fun K118 hK118 => WC.r1 hs106 [0] rfl ?_))))
  refine WC.cq rfl (fun h119 qh119 => ?_) (fun h119 qh119 => ?_)
  ·have hmk : a.Mark = true := h119
   refine WC.region (WL.r 1 hs106 [] rfl (WL.val rfl rfl rfl (Run.addS rfl rfl rfl ?_) ?_))
   · (simp [ByteArray.size]; try omega)
   refine WL.r 1 hs106 [] rfl (WL.nil (hK118 _ _ (WC.rH hs106 hs106 (fun _ hs120 => ?_))))
   refine WH.rn [0, 1, 3, 4, 5] hs120 [0] rfl rfl (WH.all [2, 6] (by kernel_rfl) rfl (WHs.cons (i := 2) rfl ?_ (WHs.cons (i := 6) rfl ?_ WHs.nil)))
   ·refine WL.cl Tryd.call25 rfl (k42_ _ _ _ _ _ _ (SlF.ofOwn ho105 (hs120.ow L104)) (OwnF.cap ho105) ?_ ?_ ?_) ?_
    · first | exact OwnF.spot (by assumption) | assumption | omega | exact tab_st ht (by assumption) | exact ⟨Nat.zero_le _, Nat.zero_le _⟩ | rfl | (simp; first | done | omega)
    · first | omega | assumption | exact tab_st ht (by assumption) | exact ⟨Nat.zero_le _, Nat.zero_le _⟩ | rfl | (simp; first | done | omega)
    · first | (exact (by rw [join_args _ rfl]; have h9 := argT_len (l := a.Args.xs); omega)) | assumption | omega | exact tab_st ht (by assumption) | exact ⟨Nat.zero_le _, Nat.zero_le _⟩ | rfl | (simp; first | done | omega)
    rintro _ whs121 ⟨rfl, hs121⟩
    replace hs121 := hs120.call0 hs121
    refine ⟨_, rfl, WL.nil ⟨hs121, ?_⟩⟩
    refine WH.strS hs121 (fun w_ h_ => h_) ?_
    refine WH.o1 6 rfl (WL.buildSlice hs121 Tryd.runUnderlying22 Tryd.sizeOf5 Tryd.zeroValue5 rfl rfl rfl rfl rfl rfl rfl rfl rfl rfl (fun b122 whs123 hs123 => WL.nil ⟨hs123.d1, ?_⟩))
    refine WH.strS hs123 (fun w_ h_ => h_.d1) ?_
    refine WH.take 7 rfl (by kernel_rfl) rfl rfl rfl hs123 (fun w_ hs_ => (Run.strOf (SlF.own1 ((hs_ : St _ _ _ _).own _ (nthL_mem (i := 0) rfl)).1) Tryd.underlying22 Tryd.underlying5 Tryd.underlying9 rfl rfl)) ?_
    refine WH.take 8 rfl (by kernel_rfl) rfl rfl rfl hs123 (fun w_ hs_ => (Run.addS rfl rfl rfl ?_)) ?_
    · (simp [ByteArray.size]; try omega)
    refine WH.take 9 rfl (by kernel_rfl) rfl rfl rfl hs123 (fun w_ hs_ => (Run.addS rfl rfl rfl ?_)) ?_
    · (simp [ByteArray.size]; try omega)
    refine WH.rn [10] hs123 [] rfl rfl (WH.dn (hK4 _ _ (WC.seq (fun K124 hK124 => WC.sr ?_))))
    refine WL.val rfl rfl rfl (Run.build rfl rfl rfl rfl (built_26)) (WL.r 1 hs123 [] rfl (WL.bytesOf hs123 Tryd.underlying9 Tryd.underlying22 Tryd.underlying5 rfl rfl rfl rfl rfl ?_ (fun A128 c129 L125 whs126 hs126 ho127 => ?_)))
    · (simp [ByteArray.size]; try omega)
    replace hs126 := St.back [_, _] hs126
    refine WL.cl Tryd.call17 rfl (k34_ ⟨_, _, ⟨_, _, _, _⟩, ⟨_, _, _, _⟩⟩ _ _ _ _ _ ⟨(SlF.nil _ _), (by first | assumption | omega | simp), (by first | assumption | omega | (simp; omega) | simp), (SlF.nil _ _), (by first | assumption | omega | simp), (by first | assumption | omega | (simp; omega) | simp)⟩ (SlF.ofOwn ho127 (hs126.ow L125)) ?_ ?_ ?_) ?_
    iterate 3 focus first | assumption | rfl | omega | exact tab_st ht (by assumption) | exact ⟨Nat.zero_le _, Nat.zero_le _⟩ | (simp; first | done | omega)
    rintro _ whs130 ⟨r0_131, L0_132, A1_133, c1_134, x1_135, L1_136, rfl, hs130, ho137, ho138, hd0_139, hd1_140⟩
    replace hs130 := hs126.callF hs130
    refine ⟨_, rfl, ?_⟩
    replace hs130 := St.assoc hs130
    replace hs130 := St.back2 [_, _] hs130
    have hp0 : r0_131.dat = (vpParse vp0 (actPre a.dat ++ [ub a.R])).1 := hd0_139.trans (congrArg (fun z => (vpParse vp0 z).1) (by simp [actPre, argT, map_numBA, ActR.dat, hmk]))
    have hp1 : x1_135.map ActR.dat = (vpParse vp0 (actPre a.dat ++ [ub a.R])).2 := hd1_140.trans (congrArg (fun z => (vpParse vp0 z).2) (by simp [actPre, argT, map_numBA, ActR.dat, hmk]))
    have hsma : ∀ y, y ∈ x1_135.map ActR.dat → smAct 549755813888 y := by intro y hy; rw [hp1] at hy; have h9 := vpParse_act (v := vp0) rfl y hy; show y.Args.length ≤ 549755813888; omega
    have hvk := vpOk_len (vpParse_ok (l := (actPre a.dat ++ [ub a.R])) (v := vp0) rfl)
    have hsv : smVp 549755813888 r0_131.dat := by rw [hp0]; exact ⟨by omega, by omega⟩
    have hl0 : r0_131.Part.xs.length = r0_131.Part.n := (ownVpR.ok (B := 549755813888) ho137 (hs130.ow L0_132) hsv).Part.len
    have hB : (actPre a.dat ++ [ub a.R]) = actBy a.dat := (by unfold actBy; rw [if_neg k1, if_neg k2, if_neg k3, if_pos k4]; rfl)
    have hG : goodI (actPre a.dat ++ [ub a.R]) a.dat = actOk a.dat := by rw [hB]; exact goodI_B a.dat
    refine WL.r 3 hs130 [] rfl (WL.al hs130 Tryd.zeroValue26 rfl rfl (fun b141 _ hs142 => WL.st tbk hs142 0 rfl rfl (fun _ hs143 => WL.r 1 hs143 [] rfl (WL.nil (WC.sq1 hs143 (WQ.r 4 [0] rfl (WQ.pO tbk 4 Acts.nil [0] rfl rfl rfl rfl (fun g_ => ⟨rfl, trivial⟩) ?_)))))))
    refine WQ.r 1 [] rfl (WQ.pO tbk 3 Acts.nil [] rfl rfl rfl rfl (fun g_ => trivial) (WQ.r 1 [] rfl ?_))
    apply WQ.gO 6 Acts.nil rfl
    ·intro g144 J145
     have qg144 := g144
     try simp only [bf, within_iff, within_not] at qg144
     refine WQ.runA tbk 1 (Acts.nil.cons (j := 14) rfl g144) [] rfl trivial ?_
     refine WQ.val (wantF rfl g144) rfl rfl (fun w_ hs_ => (Run.idx Tryd.runUnderlying27 Tryd.sizeOf33 rfl rfl rfl ?_ ?_ ?_)) ?_
     · exact SlF.some_ (OwnN.sl ho138 ((hs_ : St _ _ _ _).ow L1_136))
     · omega
     · omega
     refine WQ.val (wantF rfl g144) rfl rfl (fun w_ hs_ => (Run.loadA Tryd.isAgg33 Tryd.sizeOf33 rfl rfl (SlF.whole (OwnN.sl ho138 ((hs_ : St _ _ _ _).ow L1_136)) ?_))) ?_
     · omega
     refine WQ.runA tbk 1 (Acts.nil.cons (j := 14) rfl g144) [2] rfl ⟨rfl, trivial⟩ ?_
     refine WQ.call (wantF rfl g144) rfl rfl (fun w_ hs_ => (Run.call Tryd.call26 rfl rfl rfl)) (fun w_ hs_ => (k46_ (gat encActR x1_135 0) a _ (SlN.nth (OwnN.ok ho138 ((hs_ : St _ _ _ _).ow L1_136) (fun y Li hy h3 hl => h3.ok hl (by have h9_ := List.mem_map_of_mem (f := ActR.dat) hy; first | exact hsma _ h9_))) (by omega)) (okActR.st0 f_a (hs_ : St _ _ _ _))).mono fun e_ w_ h_ => ⟨h_.1, (hs_ : St _ _ _ _).call0 h_.2⟩) ?_
     refine WQ.runA tbk 1 (Acts.nil.cons (j := 14) rfl g144) [] rfl trivial (WQ.eO 6 Acts.nil J145 g144 rfl rfl)
    refine WQ.nil (fun _ (hs146 : St _ _ _ _) => ?_)
    refine WC.cq rfl (fun h147 qh147 => ?_) (fun h147 qh147 => ?_)
    ·have hg : actOk a.dat = false := by rw [← hG, goodI_R hp0 hp1 hl0]; have h9 := h147; grind
     refine WC.r1 hs146 [] rfl (WC.ret (tkR ?_))
     clear hK124
     refine rtv rfl rfl hs146 ?_
     first | (rw [actT_no hg]; done) | (rw [hno] at hg; cases hg) | (rw [actT_yes hg, ← hB]; done) | (rw [actT_yes hg, ← hB]; refine congrArg Value.string (ByteArray.ext ?_); simp; done) | (rw [actT_yes hg, ← hB]; refine congrArg Value.string (ByteArray.ext ?_); simp [actPre, argT, map_numBA, ActR.dat, hmk]; done) | (rw [actT_no (by rw [← Bool.not_eq_true]; intro hh; have := (actOk_R hh).2 k1; exact hr (by have e : a.dat.R = a.R := rfl; omega))])
    have hg : actOk a.dat = true := by rw [← hG, goodI_R hp0 hp1 hl0]; have h9 := h147; grind
    refine WC.skip (hK124 _ _ (WC.r1 hs146 [] rfl (WC.ret (rtv rfl rfl hs146 ?_))))
    first | (rw [actT_no hg]; done) | (rw [hno] at hg; cases hg) | (rw [actT_yes hg, ← hB]; done) | (rw [actT_yes hg, ← hB]; refine congrArg Value.string (ByteArray.ext ?_); simp; done) | (rw [actT_yes hg, ← hB]; refine congrArg Value.string (ByteArray.ext ?_); simp [actPre, argT, map_numBA, ActR.dat, hmk]; done) | (rw [actT_no (by rw [← Bool.not_eq_true]; intro hh; have := (actOk_R hh).2 k1; exact hr (by have e : a.dat.R = a.R := rfl; omega))])
   refine WL.buildSlice hs120 Tryd.runUnderlying22 Tryd.sizeOf5 Tryd.zeroValue5 rfl rfl rfl rfl rfl rfl rfl rfl rfl rfl (fun b148 whs149 hs149 => WL.nil ⟨hs149.d1, ?_⟩)
   refine WH.strS hs149 (fun w_ h_ => h_.d1) ?_
   refine WH.take 7 rfl (by kernel_rfl) rfl rfl rfl hs149 (fun w_ hs_ => (Run.strOf (SlF.own1 ((hs_ : St _ _ _ _).own _ (nthL_mem (i := 0) rfl)).1) Tryd.underlying22 Tryd.underlying5 Tryd.underlying9 rfl rfl)) ?_
   refine WH.o1 2 rfl (WL.cl Tryd.call25 rfl (k42_ _ _ _ _ _ _ (SlF.ofOwn ho105 (hs149.ow L104)) (OwnF.cap ho105) ?_ ?_ ?_) ?_)
   · first | exact OwnF.spot (by assumption) | assumption | omega | exact tab_st ht (by assumption) | exact ⟨Nat.zero_le _, Nat.zero_le _⟩ | rfl | (simp; first | done | omega)
   · first | omega | assumption | exact tab_st ht (by assumption) | exact ⟨Nat.zero_le _, Nat.zero_le _⟩ | rfl | (simp; first | done | omega)
   · first | (exact (by rw [join_args _ rfl]; have h9 := argT_len (l := a.Args.xs); omega)) | assumption | omega | exact tab_st ht (by assumption) | exact ⟨Nat.zero_le _, Nat.zero_le _⟩ | rfl | (simp; first | done | omega)
   rintro _ whs150 ⟨rfl, hs150⟩
   replace hs150 := hs149.call0 hs150
   refine ⟨_, rfl, WL.nil ⟨hs150, ?_⟩⟩
   refine WH.strS hs150 (fun w_ h_ => h_) ?_
   refine WH.take 8 rfl (by kernel_rfl) rfl rfl rfl hs150 (fun w_ hs_ => (Run.addS rfl rfl rfl ?_)) ?_
   · (simp [ByteArray.size]; try omega)
   refine WH.take 9 rfl (by kernel_rfl) rfl rfl rfl hs150 (fun w_ hs_ => (Run.addS rfl rfl rfl ?_)) ?_
   · (simp [ByteArray.size]; try omega)
   refine WH.rn [10] hs150 [] rfl rfl (WH.dn (hK4 _ _ (WC.seq (fun K151 hK151 => WC.sr ?_))))
   refine WL.val rfl rfl rfl (Run.build rfl rfl rfl rfl (built_26)) (WL.r 1 hs150 [] rfl (WL.bytesOf hs150 Tryd.underlying9 Tryd.underlying22 Tryd.underlying5 rfl rfl rfl rfl rfl ?_ (fun A155 c156 L152 whs153 hs153 ho154 => ?_)))
   · (simp [ByteArray.size]; try omega)
   replace hs153 := St.back [_, _] hs153
   refine WL.cl Tryd.call17 rfl (k34_ ⟨_, _, ⟨_, _, _, _⟩, ⟨_, _, _, _⟩⟩ _ _ _ _ _ ⟨(SlF.nil _ _), (by first | assumption | omega | simp), (by first | assumption | omega | (simp; omega) | simp), (SlF.nil _ _), (by first | assumption | omega | simp), (by first | assumption | omega | (simp; omega) | simp)⟩ (SlF.ofOwn ho154 (hs153.ow L152)) ?_ ?_ ?_) ?_
   iterate 3 focus first | assumption | rfl | omega | exact tab_st ht (by assumption) | exact ⟨Nat.zero_le _, Nat.zero_le _⟩ | (simp; first | done | omega)
   rintro _ whs157 ⟨r0_158, L0_159, A1_160, c1_161, x1_162, L1_163, rfl, hs157, ho164, ho165, hd0_166, hd1_167⟩
   replace hs157 := hs153.callF hs157
   refine ⟨_, rfl, ?_⟩
   replace hs157 := St.assoc hs157
   replace hs157 := St.back2 [_, _] hs157
   have hp0 : r0_158.dat = (vpParse vp0 (actPre a.dat ++ [ub a.R])).1 := hd0_166.trans (congrArg (fun z => (vpParse vp0 z).1) (by simp [actPre, argT, map_numBA, ActR.dat, hmk]))
   have hp1 : x1_162.map ActR.dat = (vpParse vp0 (actPre a.dat ++ [ub a.R])).2 := hd1_167.trans (congrArg (fun z => (vpParse vp0 z).2) (by simp [actPre, argT, map_numBA, ActR.dat, hmk]))
   have hsma : ∀ y, y ∈ x1_162.map ActR.dat → smAct 549755813888 y := by intro y hy; rw [hp1] at hy; have h9 := vpParse_act (v := vp0) rfl y hy; show y.Args.length ≤ 549755813888; omega
   have hvk := vpOk_len (vpParse_ok (l := (actPre a.dat ++ [ub a.R])) (v := vp0) rfl)
   have hsv : smVp 549755813888 r0_158.dat := by rw [hp0]; exact ⟨by omega, by omega⟩
   have hl0 : r0_158.Part.xs.length = r0_158.Part.n := (ownVpR.ok (B := 549755813888) ho164 (hs157.ow L0_159) hsv).Part.len
   have hB : (actPre a.dat ++ [ub a.R]) = actBy a.dat := (by unfold actBy; rw [if_neg k1, if_neg k2, if_neg k3, if_pos k4]; rfl)
   have hG : goodI (actPre a.dat ++ [ub a.R]) a.dat = actOk a.dat := by rw [hB]; exact goodI_B a.dat
   refine WL.r 3 hs157 [] rfl (WL.al hs157 Tryd.zeroValue26 rfl rfl (fun b168 _ hs169 => WL.st tbk hs169 0 rfl rfl (fun _ hs170 => WL.r 1 hs170 [] rfl (WL.nil (WC.sq1 hs170 (WQ.r 4 [0] rfl (WQ.pO tbk 4 Acts.nil [0] rfl rfl rfl rfl (fun g_ => ⟨rfl, trivial⟩) ?_)))))))
   refine WQ.r 1 [] rfl (WQ.pO tbk 3 Acts.nil [] rfl rfl rfl rfl (fun g_ => trivial) (WQ.r 1 [] rfl ?_))
   apply WQ.gO 6 Acts.nil rfl
   ·intro g171 J172
    have qg171 := g171
    try simp only [bf, within_iff, within_not] at qg171
    refine WQ.runA tbk 1 (Acts.nil.cons (j := 14) rfl g171) [] rfl trivial ?_
    refine WQ.val (wantF rfl g171) rfl rfl (fun w_ hs_ => (Run.idx Tryd.runUnderlying27 Tryd.sizeOf33 rfl rfl rfl ?_ ?_ ?_)) ?_
    · exact SlF.some_ (OwnN.sl ho165 ((hs_ : St _ _ _ _).ow L1_163))
    · omega
    · omega
    refine WQ.val (wantF rfl g171) rfl rfl (fun w_ hs_ => (Run.loadA Tryd.isAgg33 Tryd.sizeOf33 rfl rfl (SlF.whole (OwnN.sl ho165 ((hs_ : St _ _ _ _).ow L1_163)) ?_))) ?_
    · omega
    refine WQ.runA tbk 1 (Acts.nil.cons (j := 14) rfl g171) [2] rfl ⟨rfl, trivial⟩ ?_
    refine WQ.call (wantF rfl g171) rfl rfl (fun w_ hs_ => (Run.call Tryd.call26 rfl rfl rfl)) (fun w_ hs_ => (k46_ (gat encActR x1_162 0) a _ (SlN.nth (OwnN.ok ho165 ((hs_ : St _ _ _ _).ow L1_163) (fun y Li hy h3 hl => h3.ok hl (by have h9_ := List.mem_map_of_mem (f := ActR.dat) hy; first | exact hsma _ h9_))) (by omega)) (okActR.st0 f_a (hs_ : St _ _ _ _))).mono fun e_ w_ h_ => ⟨h_.1, (hs_ : St _ _ _ _).call0 h_.2⟩) ?_
    refine WQ.runA tbk 1 (Acts.nil.cons (j := 14) rfl g171) [] rfl trivial (WQ.eO 6 Acts.nil J172 g171 rfl rfl)
   refine WQ.nil (fun _ (hs173 : St _ _ _ _) => ?_)
   refine WC.cq rfl (fun h174 qh174 => ?_) (fun h174 qh174 => ?_)
   ·have hg : actOk a.dat = false := by rw [← hG, goodI_R hp0 hp1 hl0]; have h9 := h174; grind
    refine WC.r1 hs173 [] rfl (WC.ret (tkR ?_))
    clear hK151
    refine rtv rfl rfl hs173 ?_
    first | (rw [actT_no hg]; done) | (rw [hno] at hg; cases hg) | (rw [actT_yes hg, ← hB]; done) | (rw [actT_yes hg, ← hB]; refine congrArg Value.string (ByteArray.ext ?_); simp; done) | (rw [actT_yes hg, ← hB]; refine congrArg Value.string (ByteArray.ext ?_); simp [actPre, argT, map_numBA, ActR.dat, hmk]; done) | (rw [actT_no (by rw [← Bool.not_eq_true]; intro hh; have := (actOk_R hh).2 k1; exact hr (by have e : a.dat.R = a.R := rfl; omega))])
   have hg : actOk a.dat = true := by rw [← hG, goodI_R hp0 hp1 hl0]; have h9 := h174; grind
   refine WC.skip (hK151 _ _ (WC.r1 hs173 [] rfl (WC.ret (rtv rfl rfl hs173 ?_))))
   first | (rw [actT_no hg]; done) | (rw [hno] at hg; cases hg) | (rw [actT_yes hg, ← hB]; done) | (rw [actT_yes hg, ← hB]; refine congrArg Value.string (ByteArray.ext ?_); simp; done) | (rw [actT_yes hg, ← hB]; refine congrArg Value.string (ByteArray.ext ?_); simp [actPre, argT, map_numBA, ActR.dat, hmk]; done) | (rw [actT_no (by rw [← Bool.not_eq_true]; intro hh; have := (actOk_R hh).2 k1; exact hr (by have e : a.dat.R = a.R := rfl; omega))])
  have hmk : a.Mark = false := h119
  refine WC.skip (hK118 _ _ (WC.rH hs106 hs106 (fun _ hs175 => ?_)))
  refine WH.rn [0, 1, 3, 4, 5] hs175 [0] rfl rfl (WH.all [2, 6] (by kernel_rfl) rfl (WHs.cons (i := 2) rfl ?_ (WHs.cons (i := 6) rfl ?_ WHs.nil)))
  ·refine WL.cl Tryd.call25 rfl (k42_ _ _ _ _ _ _ (SlF.ofOwn ho105 (hs175.ow L104)) (OwnF.cap ho105) ?_ ?_ ?_) ?_
   · first | exact OwnF.spot (by assumption) | assumption | omega | exact tab_st ht (by assumption) | exact ⟨Nat.zero_le _, Nat.zero_le _⟩ | rfl | (simp; first | done | omega)
   · first | omega | assumption | exact tab_st ht (by assumption) | exact ⟨Nat.zero_le _, Nat.zero_le _⟩ | rfl | (simp; first | done | omega)
   · first | (exact (by rw [join_args _ rfl]; have h9 := argT_len (l := a.Args.xs); omega)) | assumption | omega | exact tab_st ht (by assumption) | exact ⟨Nat.zero_le _, Nat.zero_le _⟩ | rfl | (simp; first | done | omega)
   rintro _ whs176 ⟨rfl, hs176⟩
   replace hs176 := hs175.call0 hs176
   refine ⟨_, rfl, WL.nil ⟨hs176, ?_⟩⟩
   refine WH.strS hs176 (fun w_ h_ => h_) ?_
   refine WH.o1 6 rfl (WL.buildSlice hs176 Tryd.runUnderlying22 Tryd.sizeOf5 Tryd.zeroValue5 rfl rfl rfl rfl rfl rfl rfl rfl rfl rfl (fun b177 whs178 hs178 => WL.nil ⟨hs178.d1, ?_⟩))
   refine WH.strS hs178 (fun w_ h_ => h_.d1) ?_
   refine WH.take 7 rfl (by kernel_rfl) rfl rfl rfl hs178 (fun w_ hs_ => (Run.strOf (SlF.own1 ((hs_ : St _ _ _ _).own _ (nthL_mem (i := 0) rfl)).1) Tryd.underlying22 Tryd.underlying5 Tryd.underlying9 rfl rfl)) ?_
   refine WH.take 8 rfl (by kernel_rfl) rfl rfl rfl hs178 (fun w_ hs_ => (Run.addS rfl rfl rfl ?_)) ?_
   · (simp [ByteArray.size]; try omega)
   refine WH.take 9 rfl (by kernel_rfl) rfl rfl rfl hs178 (fun w_ hs_ => (Run.addS rfl rfl rfl ?_)) ?_
   · (simp [ByteArray.size]; try omega)
   refine WH.rn [10] hs178 [] rfl rfl (WH.dn (hK4 _ _ (WC.seq (fun K179 hK179 => WC.sr ?_))))
   refine WL.val rfl rfl rfl (Run.build rfl rfl rfl rfl (built_26)) (WL.r 1 hs178 [] rfl (WL.bytesOf hs178 Tryd.underlying9 Tryd.underlying22 Tryd.underlying5 rfl rfl rfl rfl rfl ?_ (fun A183 c184 L180 whs181 hs181 ho182 => ?_)))
   · (simp [ByteArray.size]; try omega)
   replace hs181 := St.back [_, _] hs181
   refine WL.cl Tryd.call17 rfl (k34_ ⟨_, _, ⟨_, _, _, _⟩, ⟨_, _, _, _⟩⟩ _ _ _ _ _ ⟨(SlF.nil _ _), (by first | assumption | omega | simp), (by first | assumption | omega | (simp; omega) | simp), (SlF.nil _ _), (by first | assumption | omega | simp), (by first | assumption | omega | (simp; omega) | simp)⟩ (SlF.ofOwn ho182 (hs181.ow L180)) ?_ ?_ ?_) ?_
   iterate 3 focus first | assumption | rfl | omega | exact tab_st ht (by assumption) | exact ⟨Nat.zero_le _, Nat.zero_le _⟩ | (simp; first | done | omega)
   rintro _ whs185 ⟨r0_186, L0_187, A1_188, c1_189, x1_190, L1_191, rfl, hs185, ho192, ho193, hd0_194, hd1_195⟩
   replace hs185 := hs181.callF hs185
   refine ⟨_, rfl, ?_⟩
   replace hs185 := St.assoc hs185
   replace hs185 := St.back2 [_, _] hs185
   have hp0 : r0_186.dat = (vpParse vp0 (actPre a.dat ++ [ub a.R])).1 := hd0_194.trans (congrArg (fun z => (vpParse vp0 z).1) (by simp [actPre, argT, map_numBA, ActR.dat, hmk]))
   have hp1 : x1_190.map ActR.dat = (vpParse vp0 (actPre a.dat ++ [ub a.R])).2 := hd1_195.trans (congrArg (fun z => (vpParse vp0 z).2) (by simp [actPre, argT, map_numBA, ActR.dat, hmk]))
   have hsma : ∀ y, y ∈ x1_190.map ActR.dat → smAct 549755813888 y := by intro y hy; rw [hp1] at hy; have h9 := vpParse_act (v := vp0) rfl y hy; show y.Args.length ≤ 549755813888; omega
   have hvk := vpOk_len (vpParse_ok (l := (actPre a.dat ++ [ub a.R])) (v := vp0) rfl)
   have hsv : smVp 549755813888 r0_186.dat := by rw [hp0]; exact ⟨by omega, by omega⟩
   have hl0 : r0_186.Part.xs.length = r0_186.Part.n := (ownVpR.ok (B := 549755813888) ho192 (hs185.ow L0_187) hsv).Part.len
   have hB : (actPre a.dat ++ [ub a.R]) = actBy a.dat := (by unfold actBy; rw [if_neg k1, if_neg k2, if_neg k3, if_pos k4]; rfl)
   have hG : goodI (actPre a.dat ++ [ub a.R]) a.dat = actOk a.dat := by rw [hB]; exact goodI_B a.dat
   refine WL.r 3 hs185 [] rfl (WL.al hs185 Tryd.zeroValue26 rfl rfl (fun b196 _ hs197 => WL.st tbk hs197 0 rfl rfl (fun _ hs198 => WL.r 1 hs198 [] rfl (WL.nil (WC.sq1 hs198 (WQ.r 4 [0] rfl (WQ.pO tbk 4 Acts.nil [0] rfl rfl rfl rfl (fun g_ => ⟨rfl, trivial⟩) ?_)))))))
   refine WQ.r 1 [] rfl (WQ.pO tbk 3 Acts.nil [] rfl rfl rfl rfl (fun g_ => trivial) (WQ.r 1 [] rfl ?_))
   apply WQ.gO 6 Acts.nil rfl
   ·intro g199 J200
    have qg199 := g199
    try simp only [bf, within_iff, within_not] at qg199
    refine WQ.runA tbk 1 (Acts.nil.cons (j := 14) rfl g199) [] rfl trivial ?_
    refine WQ.val (wantF rfl g199) rfl rfl (fun w_ hs_ => (Run.idx Tryd.runUnderlying27 Tryd.sizeOf33 rfl rfl rfl ?_ ?_ ?_)) ?_
    · exact SlF.some_ (OwnN.sl ho193 ((hs_ : St _ _ _ _).ow L1_191))
    · omega
    · omega
    refine WQ.val (wantF rfl g199) rfl rfl (fun w_ hs_ => (Run.loadA Tryd.isAgg33 Tryd.sizeOf33 rfl rfl (SlF.whole (OwnN.sl ho193 ((hs_ : St _ _ _ _).ow L1_191)) ?_))) ?_
    · omega
    refine WQ.runA tbk 1 (Acts.nil.cons (j := 14) rfl g199) [2] rfl ⟨rfl, trivial⟩ ?_
    refine WQ.call (wantF rfl g199) rfl rfl (fun w_ hs_ => (Run.call Tryd.call26 rfl rfl rfl)) (fun w_ hs_ => (k46_ (gat encActR x1_190 0) a _ (SlN.nth (OwnN.ok ho193 ((hs_ : St _ _ _ _).ow L1_191) (fun y Li hy h3 hl => h3.ok hl (by have h9_ := List.mem_map_of_mem (f := ActR.dat) hy; first | exact hsma _ h9_))) (by omega)) (okActR.st0 f_a (hs_ : St _ _ _ _))).mono fun e_ w_ h_ => ⟨h_.1, (hs_ : St _ _ _ _).call0 h_.2⟩) ?_
    refine WQ.runA tbk 1 (Acts.nil.cons (j := 14) rfl g199) [] rfl trivial (WQ.eO 6 Acts.nil J200 g199 rfl rfl)
   refine WQ.nil (fun _ (hs201 : St _ _ _ _) => ?_)
   refine WC.cq rfl (fun h202 qh202 => ?_) (fun h202 qh202 => ?_)
   ·have hg : actOk a.dat = false := by rw [← hG, goodI_R hp0 hp1 hl0]; have h9 := h202; grind
    refine WC.r1 hs201 [] rfl (WC.ret (tkR ?_))
    clear hK179
    refine rtv rfl rfl hs201 ?_
    first | (rw [actT_no hg]; done) | (rw [hno] at hg; cases hg) | (rw [actT_yes hg, ← hB]; done) | (rw [actT_yes hg, ← hB]; refine congrArg Value.string (ByteArray.ext ?_); simp; done) | (rw [actT_yes hg, ← hB]; refine congrArg Value.string (ByteArray.ext ?_); simp [actPre, argT, map_numBA, ActR.dat, hmk]; done) | (rw [actT_no (by rw [← Bool.not_eq_true]; intro hh; have := (actOk_R hh).2 k1; exact hr (by have e : a.dat.R = a.R := rfl; omega))])
   have hg : actOk a.dat = true := by rw [← hG, goodI_R hp0 hp1 hl0]; have h9 := h202; grind
   refine WC.skip (hK179 _ _ (WC.r1 hs201 [] rfl (WC.ret (rtv rfl rfl hs201 ?_))))
   first | (rw [actT_no hg]; done) | (rw [hno] at hg; cases hg) | (rw [actT_yes hg, ← hB]; done) | (rw [actT_yes hg, ← hB]; refine congrArg Value.string (ByteArray.ext ?_); simp; done) | (rw [actT_yes hg, ← hB]; refine congrArg Value.string (ByteArray.ext ?_); simp [actPre, argT, map_numBA, ActR.dat, hmk]; done) | (rw [actT_no (by rw [← Bool.not_eq_true]; intro hh; have := (actOk_R hh).2 k1; exact hr (by have e : a.dat.R = a.R := rfl; omega))])
  refine WL.buildSlice hs175 Tryd.runUnderlying22 Tryd.sizeOf5 Tryd.zeroValue5 rfl rfl rfl rfl rfl rfl rfl rfl rfl rfl (fun b203 whs204 hs204 => WL.nil ⟨hs204.d1, ?_⟩)
  refine WH.strS hs204 (fun w_ h_ => h_.d1) ?_
  refine WH.take 7 rfl (by kernel_rfl) rfl rfl rfl hs204 (fun w_ hs_ => (Run.strOf (SlF.own1 ((hs_ : St _ _ _ _).own _ (nthL_mem (i := 0) rfl)).1) Tryd.underlying22 Tryd.underlying5 Tryd.underlying9 rfl rfl)) ?_
  refine WH.o1 2 rfl (WL.cl Tryd.call25 rfl (k42_ _ _ _ _ _ _ (SlF.ofOwn ho105 (hs204.ow L104)) (OwnF.cap ho105) ?_ ?_ ?_) ?_)
  · first | exact OwnF.spot (by assumption) | assumption | omega | exact tab_st ht (by assumption) | exact ⟨Nat.zero_le _, Nat.zero_le _⟩ | rfl | (simp; first | done | omega)
  · first | omega | assumption | exact tab_st ht (by assumption) | exact ⟨Nat.zero_le _, Nat.zero_le _⟩ | rfl | (simp; first | done | omega)
  · first | (exact (by rw [join_args _ rfl]; have h9 := argT_len (l := a.Args.xs); omega)) | assumption | omega | exact tab_st ht (by assumption) | exact ⟨Nat.zero_le _, Nat.zero_le _⟩ | rfl | (simp; first | done | omega)
  rintro _ whs205 ⟨rfl, hs205⟩
  replace hs205 := hs204.call0 hs205
  refine ⟨_, rfl, WL.nil ⟨hs205, ?_⟩⟩
  refine WH.strS hs205 (fun w_ h_ => h_) ?_
  refine WH.take 8 rfl (by kernel_rfl) rfl rfl rfl hs205 (fun w_ hs_ => (Run.addS rfl rfl rfl ?_)) ?_
  · (simp [ByteArray.size]; try omega)
  refine WH.take 9 rfl (by kernel_rfl) rfl rfl rfl hs205 (fun w_ hs_ => (Run.addS rfl rfl rfl ?_)) ?_
  · (simp [ByteArray.size]; try omega)
  refine WH.rn [10] hs205 [] rfl rfl (WH.dn (hK4 _ _ (WC.seq (fun K206 hK206 => WC.sr ?_))))
  refine WL.val rfl rfl rfl (Run.build rfl rfl rfl rfl (built_26)) (WL.r 1 hs205 [] rfl (WL.bytesOf hs205 Tryd.underlying9 Tryd.underlying22 Tryd.underlying5 rfl rfl rfl rfl rfl ?_ (fun A210 c211 L207 whs208 hs208 ho209 => ?_)))
  · (simp [ByteArray.size]; try omega)
  replace hs208 := St.back [_, _] hs208
  refine WL.cl Tryd.call17 rfl (k34_ ⟨_, _, ⟨_, _, _, _⟩, ⟨_, _, _, _⟩⟩ _ _ _ _ _ ⟨(SlF.nil _ _), (by first | assumption | omega | simp), (by first | assumption | omega | (simp; omega) | simp), (SlF.nil _ _), (by first | assumption | omega | simp), (by first | assumption | omega | (simp; omega) | simp)⟩ (SlF.ofOwn ho209 (hs208.ow L207)) ?_ ?_ ?_) ?_
  iterate 3 focus first | assumption | rfl | omega | exact tab_st ht (by assumption) | exact ⟨Nat.zero_le _, Nat.zero_le _⟩ | (simp; first | done | omega)
  rintro _ whs212 ⟨r0_213, L0_214, A1_215, c1_216, x1_217, L1_218, rfl, hs212, ho219, ho220, hd0_221, hd1_222⟩
  replace hs212 := hs208.callF hs212
  refine ⟨_, rfl, ?_⟩
  replace hs212 := St.assoc hs212
  replace hs212 := St.back2 [_, _] hs212
  have hp0 : r0_213.dat = (vpParse vp0 (actPre a.dat ++ [ub a.R])).1 := hd0_221.trans (congrArg (fun z => (vpParse vp0 z).1) (by simp [actPre, argT, map_numBA, ActR.dat, hmk]))
  have hp1 : x1_217.map ActR.dat = (vpParse vp0 (actPre a.dat ++ [ub a.R])).2 := hd1_222.trans (congrArg (fun z => (vpParse vp0 z).2) (by simp [actPre, argT, map_numBA, ActR.dat, hmk]))
  have hsma : ∀ y, y ∈ x1_217.map ActR.dat → smAct 549755813888 y := by intro y hy; rw [hp1] at hy; have h9 := vpParse_act (v := vp0) rfl y hy; show y.Args.length ≤ 549755813888; omega
  have hvk := vpOk_len (vpParse_ok (l := (actPre a.dat ++ [ub a.R])) (v := vp0) rfl)
  have hsv : smVp 549755813888 r0_213.dat := by rw [hp0]; exact ⟨by omega, by omega⟩
  have hl0 : r0_213.Part.xs.length = r0_213.Part.n := (ownVpR.ok (B := 549755813888) ho219 (hs212.ow L0_214) hsv).Part.len
  have hB : (actPre a.dat ++ [ub a.R]) = actBy a.dat := (by unfold actBy; rw [if_neg k1, if_neg k2, if_neg k3, if_pos k4]; rfl)
  have hG : goodI (actPre a.dat ++ [ub a.R]) a.dat = actOk a.dat := by rw [hB]; exact goodI_B a.dat
  refine WL.r 3 hs212 [] rfl (WL.al hs212 Tryd.zeroValue26 rfl rfl (fun b223 _ hs224 => WL.st tbk hs224 0 rfl rfl (fun _ hs225 => WL.r 1 hs225 [] rfl (WL.nil (WC.sq1 hs225 (WQ.r 4 [0] rfl (WQ.pO tbk 4 Acts.nil [0] rfl rfl rfl rfl (fun g_ => ⟨rfl, trivial⟩) ?_)))))))
  refine WQ.r 1 [] rfl (WQ.pO tbk 3 Acts.nil [] rfl rfl rfl rfl (fun g_ => trivial) (WQ.r 1 [] rfl ?_))
  apply WQ.gO 6 Acts.nil rfl
  ·intro g226 J227
   have qg226 := g226
   try simp only [bf, within_iff, within_not] at qg226
   refine WQ.runA tbk 1 (Acts.nil.cons (j := 14) rfl g226) [] rfl trivial ?_
   refine WQ.val (wantF rfl g226) rfl rfl (fun w_ hs_ => (Run.idx Tryd.runUnderlying27 Tryd.sizeOf33 rfl rfl rfl ?_ ?_ ?_)) ?_
   · exact SlF.some_ (OwnN.sl ho220 ((hs_ : St _ _ _ _).ow L1_218))
   · omega
   · omega
   refine WQ.val (wantF rfl g226) rfl rfl (fun w_ hs_ => (Run.loadA Tryd.isAgg33 Tryd.sizeOf33 rfl rfl (SlF.whole (OwnN.sl ho220 ((hs_ : St _ _ _ _).ow L1_218)) ?_))) ?_
   · omega
   refine WQ.runA tbk 1 (Acts.nil.cons (j := 14) rfl g226) [2] rfl ⟨rfl, trivial⟩ ?_
   refine WQ.call (wantF rfl g226) rfl rfl (fun w_ hs_ => (Run.call Tryd.call26 rfl rfl rfl)) (fun w_ hs_ => (k46_ (gat encActR x1_217 0) a _ (SlN.nth (OwnN.ok ho220 ((hs_ : St _ _ _ _).ow L1_218) (fun y Li hy h3 hl => h3.ok hl (by have h9_ := List.mem_map_of_mem (f := ActR.dat) hy; first | exact hsma _ h9_))) (by omega)) (okActR.st0 f_a (hs_ : St _ _ _ _))).mono fun e_ w_ h_ => ⟨h_.1, (hs_ : St _ _ _ _).call0 h_.2⟩) ?_
   refine WQ.runA tbk 1 (Acts.nil.cons (j := 14) rfl g226) [] rfl trivial (WQ.eO 6 Acts.nil J227 g226 rfl rfl)
  refine WQ.nil (fun _ (hs228 : St _ _ _ _) => ?_)
  refine WC.cq rfl (fun h229 qh229 => ?_) (fun h229 qh229 => ?_)
  ·have hg : actOk a.dat = false := by rw [← hG, goodI_R hp0 hp1 hl0]; have h9 := h229; grind
   refine WC.r1 hs228 [] rfl (WC.ret (tkR ?_))
   clear hK206
   refine rtv rfl rfl hs228 ?_
   first | (rw [actT_no hg]; done) | (rw [hno] at hg; cases hg) | (rw [actT_yes hg, ← hB]; done) | (rw [actT_yes hg, ← hB]; refine congrArg Value.string (ByteArray.ext ?_); simp; done) | (rw [actT_yes hg, ← hB]; refine congrArg Value.string (ByteArray.ext ?_); simp [actPre, argT, map_numBA, ActR.dat, hmk]; done) | (rw [actT_no (by rw [← Bool.not_eq_true]; intro hh; have := (actOk_R hh).2 k1; exact hr (by have e : a.dat.R = a.R := rfl; omega))])
  have hg : actOk a.dat = true := by rw [← hG, goodI_R hp0 hp1 hl0]; have h9 := h229; grind
  refine WC.skip (hK206 _ _ (WC.r1 hs228 [] rfl (WC.ret (rtv rfl rfl hs228 ?_))))
  first | (rw [actT_no hg]; done) | (rw [hno] at hg; cases hg) | (rw [actT_yes hg, ← hB]; done) | (rw [actT_yes hg, ← hB]; refine congrArg Value.string (ByteArray.ext ?_); simp; done) | (rw [actT_yes hg, ← hB]; refine congrArg Value.string (ByteArray.ext ?_); simp [actPre, argT, map_numBA, ActR.dat, hmk]; done) | (rw [actT_no (by rw [← Bool.not_eq_true]; intro hh; have := (actOk_R hh).2 k1; exact hr (by have e : a.dat.R = a.R := rfl; omega))])
 have k4 : ¬ (a.dat.Kind = 4 ∧ areArgs a.Args.xs = true) := (show ¬ (a.Kind = 4 ∧ areArgs a.Args.xs = true) by have h9 := h95; simpa using h9)
 have hno : actOk a.dat = false := by rw [← Bool.not_eq_true]; intro hh; rcases actOk_kind hh with h9 | h9 | h9 | h9; exact k1 h9; exact k2 h9; exact k3 h9; exact k4 ⟨h9, actOk_args hh⟩
 refine WC.skip (hK4 _ _ (WC.seq (fun K230 hK230 => WC.sr ?_)))
 refine WL.val rfl rfl rfl (Run.build rfl rfl rfl rfl (built_26)) (WL.r 1 hs94 [] rfl (WL.bytesOf hs94 Tryd.underlying9 Tryd.underlying22 Tryd.underlying5 rfl rfl rfl rfl rfl ?_ (fun A234 c235 L231 whs232 hs232 ho233 => ?_)))
 · (simp [ByteArray.size]; try omega)
 replace hs232 := St.back [_] hs232
 refine WL.cl Tryd.call17 rfl (k34_ ⟨_, _, ⟨_, _, _, _⟩, ⟨_, _, _, _⟩⟩ _ _ _ _ _ ⟨(SlF.nil _ _), (by first | assumption | omega | simp), (by first | assumption | omega | (simp; omega) | simp), (SlF.nil _ _), (by first | assumption | omega | simp), (by first | assumption | omega | (simp; omega) | simp)⟩ (SlF.ofOwn ho233 (hs232.ow L231)) ?_ ?_ ?_) ?_
 iterate 3 focus first | assumption | rfl | omega | exact tab_st ht (by assumption) | exact ⟨Nat.zero_le _, Nat.zero_le _⟩ | (simp; first | done | omega)
 rintro _ whs236 ⟨r0_237, L0_238, A1_239, c1_240, x1_241, L1_242, rfl, hs236, ho243, ho244, hd0_245, hd1_246⟩
 replace hs236 := hs232.callF hs236
 refine ⟨_, rfl, ?_⟩
 replace hs236 := St.assoc hs236
 replace hs236 := St.back2 [_] hs236
 have hp0 : r0_237.dat = (vpParse vp0 ([] : List UInt8)).1 := hd0_245.trans (congrArg (fun z => (vpParse vp0 z).1) (by simp))
 have hp1 : x1_241.map ActR.dat = (vpParse vp0 ([] : List UInt8)).2 := hd1_246.trans (congrArg (fun z => (vpParse vp0 z).2) (by simp))
 have hsma : ∀ y, y ∈ x1_241.map ActR.dat → smAct 549755813888 y := by intro y hy; rw [hp1] at hy; have h9 := vpParse_act (v := vp0) rfl y hy; show y.Args.length ≤ 549755813888; omega
 have hvk := vpOk_len (vpParse_ok (l := ([] : List UInt8)) (v := vp0) rfl)
 have hsv : smVp 549755813888 r0_237.dat := by rw [hp0]; exact ⟨by omega, by omega⟩
 have hl0 : r0_237.Part.xs.length = r0_237.Part.n := (ownVpR.ok (B := 549755813888) ho243 (hs236.ow L0_238) hsv).Part.len
 have hG : goodI ([] : List UInt8) a.dat = actOk a.dat := by rw [hno]; rfl
 refine WL.r 3 hs236 [] rfl (WL.al hs236 Tryd.zeroValue26 rfl rfl (fun b247 _ hs248 => WL.st tbk hs248 0 rfl rfl (fun _ hs249 => WL.r 1 hs249 [] rfl (WL.nil (WC.sq1 hs249 (WQ.r 4 [0] rfl (WQ.pO tbk 4 Acts.nil [0] rfl rfl rfl rfl (fun g_ => ⟨rfl, trivial⟩) ?_)))))))
 refine WQ.r 1 [] rfl (WQ.pO tbk 3 Acts.nil [] rfl rfl rfl rfl (fun g_ => trivial) (WQ.r 1 [] rfl ?_))
 apply WQ.gO 6 Acts.nil rfl
 ·intro g250 J251
  have qg250 := g250
  try simp only [bf, within_iff, within_not] at qg250
  refine WQ.runA tbk 1 (Acts.nil.cons (j := 14) rfl g250) [] rfl trivial ?_
  refine WQ.val (wantF rfl g250) rfl rfl (fun w_ hs_ => (Run.idx Tryd.runUnderlying27 Tryd.sizeOf33 rfl rfl rfl ?_ ?_ ?_)) ?_
  · exact SlF.some_ (OwnN.sl ho244 ((hs_ : St _ _ _ _).ow L1_242))
  · omega
  · omega
  refine WQ.val (wantF rfl g250) rfl rfl (fun w_ hs_ => (Run.loadA Tryd.isAgg33 Tryd.sizeOf33 rfl rfl (SlF.whole (OwnN.sl ho244 ((hs_ : St _ _ _ _).ow L1_242)) ?_))) ?_
  · omega
  refine WQ.runA tbk 1 (Acts.nil.cons (j := 14) rfl g250) [1] rfl ⟨rfl, trivial⟩ ?_
  refine WQ.call (wantF rfl g250) rfl rfl (fun w_ hs_ => (Run.call Tryd.call26 rfl rfl rfl)) (fun w_ hs_ => (k46_ (gat encActR x1_241 0) a _ (SlN.nth (OwnN.ok ho244 ((hs_ : St _ _ _ _).ow L1_242) (fun y Li hy h3 hl => h3.ok hl (by have h9_ := List.mem_map_of_mem (f := ActR.dat) hy; first | exact hsma _ h9_))) (by omega)) (okActR.st0 f_a (hs_ : St _ _ _ _))).mono fun e_ w_ h_ => ⟨h_.1, (hs_ : St _ _ _ _).call0 h_.2⟩) ?_
  refine WQ.runA tbk 1 (Acts.nil.cons (j := 14) rfl g250) [] rfl trivial (WQ.eO 6 Acts.nil J251 g250 rfl rfl)
 refine WQ.nil (fun _ (hs252 : St _ _ _ _) => ?_)
 refine WC.cq rfl (fun h253 qh253 => ?_) (fun h253 qh253 => ?_)
 ·have hg : actOk a.dat = false := by rw [← hG, goodI_R hp0 hp1 hl0]; have h9 := h253; grind
  refine WC.r1 hs252 [] rfl (WC.ret (tkR ?_))
  clear hK230
  refine rtv rfl rfl hs252 ?_
  first | (rw [actT_no hg]; done) | (rw [hno] at hg; cases hg) | (rw [actT_yes hg, ← hB]; done) | (rw [actT_yes hg, ← hB]; refine congrArg Value.string (ByteArray.ext ?_); simp; done) | (rw [actT_yes hg, ← hB]; refine congrArg Value.string (ByteArray.ext ?_); simp [actPre, argT, map_numBA, ActR.dat, hmk]; done) | (rw [actT_no (by rw [← Bool.not_eq_true]; intro hh; have := (actOk_R hh).2 k1; exact hr (by have e : a.dat.R = a.R := rfl; omega))])
 have hg : actOk a.dat = true := by rw [← hG, goodI_R hp0 hp1 hl0]; have h9 := h253; grind
 refine WC.skip (hK230 _ _ (WC.r1 hs252 [] rfl (WC.ret (rtv rfl rfl hs252 ?_))))
 first | (rw [actT_no hg]; done) | (rw [hno] at hg; cases hg) | (rw [actT_yes hg, ← hB]; done) | (rw [actT_yes hg, ← hB]; refine congrArg Value.string (ByteArray.ext ?_); simp; done) | (rw [actT_yes hg, ← hB]; refine congrArg Value.string (ByteArray.ext ?_); simp [actPre, argT, map_numBA, ActR.dat, hmk]; done) | (rw [actT_no (by rw [← Bool.not_eq_true]; intro hh; have := (actOk_R hh).2 k1; exact hr (by have e : a.dat.R = a.R := rfl; omega))])
theorem vpBytes_ok {v : VpD} {s : List UInt8} (h : vpOk v = true) : vpBytes v s = vpParse v s := by unfold vpBytes; rw [if_pos h]
theorem halves (zs : List UInt8) (k : Nat) : vpParse vp0 zs = ((vpParse (vpParse vp0 (zs.take k)).1 (zs.drop k)).1, (vpParse vp0 (zs.take k)).2 ++ (vpParse (vpParse vp0 (zs.take k)).1 (zs.drop k)).2) := by
 conv => lhs; rw [← List.take_append_drop k zs]
 exact vpParse_append
theorem acts_small {l : List UInt8} {v : VpD} (h : vpOk v = true) : ∀ y, y ∈ (vpParse v l).2 → smAct 549755813888 y := fun y hy => Nat.le_trans (vpParse_act h y hy) (by decide)
theorem actT_bytes {a : ActD} (h : actOk a = true) : (actT a).data.toList = actBy a := by rw [actT_yes h]
theorem actT_ne {a : ActD} (h : actOk a = true) : ¬ actT a = ⟨#[]⟩ := by
 intro hh
 have h1 := actT_bytes h
 rw [hh] at h1
 exact (actT_back h).2 h1.symm
theorem actT_len {a : ActD} (h : actOk a = true) : (actT a).data.toList.length ≤ 200 := by
 rw [actT_bytes h]
 exact actBy_len (areArgs_iff.1 (actOk_args h)).1
theorem actT_size {a : ActD} (h : actOk a = true) : (actT a).size ≤ 200 := by
 have h1 := actT_len h
 rwa [Array.length_toList] at h1
end Go.Proofs.YtpbflopkkfihaaaDoor
