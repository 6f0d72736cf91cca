/- Walks of Go functions, printed by a program (wip/gen). -/
import Derived.Test.YtlmcekfdlgkffaaP7
namespace Go.Proofs.Ytlmcekfdlgkffaa
open Go Go.RowKit
set_option linter.unusedVariables false
set_option linter.unusedSimpArgs false
theorem c_spec_l08Csi (p : VpR) (L_p : Hp) (b : Int) (w : World) (o_p : ownVpR p L_p) (h_p : ∀ p, p ∈ L_p → w.heap[p.1]? = some p.2) (hd_ : ((L_p).map (·.1)).Nodup) (hsm : smVp 1048576 p.dat) (hok : areArgs p.dat.Args = true) (hb : 0 ≤ b ∧ b ≤ 255) :
    Calls Try.prog 69 #[.agg #[i64 p.State, .bool p.Mark, .slice p.Args.A p.Args.n p.Args.c, .slice p.Part.A p.Part.n p.Part.c], i64 b] w fun e w' => ∃ r0 L0 r1 L1, e = .returned (.tuple #[.agg #[i64 r0.State, .bool r0.Mark, .slice r0.Args.A r0.Args.n r0.Args.c, .slice r0.Part.A r0.Part.n r0.Part.c], .agg #[i64 r1.Kind, i64 r1.R, .bool r1.Mark, .slice r1.Args.A r1.Args.n r1.Args.c]]) ∧ St w (L_p.map (·.1)) (L0 ++ L1) w' ∧ ownVpR r0 L0 ∧ ownActR r1 L1 ∧ r0.dat = (vpCsi p.dat b).1 ∧ r1.dat = (vpCsi p.dat b).2 := by
 have hsB : smVp 1099511627776 p.dat := ⟨Nat.le_trans hsm.1 (by decide), Nat.le_trans hsm.2 (by decide)⟩
 have hsa : p.Args.xs.length ≤ 1048576 := hsm.1
 have hsp : p.Part.xs.length ≤ 1048576 := hsm.2
 obtain ⟨hal, hpl⟩ := ownVpR.len o_p
 have h88 : p.Args.xs.length ≤ 8 := (areArgs_iff.1 hok).1
 refine enter (vs := [.agg #[i64 p.State, .bool p.Mark, .slice p.Args.A p.Args.n p.Args.c, .slice p.Part.A p.Part.n p.Part.c], i64 b]) 109 Try.func69 rfl Try.ntmps69 rfl rfl ?_
 have hs1 := St.takes1 w L_p h_p hd_
 refine WC.sr ?_
 refine WL.bx hs1 rfl (fun b2 _ hs3 => ?_)
 refine WL.al hs3 Try.zeroValue25 rfl rfl (fun b4 _ hs5 => ?_)
 refine WL.al hs5 Try.zeroValue44 rfl rfl (fun b6 _ hs7 => ?_)
 refine WL.nil ?_
 refine WC.seq (fun K8 hK8 => ?_)
 refine WC.block ?_
 refine WC.sr ?_
 refine WL.run tbk 3 hs7 [] rfl trivial ?_
 refine WL.pA tbk 4 Acts.nil hs7 [2] rfl rfl rfl rfl (fun g_ => ⟨rfl, trivial⟩) ?_
 refine WL.run tbk 1 hs7 [] rfl trivial ?_
 refine WL.pA tbk 3 Acts.nil hs7 [2] rfl rfl rfl rfl (fun g_ => ⟨rfl, trivial⟩) ?_
 refine WL.run tbk 1 hs7 [] rfl trivial ?_
 refine WL.nil ?_
 refine WC.cond rfl (fun h9 => ?_) (fun h9 => ?_)
 ·have qh9 := h9
  try simp only [bf, within_iff, within_not] at qh9
  have hc1 : (b = 63 ∧ p.dat.Args.length = 0) ∧ p.dat.Mark = false := by show (b = 63 ∧ p.Args.xs.length = 0) ∧ p.Mark = false; simp at qh9; exact ⟨⟨qh9.1.1, by omega⟩, qh9.2⟩
  refine WC.region ?_
  refine WL.run tbk 1 hs7 [] rfl trivial ?_
  refine WL.st tbk hs7 2 rfl rfl (fun _ hs10 => ?_)
  refine WL.nil ?_
  refine hK8 _ _ ?_
  refine WC.sr ?_
  refine WL.run tbk 1 hs10 [2] rfl ⟨rfl, trivial⟩ ?_
  refine WL.val rfl rfl rfl (Run.build rfl rfl rfl rfl (built_44)) ?_
  refine WL.st tbk hs10 1 rfl rfl (fun _ hs11 => ?_)
  refine WL.st tbk hs11 0 rfl rfl (fun _ hs12 => ?_)
  refine WL.nil ?_
  refine WC.ret ?_
  refine retV2 rfl (resV.cellA tbk hs12 1 rfl rfl rfl rfl) (resV.cellA tbk hs12 0 rfl rfl rfl rfl) ?_
  have hv : vpCsi p.dat b = ({ p.dat with Mark := true }, act0) := by unfold vpCsi; rw [if_pos hc1]
  obtain ⟨L13, L14, hs17, ho15, ho16⟩ := ownVpR.open_ (St.perm hs12 (L' := L_p ++ _) (perm_front (A := [_, _, _]) (List.Perm.refl _))) o_p
  have hs18 := (St.perm (St.perm (St.perm hs17 (L' := [_] ++ _) (perm_front (A := L13) (perm_front (A := L14) (perm_front (A := [_, _]) (List.Perm.refl _))))) (L' := [_] ++ _) (perm_front (A := [_]) (perm_front (A := L13) (perm_front (A := L14) (perm_front (A := [_]) (List.Perm.refl _)))))) (L' := [_] ++ _) (perm_front (A := [_, _]) (perm_front (A := L13) (perm_front (A := L14) (List.Perm.refl _)))))
  obtain ⟨L20, hs19, ho21⟩ := ownVpR.fold ⟨0, false, ⟨_, _, _, _⟩, ⟨_, _, _, _⟩⟩ (St.perm (St.perm hs18 (L' := L14 ++ _) (perm_front (A := [_, _, _]) (perm_front (A := L13) (List.Perm.refl _)))) (L' := L13 ++ _) (perm_front (A := L14) (perm_front (A := [_, _, _]) (List.Perm.refl _)))) ho15 ho16
  have hs22 := (St.perm (St.perm (St.perm hs19 (L' := [_] ++ _) (perm_front (A := L20) (perm_front (A := [_, _]) (List.Perm.refl _)))) (L' := [_] ++ _) (perm_front (A := [_]) (perm_front (A := L20) (perm_front (A := [_]) (List.Perm.refl _))))) (L' := [_] ++ _) (perm_front (A := [_, _]) (perm_front (A := L20) (List.Perm.refl _))))
  refine ⟨⟨p.State, true, SlD.of ho15, SlD.of ho16⟩, _, ⟨0, 0, false, ⟨none, 0, 0, []⟩⟩, _, rfl, (St.drop (St.perm (St.perm hs22 (L' := ([] : Hp) ++ _) (perm_front (A := [_, _, _]) (List.Perm.refl _))) (L' := L20 ++ _) (perm_front (A := ([] : Hp)) (perm_front (A := [_, _, _]) (List.Perm.refl _)))) (List.Sublist.append_left (List.sublist_append_left ([] : Hp) _) L20)), ?_, ?_, ?_, ?_⟩
  · exact (by exact ho21)
  · exact (OwnF.nil _ _)
  · rw [hv]; rfl
  · rw [hv]; first | done | rfl
 ·have qh9 := h9
  try simp only [bf, within_iff, within_not] at qh9
  have hc1 : ¬ ((b = 63 ∧ p.dat.Args.length = 0) ∧ p.dat.Mark = false) := by show ¬ ((b = 63 ∧ p.Args.xs.length = 0) ∧ p.Mark = false); rintro ⟨⟨h1, h2⟩, h3⟩; rw [h3] at qh9; simp at qh9; omega
  refine WC.sr ?_
  refine WL.run tbk 3 hs7 [] rfl trivial ?_
  refine WL.pA tbk 2 Acts.nil hs7 [] rfl rfl rfl rfl (fun g_ => trivial) ?_
  refine WL.run tbk 1 hs7 [] rfl trivial ?_
  refine WL.nil ?_
  refine WC.cond rfl (fun h24 => ?_) (fun h24 => ?_)
  ·have qh24 := h24
   try simp only [bf, within_iff, within_not] at qh24
   have hc2 : 48 ≤ b ∧ b ≤ 57 := by first | omega | (simp at qh24; omega)
   refine WC.seq (fun K25 hK25 => ?_)
   refine WC.rr tbk hs7 [2] rfl ⟨rfl, trivial⟩ ?_
   refine WC.cD rfl (fun qh26 => ?_) (fun qh26 => ?_)
   ·have gb : 0 ≤ gat encI (p.Args.xs ++ [0]) (((p.Args.xs ++ [0]).length : Int) - 1).toNat ∧ gat encI (p.Args.xs ++ [0]) (((p.Args.xs ++ [0]).length : Int) - 1).toNat ≤ 9999 := by (have hnil : p.Args.xs = [] := List.eq_nil_of_length_eq_zero (by omega); rw [hnil]; decide)
    refine WC.region ?_
    refine WL.run tbk 2 hs7 [2] rfl ⟨rfl, trivial⟩ ?_
    refine WL.buildSlice hs7 Try.runUnderlying22 Try.sizeOf3 Try.zeroValue3 rfl rfl rfl rfl rfl rfl rfl rfl rfl rfl (fun b27 whs28 hs28 => ?_)
    obtain ⟨L29, L30, hs33, ho31, ho32⟩ := ownVpR.open_ (St.perm hs28 (L' := L_p ++ _) (perm_front (A := [_, _, _, _]) (List.Perm.refl _))) o_p
    have hs34 := (St.perm (St.perm (St.perm (St.perm hs33 (L' := [_] ++ _) (perm_front (A := L29) (perm_front (A := L30) (perm_front (A := [_, _, _]) (List.Perm.refl _))))) (L' := [_] ++ _) (perm_front (A := [_]) (perm_front (A := L29) (perm_front (A := L30) (perm_front (A := [_, _]) (List.Perm.refl _)))))) (L' := [_] ++ _) (perm_front (A := [_, _]) (perm_front (A := L29) (perm_front (A := L30) (perm_front (A := [_]) (List.Perm.refl _)))))) (L' := [_] ++ _) (perm_front (A := [_, _, _]) (perm_front (A := L29) (perm_front (A := L30) (List.Perm.refl _)))))
    refine WL.appendG (St.perm hs34 (L' := L29 ++ _) (perm_front (A := [_, _, _, _]) (List.Perm.refl _))) ho31 (srcI1 Try.underlying22 (hs34.own _ (nthL_mem (i := 0) rfl)).1) Try.underlying22 info_3 rfl rfl rfl rfl rfl rfl rfl rfl rfl rfl ?_ (fun A38 c39 L35 whs36 hs36 ho37 => ?_)
    · first | omega | (simp; done) | (simp; omega) | omega
    replace hs36 := St.back [_, _, _, _] hs36
    refine WL.run tbk 1 hs36 [] rfl trivial ?_
    refine WL.st tbk hs36 3 rfl rfl (fun _ hs40 => ?_)
    refine WL.nil ?_
    refine hK25 _ _ ?_
    refine WC.sr ?_
    refine WL.run tbk 6 hs40 [3, 3] rfl ⟨by first | omega | (simp; done) | (simp; omega) | omega, rfl, rfl, trivial⟩ ?_
    refine WL.val rfl rfl rfl (Run.idx Try.runUnderlying22 Try.sizeOf3 rfl rfl rfl ?_ ?_ ?_) ?_
    · exact SlF.some_ (SlF.ofOwn ho37 (fun p_ hp_ => (hs40.own p_ (List.mem_append_right [_, _, _, _] (List.mem_append_left _ hp_))).1))
    · first | omega | (simp; done) | (simp; omega) | omega
    · first | omega | (simp; done) | (simp; omega) | omega
    refine WL.val rfl rfl rfl (Run.load Try.isAgg3 rfl rfl (SlF.one1 (SlF.ofOwn ho37 (fun p_ hp_ => (hs40.own p_ (List.mem_append_right [_, _, _, _] (List.mem_append_left _ hp_))).1)) ?_ rfl)) ?_
    · first | omega | (simp; done) | (simp; omega) | omega
    refine WL.run tbk 5 hs40 [] rfl ⟨by first | omega | (simp; done) | (simp; omega) | omega, by first | omega | (simp; done) | (simp; omega) | omega, by first | omega | (simp; done) | (simp; omega) | omega, trivial⟩ ?_
    refine WL.nil ?_
    refine WC.seq (fun K41 hK41 => ?_)
    refine WC.rr tbk hs40 [] rfl trivial ?_
    refine WC.cD rfl (fun qh42 => ?_) (fun qh42 => ?_)
    ·refine WC.region ?_
     refine WL.run tbk 1 hs40 [] rfl trivial ?_
     refine WL.nil ?_
     refine hK41 _ _ ?_
     refine WC.region ?_
     refine WL.run tbk 7 hs40 [3, 3] rfl ⟨by first | omega | (simp; done) | (simp; omega) | omega, rfl, rfl, trivial⟩ ?_
     refine WL.val rfl rfl rfl (Run.idx Try.runUnderlying22 Try.sizeOf3 rfl rfl rfl ?_ ?_ ?_) ?_
     · exact SlF.some_ (SlF.ofOwn ho37 (fun p_ hp_ => (hs40.own p_ (List.mem_append_right [_, _, _, _] (List.mem_append_left _ hp_))).1))
     · first | omega | (simp; done) | (simp; omega) | omega
     · first | omega | (simp; done) | (simp; omega) | omega
     refine WL.storeF1 (x' := _) (St.perm hs40 (L' := L35 ++ _) (perm_front (A := [_, _, _, _]) (List.Perm.refl _))) ho37 Try.sizeOf3 rfl rfl rfl rfl rfl rfl rfl rfl rfl ?_ rfl (fun L43 whs44 hs44 ho45 _ => ?_)
     · first | omega | (simp; done) | (simp; omega) | omega
     replace hs44 := St.back [_, _, _, _] hs44
     refine WL.nil ?_
     refine hK8 _ _ ?_
     refine WC.sr ?_
     refine WL.run tbk 1 hs44 [3] rfl ⟨rfl, trivial⟩ ?_
     refine WL.val rfl rfl rfl (Run.build rfl rfl rfl rfl (built_44)) ?_
     refine WL.st tbk hs44 2 rfl rfl (fun _ hs46 => ?_)
     refine WL.st tbk hs46 1 rfl rfl (fun _ hs47 => ?_)
     refine WL.nil ?_
     refine WC.ret ?_
     refine retV2 rfl (resV.cellA tbk hs47 2 rfl rfl rfl rfl) (resV.cellA tbk hs47 1 rfl rfl rfl rfl) ?_
     have hv : vpCsi p.dat b = (vpDigit p.dat (b - 48), act0) := by unfold vpCsi; rw [if_neg hc1, if_pos hc2]
     have hnil : p.Args.xs = [] := List.eq_nil_of_length_eq_zero (by omega)
     obtain ⟨L49, hs48, ho50⟩ := ownVpR.fold ⟨0, false, ⟨_, _, _, _⟩, ⟨_, _, _, _⟩⟩ (St.perm (St.perm hs47 (L' := L30 ++ _) (perm_front (A := [_, _, _, _]) (perm_front (A := L43) (List.Perm.refl _)))) (L' := L43 ++ _) (perm_front (A := L30) (perm_front (A := [_, _, _, _]) (List.Perm.refl _)))) ho45 ho32
     have hs51 := (St.perm (St.perm (St.perm (St.perm hs48 (L' := [_] ++ _) (perm_front (A := L49) (perm_front (A := [_, _, _]) (List.Perm.refl _)))) (L' := [_] ++ _) (perm_front (A := [_]) (perm_front (A := L49) (perm_front (A := [_, _]) (List.Perm.refl _))))) (L' := [_] ++ _) (perm_front (A := [_, _]) (perm_front (A := L49) (perm_front (A := [_]) (List.Perm.refl _))))) (L' := [_] ++ _) (perm_front (A := [_, _, _]) (perm_front (A := L49) (List.Perm.refl _))))
     refine ⟨⟨p.State, p.Mark, SlD.of ho45, SlD.of ho32⟩, _, ⟨0, 0, false, ⟨none, 0, 0, []⟩⟩, _, rfl, (St.drop (St.perm (St.perm hs51 (L' := ([] : Hp) ++ _) (perm_front (A := [_, _, _, _]) (List.Perm.refl _))) (L' := L49 ++ _) (perm_front (A := ([] : Hp)) (perm_front (A := [_, _, _, _]) (List.Perm.refl _)))) (List.Sublist.append_left (List.sublist_append_left ([] : Hp) _) L49)), ?_, ?_, ?_, ?_⟩
     · exact (by exact ho50)
     · exact (OwnF.nil _ _)
     · rw [hv, vpDigit_A (show p.dat.Args.length = 0 from (by omega : p.Args.xs.length = 0))]; exact VpD.ext' rfl rfl (by show ((p.Args.xs ++ [0]).set _ _ : List Int) = _; simp only [hnil, List.nil_append] at *; have ez : gat encI [0] ((([0] : List Int).length : Int) - 1).toNat = 0 := rfl; have ez0 : gat encI [0] 0 = 0 := rfl; show [_] = [_]; congr 1; omega) rfl
     · rw [hv]; first | done | rfl
    ·refine WC.skip ?_
     refine hK41 _ _ ?_
     refine WC.region ?_
     refine WL.run tbk 7 hs40 [3, 3] rfl ⟨by first | omega | (simp; done) | (simp; omega) | omega, rfl, rfl, trivial⟩ ?_
     refine WL.val rfl rfl rfl (Run.idx Try.runUnderlying22 Try.sizeOf3 rfl rfl rfl ?_ ?_ ?_) ?_
     · exact SlF.some_ (SlF.ofOwn ho37 (fun p_ hp_ => (hs40.own p_ (List.mem_append_right [_, _, _, _] (List.mem_append_left _ hp_))).1))
     · first | omega | (simp; done) | (simp; omega) | omega
     · first | omega | (simp; done) | (simp; omega) | omega
     refine WL.storeF1 (x' := _) (St.perm hs40 (L' := L35 ++ _) (perm_front (A := [_, _, _, _]) (List.Perm.refl _))) ho37 Try.sizeOf3 rfl rfl rfl rfl rfl rfl rfl rfl rfl ?_ rfl (fun L53 whs54 hs54 ho55 _ => ?_)
     · first | omega | (simp; done) | (simp; omega) | omega
     replace hs54 := St.back [_, _, _, _] hs54
     refine WL.nil ?_
     refine hK8 _ _ ?_
     refine WC.sr ?_
     refine WL.run tbk 1 hs54 [3] rfl ⟨rfl, trivial⟩ ?_
     refine WL.val rfl rfl rfl (Run.build rfl rfl rfl rfl (built_44)) ?_
     refine WL.st tbk hs54 2 rfl rfl (fun _ hs56 => ?_)
     refine WL.st tbk hs56 1 rfl rfl (fun _ hs57 => ?_)
     refine WL.nil ?_
     refine WC.ret ?_
     refine retV2 rfl (resV.cellA tbk hs57 2 rfl rfl rfl rfl) (resV.cellA tbk hs57 1 rfl rfl rfl rfl) ?_
     have hv : vpCsi p.dat b = (vpDigit p.dat (b - 48), act0) := by unfold vpCsi; rw [if_neg hc1, if_pos hc2]
     have hnil : p.Args.xs = [] := List.eq_nil_of_length_eq_zero (by omega)
     obtain ⟨L59, hs58, ho60⟩ := ownVpR.fold ⟨0, false, ⟨_, _, _, _⟩, ⟨_, _, _, _⟩⟩ (St.perm (St.perm hs57 (L' := L30 ++ _) (perm_front (A := [_, _, _, _]) (perm_front (A := L53) (List.Perm.refl _)))) (L' := L53 ++ _) (perm_front (A := L30) (perm_front (A := [_, _, _, _]) (List.Perm.refl _)))) ho55 ho32
     have hs61 := (St.perm (St.perm (St.perm (St.perm hs58 (L' := [_] ++ _) (perm_front (A := L59) (perm_front (A := [_, _, _]) (List.Perm.refl _)))) (L' := [_] ++ _) (perm_front (A := [_]) (perm_front (A := L59) (perm_front (A := [_, _]) (List.Perm.refl _))))) (L' := [_] ++ _) (perm_front (A := [_, _]) (perm_front (A := L59) (perm_front (A := [_]) (List.Perm.refl _))))) (L' := [_] ++ _) (perm_front (A := [_, _, _]) (perm_front (A := L59) (List.Perm.refl _))))
     refine ⟨⟨p.State, p.Mark, SlD.of ho55, SlD.of ho32⟩, _, ⟨0, 0, false, ⟨none, 0, 0, []⟩⟩, _, rfl, (St.drop (St.perm (St.perm hs61 (L' := ([] : Hp) ++ _) (perm_front (A := [_, _, _, _]) (List.Perm.refl _))) (L' := L59 ++ _) (perm_front (A := ([] : Hp)) (perm_front (A := [_, _, _, _]) (List.Perm.refl _)))) (List.Sublist.append_left (List.sublist_append_left ([] : Hp) _) L59)), ?_, ?_, ?_, ?_⟩
     · exact (by exact ho60)
     · exact (OwnF.nil _ _)
     · rw [hv, vpDigit_A (show p.dat.Args.length = 0 from (by omega : p.Args.xs.length = 0))]; exact VpD.ext' rfl rfl (by show ((p.Args.xs ++ [0]).set _ _ : List Int) = _; simp only [hnil, List.nil_append] at *; have ez : gat encI [0] ((([0] : List Int).length : Int) - 1).toNat = 0 := rfl; have ez0 : gat encI [0] 0 = 0 := rfl; show [_] = [_]; congr 1; omega) rfl
     · rw [hv]; first | done | rfl
   ·have gb := areArgs_gat (k := ((p.Args.n : Int) - 1).toNat) hok (by show _ < p.Args.xs.length; omega)
    have e0 : p.dat.Args = p.Args.xs := rfl
    rw [e0] at gb
    refine WC.skip ?_
    refine hK25 _ _ ?_
    refine WC.sr ?_
    refine WL.run tbk 6 hs7 [2, 2] rfl ⟨by first | omega | (simp; done) | (simp; omega) | omega, rfl, rfl, trivial⟩ ?_
    refine WL.val rfl rfl rfl (Run.idx Try.runUnderlying22 Try.sizeOf3 rfl rfl rfl ?_ ?_ ?_) ?_
    · exact SlF.some_ (ownVpR.ok (B := 1099511627776) o_p (fun p_ hp_ => (hs7.own p_ (List.mem_append_right [_, _, _] (List.mem_append_left _ hp_))).1) (by assumption)).Args
    · first | omega | (simp; done) | (simp; omega) | omega
    · first | omega | (simp; done) | (simp; omega) | omega
    refine WL.val rfl rfl rfl (Run.load Try.isAgg3 rfl rfl (SlF.one1 (ownVpR.ok (B := 1099511627776) o_p (fun p_ hp_ => (hs7.own p_ (List.mem_append_right [_, _, _] (List.mem_append_left _ hp_))).1) (by assumption)).Args ?_ rfl)) ?_
    · first | omega | (simp; done) | (simp; omega) | omega
    refine WL.run tbk 5 hs7 [] rfl ⟨by first | omega | (simp; done) | (simp; omega) | omega, by first | omega | (simp; done) | (simp; omega) | omega, by first | omega | (simp; done) | (simp; omega) | omega, trivial⟩ ?_
    refine WL.nil ?_
    refine WC.seq (fun K63 hK63 => ?_)
    refine WC.rr tbk hs7 [] rfl trivial ?_
    refine WC.cD rfl (fun qh64 => ?_) (fun qh64 => ?_)
    ·refine WC.region ?_
     refine WL.run tbk 1 hs7 [] rfl trivial ?_
     refine WL.nil ?_
     refine hK63 _ _ ?_
     refine WC.region ?_
     refine WL.run tbk 7 hs7 [2, 2] rfl ⟨by first | omega | (simp; done) | (simp; omega) | omega, rfl, rfl, trivial⟩ ?_
     refine WL.val rfl rfl rfl (Run.idx Try.runUnderlying22 Try.sizeOf3 rfl rfl rfl ?_ ?_ ?_) ?_
     · exact SlF.some_ (ownVpR.ok (B := 1099511627776) o_p (fun p_ hp_ => (hs7.own p_ (List.mem_append_right [_, _, _] (List.mem_append_left _ hp_))).1) (by assumption)).Args
     · first | omega | (simp; done) | (simp; omega) | omega
     · first | omega | (simp; done) | (simp; omega) | omega
     obtain ⟨L65, L66, hs69, ho67, ho68⟩ := ownVpR.open_ (St.perm hs7 (L' := L_p ++ _) (perm_front (A := [_, _, _]) (List.Perm.refl _))) o_p
     have hs70 := (St.perm (St.perm (St.perm hs69 (L' := [_] ++ _) (perm_front (A := L65) (perm_front (A := L66) (perm_front (A := [_, _]) (List.Perm.refl _))))) (L' := [_] ++ _) (perm_front (A := [_]) (perm_front (A := L65) (perm_front (A := L66) (perm_front (A := [_]) (List.Perm.refl _)))))) (L' := [_] ++ _) (perm_front (A := [_, _]) (perm_front (A := L65) (perm_front (A := L66) (List.Perm.refl _)))))
     refine WL.storeF1 (x' := _) (St.perm hs70 (L' := L65 ++ _) (perm_front (A := [_, _, _]) (List.Perm.refl _))) ho67 Try.sizeOf3 rfl rfl rfl rfl rfl rfl rfl rfl rfl ?_ rfl (fun L71 whs72 hs72 ho73 _ => ?_)
     · first | omega | (simp; done) | (simp; omega) | omega
     replace hs72 := St.back [_, _, _] hs72
     refine WL.nil ?_
     refine hK8 _ _ ?_
     refine WC.sr ?_
     refine WL.run tbk 1 hs72 [2] rfl ⟨rfl, trivial⟩ ?_
     refine WL.val rfl rfl rfl (Run.build rfl rfl rfl rfl (built_44)) ?_
     refine WL.st tbk hs72 1 rfl rfl (fun _ hs74 => ?_)
     refine WL.st tbk hs74 0 rfl rfl (fun _ hs75 => ?_)
     refine WL.nil ?_
     refine WC.ret ?_
     refine retV2 rfl (resV.cellA tbk hs75 1 rfl rfl rfl rfl) (resV.cellA tbk hs75 0 rfl rfl rfl rfl) ?_
     have hv : vpCsi p.dat b = (vpDigit p.dat (b - 48), act0) := by unfold vpCsi; rw [if_neg hc1, if_pos hc2]
     obtain ⟨L77, hs76, ho78⟩ := ownVpR.fold ⟨0, false, ⟨_, _, _, _⟩, ⟨_, _, _, _⟩⟩ (St.perm (St.perm hs75 (L' := L66 ++ _) (perm_front (A := [_, _, _]) (perm_front (A := L71) (List.Perm.refl _)))) (L' := L71 ++ _) (perm_front (A := L66) (perm_front (A := [_, _, _]) (List.Perm.refl _)))) ho73 ho68
     have hs79 := (St.perm (St.perm (St.perm hs76 (L' := [_] ++ _) (perm_front (A := L77) (perm_front (A := [_, _]) (List.Perm.refl _)))) (L' := [_] ++ _) (perm_front (A := [_]) (perm_front (A := L77) (perm_front (A := [_]) (List.Perm.refl _))))) (L' := [_] ++ _) (perm_front (A := [_, _]) (perm_front (A := L77) (List.Perm.refl _))))
     refine ⟨⟨p.State, p.Mark, SlD.of ho73, SlD.of ho68⟩, _, ⟨0, 0, false, ⟨none, 0, 0, []⟩⟩, _, rfl, (St.drop (St.perm (St.perm hs79 (L' := ([] : Hp) ++ _) (perm_front (A := [_, _, _]) (List.Perm.refl _))) (L' := L77 ++ _) (perm_front (A := ([] : Hp)) (perm_front (A := [_, _, _]) (List.Perm.refl _)))) (List.Sublist.append_left (List.sublist_append_left ([] : Hp) _) L77)), ?_, ?_, ?_, ?_⟩
     · exact (by exact ho78)
     · exact (OwnF.nil _ _)
     · rw [hv, vpDigit_B (show ¬ p.dat.Args.length = 0 from (by omega : ¬ p.Args.xs.length = 0))]; exact VpD.ext' rfl rfl (by have e9 : ((p.Args.n : Int) - 1).toNat = p.Args.xs.length - 1 := (by omega); show (p.Args.xs.set _ _ : List Int) = _; show _ = p.Args.xs.set (p.Args.xs.length - 1) (min 9999 (10 * gat encI p.Args.xs (p.Args.xs.length - 1) + (b - 48))); have e10 : gat encI p.Args.xs ((p.Args.n : Int) - 1).toNat = gat encI p.Args.xs (p.Args.xs.length - 1) := (by rw [e9]); rw [e9]; congr 1; omega) rfl
     · rw [hv]; first | done | rfl
    ·refine WC.skip ?_
     refine hK63 _ _ ?_
     refine WC.region ?_
     refine WL.run tbk 7 hs7 [2, 2] rfl ⟨by first | omega | (simp; done) | (simp; omega) | omega, rfl, rfl, trivial⟩ ?_
     refine WL.val rfl rfl rfl (Run.idx Try.runUnderlying22 Try.sizeOf3 rfl rfl rfl ?_ ?_ ?_) ?_
     · exact SlF.some_ (ownVpR.ok (B := 1099511627776) o_p (fun p_ hp_ => (hs7.own p_ (List.mem_append_right [_, _, _] (List.mem_append_left _ hp_))).1) (by assumption)).Args
     · first | omega | (simp; done) | (simp; omega) | omega
     · first | omega | (simp; done) | (simp; omega) | omega
     obtain ⟨L81, L82, hs85, ho83, ho84⟩ := ownVpR.open_ (St.perm hs7 (L' := L_p ++ _) (perm_front (A := [_, _, _]) (List.Perm.refl _))) o_p
     have hs86 := (St.perm (St.perm (St.perm hs85 (L' := [_] ++ _) (perm_front (A := L81) (perm_front (A := L82) (perm_front (A := [_, _]) (List.Perm.refl _))))) (L' := [_] ++ _) (perm_front (A := [_]) (perm_front (A := L81) (perm_front (A := L82) (perm_front (A := [_]) (List.Perm.refl _)))))) (L' := [_] ++ _) (perm_front (A := [_, _]) (perm_front (A := L81) (perm_front (A := L82) (List.Perm.refl _)))))
     refine WL.storeF1 (x' := _) (St.perm hs86 (L' := L81 ++ _) (perm_front (A := [_, _, _]) (List.Perm.refl _))) ho83 Try.sizeOf3 rfl rfl rfl rfl rfl rfl rfl rfl rfl ?_ rfl (fun L87 whs88 hs88 ho89 _ => ?_)
     · first | omega | (simp; done) | (simp; omega) | omega
     replace hs88 := St.back [_, _, _] hs88
     refine WL.nil ?_
     refine hK8 _ _ ?_
     refine WC.sr ?_
     refine WL.run tbk 1 hs88 [2] rfl ⟨rfl, trivial⟩ ?_
     refine WL.val rfl rfl rfl (Run.build rfl rfl rfl rfl (built_44)) ?_
     refine WL.st tbk hs88 1 rfl rfl (fun _ hs90 => ?_)
     refine WL.st tbk hs90 0 rfl rfl (fun _ hs91 => ?_)
     refine WL.nil ?_
     refine WC.ret ?_
     refine retV2 rfl (resV.cellA tbk hs91 1 rfl rfl rfl rfl) (resV.cellA tbk hs91 0 rfl rfl rfl rfl) ?_
     have hv : vpCsi p.dat b = (vpDigit p.dat (b - 48), act0) := by unfold vpCsi; rw [if_neg hc1, if_pos hc2]
     obtain ⟨L93, hs92, ho94⟩ := ownVpR.fold ⟨0, false, ⟨_, _, _, _⟩, ⟨_, _, _, _⟩⟩ (St.perm (St.perm hs91 (L' := L82 ++ _) (perm_front (A := [_, _, _]) (perm_front (A := L87) (List.Perm.refl _)))) (L' := L87 ++ _) (perm_front (A := L82) (perm_front (A := [_, _, _]) (List.Perm.refl _)))) ho89 ho84
     have hs95 := (St.perm (St.perm (St.perm hs92 (L' := [_] ++ _) (perm_front (A := L93) (perm_front (A := [_, _]) (List.Perm.refl _)))) (L' := [_] ++ _) (perm_front (A := [_]) (perm_front (A := L93) (perm_front (A := [_]) (List.Perm.refl _))))) (L' := [_] ++ _) (perm_front (A := [_, _]) (perm_front (A := L93) (List.Perm.refl _))))
     refine ⟨⟨p.State, p.Mark, SlD.of ho89, SlD.of ho84⟩, _, ⟨0, 0, false, ⟨none, 0, 0, []⟩⟩, _, rfl, (St.drop (St.perm (St.perm hs95 (L' := ([] : Hp) ++ _) (perm_front (A := [_, _, _]) (List.Perm.refl _))) (L' := L93 ++ _) (perm_front (A := ([] : Hp)) (perm_front (A := [_, _, _]) (List.Perm.refl _)))) (List.Sublist.append_left (List.sublist_append_left ([] : Hp) _) L93)), ?_, ?_, ?_, ?_⟩
     · exact (by exact ho94)
     · exact (OwnF.nil _ _)
     · rw [hv, vpDigit_B (show ¬ p.dat.Args.length = 0 from (by omega : ¬ p.Args.xs.length = 0))]; exact VpD.ext' rfl rfl (by have e9 : ((p.Args.n : Int) - 1).toNat = p.Args.xs.length - 1 := (by omega); show (p.Args.xs.set _ _ : List Int) = _; show _ = p.Args.xs.set (p.Args.xs.length - 1) (min 9999 (10 * gat encI p.Args.xs (p.Args.xs.length - 1) + (b - 48))); have e10 : gat encI p.Args.xs ((p.Args.n : Int) - 1).toNat = gat encI p.Args.xs (p.Args.xs.length - 1) := (by rw [e9]); rw [e9]; congr 1; omega) rfl
     · rw [hv]; first | done | rfl
  ·have qh24 := h24
   try simp only [bf, within_iff, within_not] at qh24
   have hc2 : ¬ (48 ≤ b ∧ b ≤ 57) := by first | omega | (simp at qh24; omega)
   refine WC.rr tbk hs7 [] rfl trivial ?_
   refine WC.cD rfl (fun qh97 => ?_) (fun qh97 => ?_)
   ·have hc3 : b = 59 := by first | omega | (simp at qh97; omega)
    refine WC.seq (fun K98 hK98 => ?_)
    refine WC.rr tbk hs7 [2] rfl ⟨rfl, trivial⟩ ?_
    refine WC.cD rfl (fun qh99 => ?_) (fun qh99 => ?_)
    ·refine WC.region ?_
     refine WL.run tbk 2 hs7 [2] rfl ⟨rfl, trivial⟩ ?_
     refine WL.buildSlice hs7 Try.runUnderlying22 Try.sizeOf3 Try.zeroValue3 rfl rfl rfl rfl rfl rfl rfl rfl rfl rfl (fun b100 whs101 hs101 => ?_)
     obtain ⟨L102, L103, hs106, ho104, ho105⟩ := ownVpR.open_ (St.perm hs101 (L' := L_p ++ _) (perm_front (A := [_, _, _, _]) (List.Perm.refl _))) o_p
     have hs107 := (St.perm (St.perm (St.perm (St.perm hs106 (L' := [_] ++ _) (perm_front (A := L102) (perm_front (A := L103) (perm_front (A := [_, _, _]) (List.Perm.refl _))))) (L' := [_] ++ _) (perm_front (A := [_]) (perm_front (A := L102) (perm_front (A := L103) (perm_front (A := [_, _]) (List.Perm.refl _)))))) (L' := [_] ++ _) (perm_front (A := [_, _]) (perm_front (A := L102) (perm_front (A := L103) (perm_front (A := [_]) (List.Perm.refl _)))))) (L' := [_] ++ _) (perm_front (A := [_, _, _]) (perm_front (A := L102) (perm_front (A := L103) (List.Perm.refl _)))))
     refine WL.appendG (St.perm hs107 (L' := L102 ++ _) (perm_front (A := [_, _, _, _]) (List.Perm.refl _))) ho104 (srcI1 Try.underlying22 (hs107.own _ (nthL_mem (i := 0) rfl)).1) Try.underlying22 info_3 rfl rfl rfl rfl rfl rfl rfl rfl rfl rfl ?_ (fun A111 c112 L108 whs109 hs109 ho110 => ?_)
     · first | omega | (simp; done) | (simp; omega) | omega
     replace hs109 := St.back [_, _, _, _] hs109
     refine WL.run tbk 1 hs109 [] rfl trivial ?_
     refine WL.st tbk hs109 3 rfl rfl (fun _ hs113 => ?_)
     refine WL.nil ?_
     refine hK98 _ _ ?_
     refine WC.rr tbk hs113 [3] rfl ⟨rfl, trivial⟩ ?_
     refine WC.cD rfl (fun qh114 => ?_) (fun qh114 => ?_)
     ·refine WC.region ?_
      refine WL.run tbk 1 hs113 [] rfl trivial ?_
      refine WL.st tbk hs113 3 rfl rfl (fun _ hs115 => ?_)
      refine WL.nil ?_
      refine hK8 _ _ ?_
      refine WC.sr ?_
      refine WL.run tbk 1 hs115 [3] rfl ⟨rfl, trivial⟩ ?_
      refine WL.val rfl rfl rfl (Run.build rfl rfl rfl rfl (built_44)) ?_
      refine WL.st tbk hs115 2 rfl rfl (fun _ hs116 => ?_)
      refine WL.st tbk hs116 1 rfl rfl (fun _ hs117 => ?_)
      refine WL.nil ?_
      refine WC.ret ?_
      refine retV2 rfl (resV.cellA tbk hs117 2 rfl rfl rfl rfl) (resV.cellA tbk hs117 1 rfl rfl rfl rfl) ?_
      exfalso
      simp at qh114 <;> omega
     ·refine WC.region ?_
      refine WL.run tbk 2 hs113 [3] rfl ⟨rfl, trivial⟩ ?_
      refine WL.buildSlice hs113 Try.runUnderlying22 Try.sizeOf3 Try.zeroValue3 rfl rfl rfl rfl rfl rfl rfl rfl rfl rfl (fun b118 whs119 hs119 => ?_)
      refine WL.appendG (St.perm hs119 (L' := L108 ++ _) (perm_front (A := [_, _, _, _, _]) (List.Perm.refl _))) ho110 (srcI1 Try.underlying22 (hs119.own _ (nthL_mem (i := 0) rfl)).1) Try.underlying22 info_3 rfl rfl rfl rfl rfl rfl rfl rfl rfl rfl ?_ (fun A123 c124 L120 whs121 hs121 ho122 => ?_)
      · first | omega | (simp; done) | (simp; omega) | omega
      replace hs121 := St.back [_, _, _, _, _] hs121
      refine WL.run tbk 1 hs121 [] rfl trivial ?_
      refine WL.st tbk hs121 4 rfl rfl (fun _ hs125 => ?_)
      refine WL.nil ?_
      refine hK8 _ _ ?_
      refine WC.sr ?_
      refine WL.run tbk 1 hs125 [4] rfl ⟨rfl, trivial⟩ ?_
      refine WL.val rfl rfl rfl (Run.build rfl rfl rfl rfl (built_44)) ?_
      refine WL.st tbk hs125 3 rfl rfl (fun _ hs126 => ?_)
      refine WL.st tbk hs126 2 rfl rfl (fun _ hs127 => ?_)
      refine WL.nil ?_
      refine WC.ret ?_
      refine retV2 rfl (resV.cellA tbk hs127 3 rfl rfl rfl rfl) (resV.cellA tbk hs127 2 rfl rfl rfl rfl) ?_
      have hv : vpCsi p.dat b = (vpNext p.dat, act0) := by unfold vpCsi; rw [if_neg hc1, if_neg hc2, if_pos hc3]
      have hnil : p.Args.xs = [] := List.eq_nil_of_length_eq_zero (by omega)
      obtain ⟨L129, hs128, ho130⟩ := ownVpR.fold ⟨0, false, ⟨_, _, _, _⟩, ⟨_, _, _, _⟩⟩ (St.perm (St.perm hs127 (L' := L103 ++ _) (perm_front (A := [_, _, _, _, _]) (perm_front (A := L120) (List.Perm.refl _)))) (L' := L120 ++ _) (perm_front (A := L103) (perm_front (A := [_, _, _, _, _]) (List.Perm.refl _)))) ho122 ho105
      have hs131 := (St.perm (St.perm (St.perm (St.perm (St.perm hs128 (L' := [_] ++ _) (perm_front (A := L129) (perm_front (A := [_, _, _, _]) (List.Perm.refl _)))) (L' := [_] ++ _) (perm_front (A := [_]) (perm_front (A := L129) (perm_front (A := [_, _, _]) (List.Perm.refl _))))) (L' := [_] ++ _) (perm_front (A := [_, _]) (perm_front (A := L129) (perm_front (A := [_, _]) (List.Perm.refl _))))) (L' := [_] ++ _) (perm_front (A := [_, _, _]) (perm_front (A := L129) (perm_front (A := [_]) (List.Perm.refl _))))) (L' := [_] ++ _) (perm_front (A := [_, _, _, _]) (perm_front (A := L129) (List.Perm.refl _))))
      refine ⟨⟨p.State, p.Mark, SlD.of ho122, SlD.of ho105⟩, _, ⟨0, 0, false, ⟨none, 0, 0, []⟩⟩, _, rfl, (St.drop (St.perm (St.perm hs131 (L' := ([] : Hp) ++ _) (perm_front (A := [_, _, _, _, _]) (List.Perm.refl _))) (L' := L129 ++ _) (perm_front (A := ([] : Hp)) (perm_front (A := [_, _, _, _, _]) (List.Perm.refl _)))) (List.Sublist.append_left (List.sublist_append_left ([] : Hp) _) L129)), ?_, ?_, ?_, ?_⟩
      · exact (by exact ho130)
      · exact (OwnF.nil _ _)
      · rw [hv, vpNext_A (show p.dat.Args.length = 0 from (by omega : p.Args.xs.length = 0))]; exact VpD.ext' rfl rfl (by show (p.Args.xs ++ [0]) ++ [0] = _; rw [hnil]; rfl) rfl
      · rw [hv]; first | done | rfl
    ·refine WC.skip ?_
     refine hK98 _ _ ?_
     refine WC.rr tbk hs7 [2] rfl ⟨rfl, trivial⟩ ?_
     refine WC.cD rfl (fun qh133 => ?_) (fun qh133 => ?_)
     ·refine WC.region ?_
      refine WL.run tbk 1 hs7 [] rfl trivial ?_
      refine WL.st tbk hs7 2 rfl rfl (fun _ hs134 => ?_)
      refine WL.nil ?_
      refine hK8 _ _ ?_
      refine WC.sr ?_
      refine WL.run tbk 1 hs134 [2] rfl ⟨rfl, trivial⟩ ?_
      refine WL.val rfl rfl rfl (Run.build rfl rfl rfl rfl (built_44)) ?_
      refine WL.st tbk hs134 1 rfl rfl (fun _ hs135 => ?_)
      refine WL.st tbk hs135 0 rfl rfl (fun _ hs136 => ?_)
      refine WL.nil ?_
      refine WC.ret ?_
      refine retV2 rfl (resV.cellA tbk hs136 1 rfl rfl rfl rfl) (resV.cellA tbk hs136 0 rfl rfl rfl rfl) ?_
      have hv : vpCsi p.dat b = (vpNext p.dat, act0) := by unfold vpCsi; rw [if_neg hc1, if_neg hc2, if_pos hc3]
      obtain ⟨L137, L138, hs141, ho139, ho140⟩ := ownVpR.open_ (St.perm hs136 (L' := L_p ++ _) (perm_front (A := [_, _, _]) (List.Perm.refl _))) o_p
      have hs142 := (St.perm (St.perm (St.perm hs141 (L' := [_] ++ _) (perm_front (A := L137) (perm_front (A := L138) (perm_front (A := [_, _]) (List.Perm.refl _))))) (L' := [_] ++ _) (perm_front (A := [_]) (perm_front (A := L137) (perm_front (A := L138) (perm_front (A := [_]) (List.Perm.refl _)))))) (L' := [_] ++ _) (perm_front (A := [_, _]) (perm_front (A := L137) (perm_front (A := L138) (List.Perm.refl _)))))
      obtain ⟨L144, hs143, ho145⟩ := ownVpR.fold ⟨0, false, ⟨_, _, _, _⟩, ⟨_, _, _, _⟩⟩ (St.perm (St.perm hs142 (L' := L138 ++ _) (perm_front (A := [_, _, _]) (perm_front (A := L137) (List.Perm.refl _)))) (L' := L137 ++ _) (perm_front (A := L138) (perm_front (A := [_, _, _]) (List.Perm.refl _)))) ho139 ho140
      have hs146 := (St.perm (St.perm (St.perm hs143 (L' := [_] ++ _) (perm_front (A := L144) (perm_front (A := [_, _]) (List.Perm.refl _)))) (L' := [_] ++ _) (perm_front (A := [_]) (perm_front (A := L144) (perm_front (A := [_]) (List.Perm.refl _))))) (L' := [_] ++ _) (perm_front (A := [_, _]) (perm_front (A := L144) (List.Perm.refl _))))
      refine ⟨⟨(3), p.Mark, SlD.of ho139, SlD.of ho140⟩, _, ⟨0, 0, false, ⟨none, 0, 0, []⟩⟩, _, rfl, (St.drop (St.perm (St.perm hs146 (L' := ([] : Hp) ++ _) (perm_front (A := [_, _, _]) (List.Perm.refl _))) (L' := L144 ++ _) (perm_front (A := ([] : Hp)) (perm_front (A := [_, _, _]) (List.Perm.refl _)))) (List.Sublist.append_left (List.sublist_append_left ([] : Hp) _) L144)), ?_, ?_, ?_, ?_⟩
      · exact (by exact ho145)
      · exact (OwnF.nil _ _)
      · rw [hv, vpNext_D (show p.dat.Args.length = 8 from (by omega : p.Args.xs.length = 8))]; rfl
      · rw [hv]; first | done | rfl
     ·refine WC.region ?_
      refine WL.run tbk 2 hs7 [2] rfl ⟨rfl, trivial⟩ ?_
      refine WL.buildSlice hs7 Try.runUnderlying22 Try.sizeOf3 Try.zeroValue3 rfl rfl rfl rfl rfl rfl rfl rfl rfl rfl (fun b148 whs149 hs149 => ?_)
      obtain ⟨L150, L151, hs154, ho152, ho153⟩ := ownVpR.open_ (St.perm hs149 (L' := L_p ++ _) (perm_front (A := [_, _, _, _]) (List.Perm.refl _))) o_p
      have hs155 := (St.perm (St.perm (St.perm (St.perm hs154 (L' := [_] ++ _) (perm_front (A := L150) (perm_front (A := L151) (perm_front (A := [_, _, _]) (List.Perm.refl _))))) (L' := [_] ++ _) (perm_front (A := [_]) (perm_front (A := L150) (perm_front (A := L151) (perm_front (A := [_, _]) (List.Perm.refl _)))))) (L' := [_] ++ _) (perm_front (A := [_, _]) (perm_front (A := L150) (perm_front (A := L151) (perm_front (A := [_]) (List.Perm.refl _)))))) (L' := [_] ++ _) (perm_front (A := [_, _, _]) (perm_front (A := L150) (perm_front (A := L151) (List.Perm.refl _)))))
      refine WL.appendG (St.perm hs155 (L' := L150 ++ _) (perm_front (A := [_, _, _, _]) (List.Perm.refl _))) ho152 (srcI1 Try.underlying22 (hs155.own _ (nthL_mem (i := 0) rfl)).1) Try.underlying22 info_3 rfl rfl rfl rfl rfl rfl rfl rfl rfl rfl ?_ (fun A159 c160 L156 whs157 hs157 ho158 => ?_)
      · first | omega | (simp; done) | (simp; omega) | omega
      replace hs157 := St.back [_, _, _, _] hs157
      refine WL.run tbk 1 hs157 [] rfl trivial ?_
      refine WL.st tbk hs157 3 rfl rfl (fun _ hs161 => ?_)
      refine WL.nil ?_
      refine hK8 _ _ ?_
      refine WC.sr ?_
      refine WL.run tbk 1 hs161 [3] rfl ⟨rfl, trivial⟩ ?_
      refine WL.val rfl rfl rfl (Run.build rfl rfl rfl rfl (built_44)) ?_
      refine WL.st tbk hs161 2 rfl rfl (fun _ hs162 => ?_)
      refine WL.st tbk hs162 1 rfl rfl (fun _ hs163 => ?_)
      refine WL.nil ?_
      refine WC.ret ?_
      refine retV2 rfl (resV.cellA tbk hs163 2 rfl rfl rfl rfl) (resV.cellA tbk hs163 1 rfl rfl rfl rfl) ?_
      have hv : vpCsi p.dat b = (vpNext p.dat, act0) := by unfold vpCsi; rw [if_neg hc1, if_neg hc2, if_pos hc3]
      obtain ⟨L165, hs164, ho166⟩ := ownVpR.fold ⟨0, false, ⟨_, _, _, _⟩, ⟨_, _, _, _⟩⟩ (St.perm (St.perm hs163 (L' := L151 ++ _) (perm_front (A := [_, _, _, _]) (perm_front (A := L156) (List.Perm.refl _)))) (L' := L156 ++ _) (perm_front (A := L151) (perm_front (A := [_, _, _, _]) (List.Perm.refl _)))) ho158 ho153
      have hs167 := (St.perm (St.perm (St.perm (St.perm hs164 (L' := [_] ++ _) (perm_front (A := L165) (perm_front (A := [_, _, _]) (List.Perm.refl _)))) (L' := [_] ++ _) (perm_front (A := [_]) (perm_front (A := L165) (perm_front (A := [_, _]) (List.Perm.refl _))))) (L' := [_] ++ _) (perm_front (A := [_, _]) (perm_front (A := L165) (perm_front (A := [_]) (List.Perm.refl _))))) (L' := [_] ++ _) (perm_front (A := [_, _, _]) (perm_front (A := L165) (List.Perm.refl _))))
      refine ⟨⟨p.State, p.Mark, SlD.of ho158, SlD.of ho153⟩, _, ⟨0, 0, false, ⟨none, 0, 0, []⟩⟩, _, rfl, (St.drop (St.perm (St.perm hs167 (L' := ([] : Hp) ++ _) (perm_front (A := [_, _, _, _]) (List.Perm.refl _))) (L' := L165 ++ _) (perm_front (A := ([] : Hp)) (perm_front (A := [_, _, _, _]) (List.Perm.refl _)))) (List.Sublist.append_left (List.sublist_append_left ([] : Hp) _) L165)), ?_, ?_, ?_, ?_⟩
      · exact (by exact ho166)
      · exact (OwnF.nil _ _)
      · rw [hv, vpNext_B (show ¬ p.dat.Args.length = 0 from (by omega : ¬ p.Args.xs.length = 0)) (show p.dat.Args.length + 1 ≤ 8 from (by omega : p.Args.xs.length + 1 ≤ 8))]; rfl
      · rw [hv]; first | done | rfl
   ·have hc3 : ¬ (b = 59) := by first | omega | (simp at qh97; omega)
    refine WC.sr ?_
    refine WL.run tbk 3 hs7 [] rfl trivial ?_
    refine WL.pA tbk 2 Acts.nil hs7 [] rfl rfl rfl rfl (fun g_ => trivial) ?_
    refine WL.run tbk 1 hs7 [] rfl trivial ?_
    refine WL.nil ?_
    refine WC.cond rfl (fun h169 => ?_) (fun h169 => ?_)
    ·have qh169 := h169
     try simp only [bf, within_iff, within_not] at qh169
     have hc4 : 64 ≤ b ∧ b ≤ 126 := by first | omega | (simp at qh169; omega)
     refine WC.seq (fun K170 hK170 => ?_)
     refine WC.regionH2 (fun w' => St _ _ _ w') (fun w' => St _ _ _ w') mixed (St.drew (St.drop hs7 (List.sublist_append_right [_, _] _))) (St.drew hs7) (fun whs171 hs171 => ?_)
     replace hs171 : St _ _ _ _ := hs171
     refine WH.take 0 rfl (by kernel_rfl) rfl rfl rfl (St.drop hs171 (List.sublist_append_right [_, _] _)) (fun w_ hs_ => (Run.build rfl rfl rfl rfl (built_25))) ?_
     refine WH.take 1 rfl (by kernel_rfl) rfl rfl rfl (St.drop hs171 (List.sublist_append_right [_, _] _)) (fun w_ hs_ => (Run.move rfl rfl)) ?_
     refine WH.take 2 rfl (by kernel_rfl) rfl rfl rfl (St.drop hs171 (List.sublist_append_right [_, _] _)) (fun w_ hs_ => (Run.field Try.runUnderlying25 rfl rfl rfl Try.sizeOf4 rfl)) ?_
     refine WH.take 3 rfl (by kernel_rfl) rfl rfl rfl (St.drop hs171 (List.sublist_append_right [_, _] _)) (fun w_ hs_ => (Run.loadL (hs_ : St _ _ _ _) 0 Try.isAgg4 rfl rfl rfl rfl)) ?_
     refine WH.take 4 rfl (by kernel_rfl) rfl rfl rfl (St.drop hs171 (List.sublist_append_right [_, _] _)) (fun w_ hs_ => (Run.field Try.runUnderlying25 rfl rfl rfl Try.sizeOf22 rfl)) ?_
     refine WH.take 5 rfl (by kernel_rfl) rfl rfl rfl (St.drop hs171 (List.sublist_append_right [_, _] _)) (fun w_ hs_ => (Run.loadL (hs_ : St _ _ _ _) 0 Try.isAgg22 rfl rfl rfl rfl)) ?_
     refine WH.take 6 rfl (by kernel_rfl) rfl rfl rfl (St.drop hs171 (List.sublist_append_right [_, _] _)) (fun w_ hs_ => (Run.build rfl rfl rfl rfl (built_44_0_1_2_3 _ _ _ _ _ _))) ?_
     refine WH.all [7] (by kernel_rfl) rfl (WHs.cons (i := 7) rfl ?_ WHs.nil)
     refine WL.st tbk hs171 1 rfl rfl (fun _ hs172 => ?_)
     refine WL.nil ⟨(St.drop hs172 (List.sublist_append_right [_, _] _)), ?_⟩
     refine WH.all [8] (by kernel_rfl) rfl (WHs.cons (i := 8) rfl ?_ WHs.nil)
     refine WL.st tbk hs172 0 rfl rfl (fun _ hs173 => ?_)
     refine WL.nil ⟨(St.drop hs173 (List.sublist_append_right [_, _] _)), ?_⟩
     refine WH.done (by kernel_rfl) ?_
     refine hK170 _ _ ?_
     refine WC.ret ?_
     refine ibR (tkR ?_)
     clear hK8
     refine retV2 rfl (resV.cellA tbk hs173 1 rfl rfl rfl rfl) (resV.cellA tbk hs173 0 rfl rfl rfl rfl) ?_
     have hv : vpCsi p.dat b = (vp0, ⟨4, b, p.dat.Mark, p.dat.Args⟩) := by unfold vpCsi; rw [if_neg hc1, if_neg hc2, if_neg hc3, if_pos hc4]
     obtain ⟨L177, hs176, ho178⟩ := ownVpR.fold ⟨0, false, ⟨_, _, _, _⟩, ⟨_, _, _, _⟩⟩ (St.perm (St.perm hs173 (L' := ([] : Hp) ++ _) (perm_front (A := [_, _, _]) (List.Perm.refl _))) (L' := ([] : Hp) ++ _) (perm_front (A := ([] : Hp)) (perm_front (A := [_, _, _]) (List.Perm.refl _)))) (OwnF.nil _ _) (OwnF.nil _ _)
     have hs179 := (St.perm (St.perm (St.perm hs176 (L' := [_] ++ _) (perm_front (A := L177) (perm_front (A := [_, _]) (List.Perm.refl _)))) (L' := [_] ++ _) (perm_front (A := [_]) (perm_front (A := L177) (perm_front (A := [_]) (List.Perm.refl _))))) (L' := [_] ++ _) (perm_front (A := [_, _]) (perm_front (A := L177) (List.Perm.refl _))))
     obtain ⟨L180, L181, hs184, ho182, ho183⟩ := ownVpR.open_ (St.perm hs179 (L' := L_p ++ _) (perm_front (A := [_, _, _]) (perm_front (A := L177) (List.Perm.refl _)))) o_p
     have hs185 := (St.perm (St.perm (St.perm hs184 (L' := [_] ++ _) (perm_front (A := L180) (perm_front (A := L181) (perm_front (A := [_, _]) (List.Perm.refl _))))) (L' := [_] ++ _) (perm_front (A := [_]) (perm_front (A := L180) (perm_front (A := L181) (perm_front (A := [_]) (List.Perm.refl _)))))) (L' := [_] ++ _) (perm_front (A := [_, _]) (perm_front (A := L180) (perm_front (A := L181) (List.Perm.refl _)))))
     refine ⟨⟨0, false, ⟨none, 0, 0, []⟩, ⟨none, 0, 0, []⟩⟩, _, ⟨(4), b, p.Mark, SlD.of ho182⟩, _, rfl, (St.drop (St.perm (St.perm hs185 (L' := L180 ++ _) (perm_front (A := [_, _, _]) (List.Perm.refl _))) (L' := L177 ++ _) (perm_front (A := L180) (perm_front (A := [_, _, _]) (perm_front (A := L181) (List.Perm.refl _))))) (List.Sublist.append_left (List.sublist_append_left L180 _) L177)), ?_, ?_, ?_, ?_⟩
     · exact (by exact ho178)
     · exact ho182
     · rw [hv]; rfl
     · rw [hv]; rfl
    ·have qh169 := h169
     try simp only [bf, within_iff, within_not] at qh169
     have hc4 : ¬ (64 ≤ b ∧ b ≤ 126) := by first | omega | (simp at qh169; omega)
     refine WC.sr ?_
     refine WL.run tbk 3 hs7 [] rfl trivial ?_
     refine WL.pO tbk 2 Acts.nil hs7 [] rfl rfl rfl rfl (fun g_ => trivial) ?_
     refine WL.run tbk 1 hs7 [] rfl trivial ?_
     refine WL.nil ?_
     refine WC.cond rfl (fun h186 => ?_) (fun h186 => ?_)
     ·have qh186 := h186
      try simp only [bf, within_iff, within_not] at qh186
      have hc5 : b < 32 ∨ b = 127 := by first | omega | (simp at qh186; omega)
      refine WC.sr ?_
      refine WL.run tbk 2 hs7 [2] rfl ⟨rfl, trivial⟩ ?_
      refine WL.val rfl rfl rfl (Run.build rfl rfl rfl rfl (built_44_0_1 _ _)) ?_
      refine WL.st tbk hs7 1 rfl rfl (fun _ hs187 => ?_)
      refine WL.st tbk hs187 0 rfl rfl (fun _ hs188 => ?_)
      refine WL.nil ?_
      refine WC.ret ?_
      refine ibR (tkR ?_)
      clear hK8
      refine retV2 rfl (resV.cellA tbk hs188 1 rfl rfl rfl rfl) (resV.cellA tbk hs188 0 rfl rfl rfl rfl) ?_
      have hv : vpCsi p.dat b = (p.dat, ⟨2, b, false, []⟩) := by unfold vpCsi; rw [if_neg hc1, if_neg hc2, if_neg hc3, if_neg hc4, if_pos hc5]
      refine ⟨p, _, ⟨(2), b, false, ⟨none, 0, 0, []⟩⟩, _, rfl, (St.drop (St.perm (St.perm hs188 (L' := ([] : Hp) ++ _) (perm_front (A := [_, _, _]) (List.Perm.refl _))) (L' := L_p ++ _) (perm_front (A := ([] : Hp)) (perm_front (A := [_, _, _]) (List.Perm.refl _)))) (List.Sublist.append_left (List.sublist_append_left ([] : Hp) _) L_p)), ?_, ?_, ?_, ?_⟩
      · exact o_p
      · exact (OwnF.nil _ _)
      · rw [hv]; first | done | rfl
      · rw [hv]; first | done | rfl
     ·have qh186 := h186
      try simp only [bf, within_iff, within_not] at qh186
      have hc5 : ¬ (b < 32 ∨ b = 127) := by first | omega | (simp at qh186; omega)
      refine WC.region ?_
      refine WL.run tbk 1 hs7 [] rfl trivial ?_
      refine WL.st tbk hs7 2 rfl rfl (fun _ hs190 => ?_)
      refine WL.nil ?_
      refine hK8 _ _ ?_
      refine WC.sr ?_
      refine WL.run tbk 1 hs190 [2] rfl ⟨rfl, trivial⟩ ?_
      refine WL.val rfl rfl rfl (Run.build rfl rfl rfl rfl (built_44)) ?_
      refine WL.st tbk hs190 1 rfl rfl (fun _ hs191 => ?_)
      refine WL.st tbk hs191 0 rfl rfl (fun _ hs192 => ?_)
      refine WL.nil ?_
      refine WC.ret ?_
      refine retV2 rfl (resV.cellA tbk hs192 1 rfl rfl rfl rfl) (resV.cellA tbk hs192 0 rfl rfl rfl rfl) ?_
      have hv : vpCsi p.dat b = ({ p.dat with State := 3 }, act0) := by unfold vpCsi; rw [if_neg hc1, if_neg hc2, if_neg hc3, if_neg hc4, if_neg hc5]
      obtain ⟨L193, L194, hs197, ho195, ho196⟩ := ownVpR.open_ (St.perm hs192 (L' := L_p ++ _) (perm_front (A := [_, _, _]) (List.Perm.refl _))) o_p
      have hs198 := (St.perm (St.perm (St.perm hs197 (L' := [_] ++ _) (perm_front (A := L193) (perm_front (A := L194) (perm_front (A := [_, _]) (List.Perm.refl _))))) (L' := [_] ++ _) (perm_front (A := [_]) (perm_front (A := L193) (perm_front (A := L194) (perm_front (A := [_]) (List.Perm.refl _)))))) (L' := [_] ++ _) (perm_front (A := [_, _]) (perm_front (A := L193) (perm_front (A := L194) (List.Perm.refl _)))))
      obtain ⟨L200, hs199, ho201⟩ := ownVpR.fold ⟨0, false, ⟨_, _, _, _⟩, ⟨_, _, _, _⟩⟩ (St.perm (St.perm hs198 (L' := L194 ++ _) (perm_front (A := [_, _, _]) (perm_front (A := L193) (List.Perm.refl _)))) (L' := L193 ++ _) (perm_front (A := L194) (perm_front (A := [_, _, _]) (List.Perm.refl _)))) ho195 ho196
      have hs202 := (St.perm (St.perm (St.perm hs199 (L' := [_] ++ _) (perm_front (A := L200) (perm_front (A := [_, _]) (List.Perm.refl _)))) (L' := [_] ++ _) (perm_front (A := [_]) (perm_front (A := L200) (perm_front (A := [_]) (List.Perm.refl _))))) (L' := [_] ++ _) (perm_front (A := [_, _]) (perm_front (A := L200) (List.Perm.refl _))))
      refine ⟨⟨(3), p.Mark, SlD.of ho195, SlD.of ho196⟩, _, ⟨0, 0, false, ⟨none, 0, 0, []⟩⟩, _, rfl, (St.drop (St.perm (St.perm hs202 (L' := ([] : Hp) ++ _) (perm_front (A := [_, _, _]) (List.Perm.refl _))) (L' := L200 ++ _) (perm_front (A := ([] : Hp)) (perm_front (A := [_, _, _]) (List.Perm.refl _)))) (List.Sublist.append_left (List.sublist_append_left ([] : Hp) _) L200)), ?_, ?_, ?_, ?_⟩
      · exact (by exact ho201)
      · exact (OwnF.nil _ _)
      · rw [hv]; rfl
      · rw [hv]; first | done | rfl
theorem c_spec_VpByte (p : VpR) (b : Int) (w : World) (f_p : okVpR 1099511627776 w p) (hsm : smVp 1048576 p.dat) :
    Calls Try.prog 18 #[.agg #[i64 p.State, .bool p.Mark, .slice p.Args.A p.Args.n p.Args.c, .slice p.Part.A p.Part.n p.Part.c], i64 b] w fun e w' => ∃ r0 L0 r1 L1, e = .returned (.tuple #[.agg #[i64 r0.State, .bool r0.Mark, .slice r0.Args.A r0.Args.n r0.Args.c, .slice r0.Part.A r0.Part.n r0.Part.c], .agg #[i64 r1.Kind, i64 r1.R, .bool r1.Mark, .slice r1.Args.A r1.Args.n r1.Args.c]]) ∧ St w [] (L0 ++ L1) w' ∧ ownVpR r0 L0 ∧ ownActR r1 L1 ∧ r0.dat = (vpByte p.dat b).1 ∧ r1.dat = (vpByte p.dat b).2 := by
 have nb_p_Args := f_p.Args_n
 have nl_p_Args := f_p.Args.len
 have nb_p_Part := f_p.Part_n
 have nl_p_Part := f_p.Part.len
 have hsB : smVp 1099511627776 p.dat := ⟨Nat.le_trans hsm.1 (by decide), Nat.le_trans hsm.2 (by decide)⟩
 have hsa : p.Args.xs.length ≤ 1048576 := hsm.1
 have hsp : p.Part.xs.length ≤ 1048576 := hsm.2
 refine enter (vs := [.agg #[i64 p.State, .bool p.Mark, .slice p.Args.A p.Args.n p.Args.c, .slice p.Part.A p.Part.n p.Part.c], i64 b]) 78 Try.func18 rfl Try.ntmps18 rfl rfl ?_
 have hs1 := St.init w
 refine WC.sr ?_
 refine WL.bx hs1 rfl (fun b2 _ hs3 => ?_)
 refine WL.al hs3 Try.zeroValue25 rfl rfl (fun b4 _ hs5 => ?_)
 refine WL.al hs5 Try.zeroValue44 rfl rfl (fun b6 _ hs7 => ?_)
 refine WL.nil ?_
 refine WC.seq (fun K8 hK8 => ?_)
 refine WC.sr ?_
 refine WL.run tbk 1 hs7 [2] rfl ⟨rfl, trivial⟩ ?_
 refine WL.call rfl rfl rfl (Run.call Try.call66 rfl rfl rfl) (c_spec_VpOk p _ (okVpR.st0 f_p hs7)) ?_
 rintro _ whs9 ⟨rfl, hs9⟩
 replace hs9 := hs7.call0 hs9
 refine ⟨_, rfl, ?_⟩
 refine WL.run tbk 2 hs9 [] rfl trivial ?_
 refine WL.pO tbk 2 Acts.nil hs9 [] rfl rfl rfl rfl (fun g_ => trivial) ?_
 refine WL.run tbk 1 hs9 [] rfl trivial ?_
 refine WL.pO tbk 2 Acts.nil hs9 [] rfl rfl rfl rfl (fun g_ => trivial) ?_
 refine WL.nil ?_
 refine WC.cond rfl (fun h10 => ?_) (fun h10 => ?_)
 ·have qh10 := h10
  try simp only [bf, within_iff, within_not] at qh10
  have k0 : ¬ (vpOk p.dat = true ∧ 0 ≤ b ∧ b ≤ 255) := by rintro ⟨h1, h2⟩; rw [h1] at qh10; simp at qh10; omega
  refine WC.sr ?_
  refine WL.val rfl rfl rfl (Run.build rfl rfl rfl rfl (built_25)) ?_
  refine WL.val rfl rfl rfl (Run.build rfl rfl rfl rfl (built_44)) ?_
  refine WL.st tbk hs9 1 rfl rfl (fun _ hs11 => ?_)
  refine WL.st tbk hs11 0 rfl rfl (fun _ hs12 => ?_)
  refine WL.nil ?_
  refine WC.ret ?_
  refine tkR ?_
  clear hK8
  refine retV2 rfl (resV.cellA tbk hs12 1 rfl rfl rfl rfl) (resV.cellA tbk hs12 0 rfl rfl rfl rfl) ?_
  have hv : vpByte p.dat b = (vp0, act0) := by unfold vpByte; rw [if_neg k0]
  obtain ⟨L16, hs15, ho17⟩ := ownVpR.fold ⟨0, false, ⟨_, _, _, _⟩, ⟨_, _, _, _⟩⟩ (St.perm (St.perm hs12 (L' := ([] : Hp) ++ _) (perm_front (A := [_, _, _]) (List.Perm.refl _))) (L' := ([] : Hp) ++ _) (perm_front (A := ([] : Hp)) (perm_front (A := [_, _, _]) (List.Perm.refl _)))) (OwnF.nil _ _) (OwnF.nil _ _)
  have hs18 := (St.perm (St.perm (St.perm hs15 (L' := [_] ++ _) (perm_front (A := L16) (perm_front (A := [_, _]) (List.Perm.refl _)))) (L' := [_] ++ _) (perm_front (A := [_]) (perm_front (A := L16) (perm_front (A := [_]) (List.Perm.refl _))))) (L' := [_] ++ _) (perm_front (A := [_, _]) (perm_front (A := L16) (List.Perm.refl _))))
  refine ⟨⟨0, false, ⟨none, 0, 0, []⟩, ⟨none, 0, 0, []⟩⟩, _, ⟨0, 0, false, ⟨none, 0, 0, []⟩⟩, _, rfl, (St.drop (St.perm (St.perm hs18 (L' := ([] : Hp) ++ _) (perm_front (A := [_, _, _]) (List.Perm.refl _))) (L' := L16 ++ _) (perm_front (A := ([] : Hp)) (perm_front (A := [_, _, _]) (List.Perm.refl _)))) (List.Sublist.append_left (List.sublist_append_left ([] : Hp) _) L16)), ?_, ?_, ?_, ?_⟩
  · exact (by exact ho17)
  · exact (OwnF.nil _ _)
  · rw [hv]; first | done | rfl
  · rw [hv]; first | done | rfl
 ·have qh10 := h10
  try simp only [bf, within_iff, within_not] at qh10
  have k0 : vpOk p.dat = true ∧ 0 ≤ b ∧ b ≤ 255 := by first | exact qh10 | (simp at qh10; exact ⟨qh10.1.1, by omega⟩)
  have hok := k0.1
  have hb := k0.2
  have hb1 : vpByte p.dat b = vpStep p.dat b := by unfold vpByte; rw [if_pos k0]
  refine WC.skip ?_
  refine hK8 _ _ ?_
  refine WC.seq (fun K20 hK20 => ?_)
  refine WC.rr tbk hs9 [] rfl trivial ?_
  refine WC.cD rfl (fun qh21 => ?_) (fun qh21 => ?_)
  ·have k1 : b = 27 := by first | exact qh21 | omega | (simp at qh21; omega)
   refine WC.sr ?_
   refine WL.val rfl rfl rfl (Run.build rfl rfl rfl rfl (built_25_0 _)) ?_
   refine WL.val rfl rfl rfl (Run.build rfl rfl rfl rfl (built_44)) ?_
   refine WL.st tbk hs9 1 rfl rfl (fun _ hs22 => ?_)
   refine WL.st tbk hs22 0 rfl rfl (fun _ hs23 => ?_)
   refine WL.nil ?_
   refine WC.ret ?_
   refine tkR ?_
   clear hK20
   refine retV2 rfl (resV.cellA tbk hs23 1 rfl rfl rfl rfl) (resV.cellA tbk hs23 0 rfl rfl rfl rfl) ?_
   have hv : vpStep p.dat b = (⟨1, false, [], []⟩, act0) := by unfold vpStep; rw [if_pos k1]
   obtain ⟨L27, hs26, ho28⟩ := ownVpR.fold ⟨0, false, ⟨_, _, _, _⟩, ⟨_, _, _, _⟩⟩ (St.perm (St.perm hs23 (L' := ([] : Hp) ++ _) (perm_front (A := [_, _, _]) (List.Perm.refl _))) (L' := ([] : Hp) ++ _) (perm_front (A := ([] : Hp)) (perm_front (A := [_, _, _]) (List.Perm.refl _)))) (OwnF.nil _ _) (OwnF.nil _ _)
   have hs29 := (St.perm (St.perm (St.perm hs26 (L' := [_] ++ _) (perm_front (A := L27) (perm_front (A := [_, _]) (List.Perm.refl _)))) (L' := [_] ++ _) (perm_front (A := [_]) (perm_front (A := L27) (perm_front (A := [_]) (List.Perm.refl _))))) (L' := [_] ++ _) (perm_front (A := [_, _]) (perm_front (A := L27) (List.Perm.refl _))))
   refine ⟨⟨(1), false, ⟨none, 0, 0, []⟩, ⟨none, 0, 0, []⟩⟩, _, ⟨0, 0, false, ⟨none, 0, 0, []⟩⟩, _, rfl, (St.drop (St.perm (St.perm hs29 (L' := ([] : Hp) ++ _) (perm_front (A := [_, _, _]) (List.Perm.refl _))) (L' := L27 ++ _) (perm_front (A := ([] : Hp)) (perm_front (A := [_, _, _]) (List.Perm.refl _)))) (List.Sublist.append_left (List.sublist_append_left ([] : Hp) _) L27)), ?_, ?_, ?_, ?_⟩
   · exact (by exact ho28)
   · exact (OwnF.nil _ _)
   · rw [hb1, hv]; first | exact rfl | rfl
   · rw [hb1, hv]; first | exact rfl | rfl
  ·have k1 : ¬ (b = 27) := by first | exact qh21 | omega | (simp at qh21; omega)
   refine WC.skip ?_
   refine hK20 _ _ ?_
   refine WC.seq (fun K31 hK31 => ?_)
   refine WC.sr ?_
   refine WL.run tbk 3 hs9 [] rfl trivial ?_
   refine WL.pO tbk 2 Acts.nil hs9 [] rfl rfl rfl rfl (fun g_ => trivial) ?_
   refine WL.nil ?_
   refine WC.cond rfl (fun h32 => ?_) (fun h32 => ?_)
   ·have qh32 := h32
    try simp only [bf, within_iff, within_not] at qh32
    have k2 : b = 24 ∨ b = 26 := by first | exact qh32 | omega | (simp at qh32; omega)
    refine WC.sr ?_
    refine WL.val rfl rfl rfl (Run.build rfl rfl rfl rfl (built_25)) ?_
    refine WL.val rfl rfl rfl (Run.build rfl rfl rfl rfl (built_44)) ?_
    refine WL.st tbk hs9 1 rfl rfl (fun _ hs33 => ?_)
    refine WL.st tbk hs33 0 rfl rfl (fun _ hs34 => ?_)
    refine WL.nil ?_
    refine WC.ret ?_
    refine tkR ?_
    clear hK31
    refine retV2 rfl (resV.cellA tbk hs34 1 rfl rfl rfl rfl) (resV.cellA tbk hs34 0 rfl rfl rfl rfl) ?_
    have hv : vpStep p.dat b = (vp0, act0) := by unfold vpStep; rw [if_neg k1, if_pos k2]
    obtain ⟨L38, hs37, ho39⟩ := ownVpR.fold ⟨0, false, ⟨_, _, _, _⟩, ⟨_, _, _, _⟩⟩ (St.perm (St.perm hs34 (L' := ([] : Hp) ++ _) (perm_front (A := [_, _, _]) (List.Perm.refl _))) (L' := ([] : Hp) ++ _) (perm_front (A := ([] : Hp)) (perm_front (A := [_, _, _]) (List.Perm.refl _)))) (OwnF.nil _ _) (OwnF.nil _ _)
    have hs40 := (St.perm (St.perm (St.perm hs37 (L' := [_] ++ _) (perm_front (A := L38) (perm_front (A := [_, _]) (List.Perm.refl _)))) (L' := [_] ++ _) (perm_front (A := [_]) (perm_front (A := L38) (perm_front (A := [_]) (List.Perm.refl _))))) (L' := [_] ++ _) (perm_front (A := [_, _]) (perm_front (A := L38) (List.Perm.refl _))))
    refine ⟨⟨0, false, ⟨none, 0, 0, []⟩, ⟨none, 0, 0, []⟩⟩, _, ⟨0, 0, false, ⟨none, 0, 0, []⟩⟩, _, rfl, (St.drop (St.perm (St.perm hs40 (L' := ([] : Hp) ++ _) (perm_front (A := [_, _, _]) (List.Perm.refl _))) (L' := L38 ++ _) (perm_front (A := ([] : Hp)) (perm_front (A := [_, _, _]) (List.Perm.refl _)))) (List.Sublist.append_left (List.sublist_append_left ([] : Hp) _) L38)), ?_, ?_, ?_, ?_⟩
    · exact (by exact ho39)
    · exact (OwnF.nil _ _)
    · rw [hb1, hv]; first | exact rfl | rfl
    · rw [hb1, hv]; first | exact rfl | rfl
   ·have qh32 := h32
    try simp only [bf, within_iff, within_not] at qh32
    have k2 : ¬ (b = 24 ∨ b = 26) := by first | exact qh32 | omega | (simp at qh32; omega)
    refine WC.skip ?_
    refine hK31 _ _ ?_
    refine WC.sr ?_
    refine WL.run tbk 1 hs9 [2] rfl ⟨rfl, trivial⟩ ?_
    refine WL.call rfl rfl rfl (Run.call Try.call67 rfl rfl rfl) (c_spec_l08Copy p _ (okVpR.st0 f_p hs9) ?_) ?_
    · first | (first | assumption | rfl | omega) | (first | (rw [rfl]; assumption) | (simp; omega))
    rintro _ whs42 ⟨r43, L144, rfl, hs42, ho45, hd46⟩
    replace hs42 := hs9.callF hs42
    refine ⟨_, rfl, ?_⟩
    replace hs42 := St.back [_, _, _] hs42
    skip
    refine WL.al hs42 Try.zeroValue25 rfl rfl (fun b47 _ hs48 => ?_)
    refine WL.st tbk hs48 0 rfl rfl (fun _ hs49 => ?_)
    refine WL.nil ?_
    refine WC.seq (fun K50 hK50 => ?_)
    refine WC.rr tbk hs49 [3] rfl ⟨rfl, trivial⟩ ?_
    refine WC.block ?_
    refine WC.rr tbk hs49 [] rfl trivial ?_
    refine WC.cD rfl (fun qh51 => ?_) (fun qh51 => ?_)
    ·have k3 : p.dat.State = 0 := by show p.State = 0; first | exact qh51 | omega | (simp at qh51; omega)
     refine WC.sr ?_
     refine WL.run tbk 3 hs49 [3] rfl ⟨rfl, trivial⟩ ?_
     refine WL.call rfl rfl rfl (Run.call Try.call68 rfl rfl rfl) (c_spec_l08Plain _ _ _ _ _ _ (SlF.st0 f_p.Part hs49) ?_) ?_
     · first | (first | assumption | rfl | omega) | (first | (rw [hd46]; assumption) | (simp; omega))
     rintro _ whs52 ⟨r053, L054, r155, L156, rfl, hs52, ho57, ho58, hd059, hd160⟩
     replace hs52 := hs49.callF hs52
     refine ⟨_, rfl, ?_⟩
     replace hs52 := St.assoc hs52
     replace hs52 := St.back2 [_, _, _, _] hs52
     refine WL.run tbk 2 hs52 [] rfl trivial ?_
     refine WL.st tbk hs52 2 rfl rfl (fun _ hs61 => ?_)
     refine WL.st tbk hs61 1 rfl rfl (fun _ hs62 => ?_)
     refine WL.nil ?_
     refine WC.ret ?_
     refine ibR (tkR ?_)
     clear hK50
     refine retV2 rfl (resV.cellA tbk hs62 2 rfl rfl rfl rfl) (resV.cellA tbk hs62 1 rfl rfl rfl rfl) ?_
     have hv : vpStep p.dat b = vpPlain p.dat.Part b := by unfold vpStep; rw [if_neg k1, if_neg k2, if_pos k3]
     refine ⟨r053, _, r155, _, rfl, (St.drop (St.perm (St.perm hs62 (L' := L156 ++ _) (perm_front (A := [_, _, _, _]) (perm_front (A := L054) (List.Perm.refl _)))) (L' := L054 ++ _) (perm_front (A := L156) (perm_front (A := [_, _, _, _]) (List.Perm.refl _)))) (List.Sublist.append_left (List.sublist_append_left L156 _) L054)), ?_, ?_, ?_, ?_⟩
     · exact ho57
     · exact ho58
     · rw [hb1, hv]; first | exact hd059 | rfl
     · rw [hb1, hv]; first | exact hd160 | rfl
    ·have k3 : ¬ (p.dat.State = 0) := by show ¬ (p.State = 0); first | exact qh51 | omega | (simp at qh51; omega)
     refine WC.rr tbk hs49 [] rfl trivial ?_
     refine WC.cD rfl (fun qh63 => ?_) (fun qh63 => ?_)
     ·have k4 : p.dat.State = 1 := by show p.State = 1; first | exact qh63 | omega | (simp at qh63; omega)
      refine WC.seq (fun K64 hK64 => ?_)
      refine WC.rr tbk hs49 [] rfl trivial ?_
      refine WC.cD rfl (fun qh65 => ?_) (fun qh65 => ?_)
      ·have k5 : b = 91 := by first | exact qh65 | omega | (simp at qh65; omega)
       refine WC.sr ?_
       refine WL.val rfl rfl rfl (Run.build rfl rfl rfl rfl (built_25_0 _)) ?_
       refine WL.val rfl rfl rfl (Run.build rfl rfl rfl rfl (built_44)) ?_
       refine WL.st tbk hs49 2 rfl rfl (fun _ hs66 => ?_)
       refine WL.st tbk hs66 1 rfl rfl (fun _ hs67 => ?_)
       refine WL.nil ?_
       refine WC.ret ?_
       refine tkR (ibR (tkR ?_))
       clear hK64 hK50
       refine retV2 rfl (resV.cellA tbk hs67 2 rfl rfl rfl rfl) (resV.cellA tbk hs67 1 rfl rfl rfl rfl) ?_
       have hv : vpStep p.dat b = (⟨2, false, [], []⟩, act0) := by unfold vpStep; rw [if_neg k1, if_neg k2, if_neg k3, if_pos k4, if_pos k5]
       obtain ⟨L71, hs70, ho72⟩ := ownVpR.fold ⟨0, false, ⟨_, _, _, _⟩, ⟨_, _, _, _⟩⟩ (St.perm (St.perm hs67 (L' := ([] : Hp) ++ _) (perm_front (A := [_, _, _, _]) (List.Perm.refl _))) (L' := ([] : Hp) ++ _) (perm_front (A := ([] : Hp)) (perm_front (A := [_, _, _, _]) (List.Perm.refl _)))) (OwnF.nil _ _) (OwnF.nil _ _)
       have hs73 := (St.perm (St.perm (St.perm (St.perm hs70 (L' := [_] ++ _) (perm_front (A := L71) (perm_front (A := [_, _, _]) (List.Perm.refl _)))) (L' := [_] ++ _) (perm_front (A := [_]) (perm_front (A := L71) (perm_front (A := [_, _]) (List.Perm.refl _))))) (L' := [_] ++ _) (perm_front (A := [_, _]) (perm_front (A := L71) (perm_front (A := [_]) (List.Perm.refl _))))) (L' := [_] ++ _) (perm_front (A := [_, _, _]) (perm_front (A := L71) (List.Perm.refl _))))
       refine ⟨⟨(2), false, ⟨none, 0, 0, []⟩, ⟨none, 0, 0, []⟩⟩, _, ⟨0, 0, false, ⟨none, 0, 0, []⟩⟩, _, rfl, (St.drop (St.perm (St.perm hs73 (L' := ([] : Hp) ++ _) (perm_front (A := [_, _, _, _]) (List.Perm.refl _))) (L' := L71 ++ _) (perm_front (A := ([] : Hp)) (perm_front (A := [_, _, _, _]) (List.Perm.refl _)))) (List.Sublist.append_left (List.sublist_append_left ([] : Hp) _) L71)), ?_, ?_, ?_, ?_⟩
       · exact (by exact ho72)
       · exact (OwnF.nil _ _)
       · rw [hb1, hv]; first | exact rfl | rfl
       · rw [hb1, hv]; first | exact rfl | rfl
      ·have k5 : ¬ (b = 91) := by first | exact qh65 | omega | (simp at qh65; omega)
       refine WC.skip ?_
       refine hK64 _ _ ?_
       refine WC.seq (fun K75 hK75 => ?_)
       refine WC.sr ?_
       refine WL.run tbk 3 hs49 [] rfl trivial ?_
       refine WL.pA tbk 2 Acts.nil hs49 [] rfl rfl rfl rfl (fun g_ => trivial) ?_
       refine WL.nil ?_
       refine WC.cond rfl (fun h76 => ?_) (fun h76 => ?_)
       ·have qh76 := h76
        try simp only [bf, within_iff, within_not] at qh76
        have k6 : 48 ≤ b ∧ b ≤ 126 := by first | exact qh76 | omega | (simp at qh76; omega)
        refine WC.sr ?_
        refine WL.val rfl rfl rfl (Run.build rfl rfl rfl rfl (built_25)) ?_
        refine WL.run tbk 1 hs49 [] rfl trivial ?_
        refine WL.val rfl rfl rfl (Run.build rfl rfl rfl rfl (built_44_0_1 _ _)) ?_
        refine WL.st tbk hs49 2 rfl rfl (fun _ hs77 => ?_)
        refine WL.st tbk hs77 1 rfl rfl (fun _ hs78 => ?_)
        refine WL.nil ?_
        refine WC.ret ?_
        refine tkR (ibR (tkR ?_))
        clear hK75 hK50
        refine retV2 rfl (resV.cellA tbk hs78 2 rfl rfl rfl rfl) (resV.cellA tbk hs78 1 rfl rfl rfl rfl) ?_
        have hv : vpStep p.dat b = (vp0, ⟨3, b, false, []⟩) := by unfold vpStep; rw [if_neg k1, if_neg k2, if_neg k3, if_pos k4, if_neg k5, if_pos k6]
        obtain ⟨L82, hs81, ho83⟩ := ownVpR.fold ⟨0, false, ⟨_, _, _, _⟩, ⟨_, _, _, _⟩⟩ (St.perm (St.perm hs78 (L' := ([] : Hp) ++ _) (perm_front (A := [_, _, _, _]) (List.Perm.refl _))) (L' := ([] : Hp) ++ _) (perm_front (A := ([] : Hp)) (perm_front (A := [_, _, _, _]) (List.Perm.refl _)))) (OwnF.nil _ _) (OwnF.nil _ _)
        have hs84 := (St.perm (St.perm (St.perm (St.perm hs81 (L' := [_] ++ _) (perm_front (A := L82) (perm_front (A := [_, _, _]) (List.Perm.refl _)))) (L' := [_] ++ _) (perm_front (A := [_]) (perm_front (A := L82) (perm_front (A := [_, _]) (List.Perm.refl _))))) (L' := [_] ++ _) (perm_front (A := [_, _]) (perm_front (A := L82) (perm_front (A := [_]) (List.Perm.refl _))))) (L' := [_] ++ _) (perm_front (A := [_, _, _]) (perm_front (A := L82) (List.Perm.refl _))))
        refine ⟨⟨0, false, ⟨none, 0, 0, []⟩, ⟨none, 0, 0, []⟩⟩, _, ⟨(3), b, false, ⟨none, 0, 0, []⟩⟩, _, rfl, (St.drop (St.perm (St.perm hs84 (L' := ([] : Hp) ++ _) (perm_front (A := [_, _, _, _]) (List.Perm.refl _))) (L' := L82 ++ _) (perm_front (A := ([] : Hp)) (perm_front (A := [_, _, _, _]) (List.Perm.refl _)))) (List.Sublist.append_left (List.sublist_append_left ([] : Hp) _) L82)), ?_, ?_, ?_, ?_⟩
        · exact (by exact ho83)
        · exact (OwnF.nil _ _)
        · rw [hb1, hv]; first | exact rfl | rfl
        · rw [hb1, hv]; first | exact rfl | rfl
       ·have qh76 := h76
        try simp only [bf, within_iff, within_not] at qh76
        have k6 : ¬ (48 ≤ b ∧ b ≤ 126) := by first | exact qh76 | omega | (simp at qh76; omega)
        refine WC.skip ?_
        refine hK75 _ _ ?_
        refine WC.sr ?_
        refine WL.val rfl rfl rfl (Run.build rfl rfl rfl rfl (built_25)) ?_
        refine WL.val rfl rfl rfl (Run.build rfl rfl rfl rfl (built_44)) ?_
        refine WL.st tbk hs49 2 rfl rfl (fun _ hs86 => ?_)
        refine WL.st tbk hs86 1 rfl rfl (fun _ hs87 => ?_)
        refine WL.nil ?_
        refine WC.ret ?_
        refine ibR (tkR ?_)
        clear hK50
        refine retV2 rfl (resV.cellA tbk hs87 2 rfl rfl rfl rfl) (resV.cellA tbk hs87 1 rfl rfl rfl rfl) ?_
        have hv : vpStep p.dat b = (vp0, act0) := by unfold vpStep; rw [if_neg k1, if_neg k2, if_neg k3, if_pos k4, if_neg k5, if_neg k6]
        obtain ⟨L91, hs90, ho92⟩ := ownVpR.fold ⟨0, false, ⟨_, _, _, _⟩, ⟨_, _, _, _⟩⟩ (St.perm (St.perm hs87 (L' := ([] : Hp) ++ _) (perm_front (A := [_, _, _, _]) (List.Perm.refl _))) (L' := ([] : Hp) ++ _) (perm_front (A := ([] : Hp)) (perm_front (A := [_, _, _, _]) (List.Perm.refl _)))) (OwnF.nil _ _) (OwnF.nil _ _)
        have hs93 := (St.perm (St.perm (St.perm (St.perm hs90 (L' := [_] ++ _) (perm_front (A := L91) (perm_front (A := [_, _, _]) (List.Perm.refl _)))) (L' := [_] ++ _) (perm_front (A := [_]) (perm_front (A := L91) (perm_front (A := [_, _]) (List.Perm.refl _))))) (L' := [_] ++ _) (perm_front (A := [_, _]) (perm_front (A := L91) (perm_front (A := [_]) (List.Perm.refl _))))) (L' := [_] ++ _) (perm_front (A := [_, _, _]) (perm_front (A := L91) (List.Perm.refl _))))
        refine ⟨⟨0, false, ⟨none, 0, 0, []⟩, ⟨none, 0, 0, []⟩⟩, _, ⟨0, 0, false, ⟨none, 0, 0, []⟩⟩, _, rfl, (St.drop (St.perm (St.perm hs93 (L' := ([] : Hp) ++ _) (perm_front (A := [_, _, _, _]) (List.Perm.refl _))) (L' := L91 ++ _) (perm_front (A := ([] : Hp)) (perm_front (A := [_, _, _, _]) (List.Perm.refl _)))) (List.Sublist.append_left (List.sublist_append_left ([] : Hp) _) L91)), ?_, ?_, ?_, ?_⟩
        · exact (by exact ho92)
        · exact (OwnF.nil _ _)
        · rw [hb1, hv]; first | exact rfl | rfl
        · rw [hb1, hv]; first | exact rfl | rfl
     ·have k4 : ¬ (p.dat.State = 1) := by show ¬ (p.State = 1); first | exact qh63 | omega | (simp at qh63; omega)
      refine WC.rr tbk hs49 [] rfl trivial ?_
      refine WC.cD rfl (fun qh95 => ?_) (fun qh95 => ?_)
      ·have k7 : p.dat.State = 2 := by show p.State = 2; first | exact qh95 | omega | (simp at qh95; omega)
       have hoa : areArgs p.dat.Args = true := by have h_ := hok; rw [vpOk_csi (.inl k7), Bool.and_eq_true] at h_; exact h_.1
       refine WC.sr ?_
       refine WL.run tbk 2 hs49 [0] rfl ⟨rfl, trivial⟩ ?_
       refine WL.call rfl rfl rfl (Run.call Try.call69 rfl rfl rfl) (c_spec_l08Csi r43 _ _ _ ho45 (fun p_ hp_ => (hs49.own p_ (List.mem_append_right [_, _, _, _] (List.mem_append_left _ hp_))).1) (St.nodupL (St.perm hs49 (L' := L144 ++ _) (perm_front (A := [_, _, _, _]) (List.Perm.refl _)))) ?_ ?_ ?_) ?_
       · first | (first | assumption | rfl | omega) | (first | (rw [hd46]; assumption) | (simp; omega))
       · first | (first | assumption | rfl | omega) | (first | (rw [hd46]; assumption) | (simp; omega))
       · first | (first | assumption | rfl | omega) | (first | (rw [hd46]; assumption) | (simp; omega))
       rintro _ whs96 ⟨r097, L098, r199, L1100, rfl, hs96, ho101, ho102, hd0103, hd1104⟩
       replace hs96 := St.lend (St.perm hs49 (L' := L144 ++ _) (perm_front (A := [_, _, _, _]) (List.Perm.refl _))) hs96
       refine ⟨_, rfl, ?_⟩
       replace hs96 := St.assoc hs96
       replace hs96 := St.back2 [_, _, _, _] hs96
       refine WL.run tbk 2 hs96 [] rfl trivial ?_
       refine WL.st tbk hs96 2 rfl rfl (fun _ hs105 => ?_)
       refine WL.st tbk hs105 1 rfl rfl (fun _ hs106 => ?_)
       refine WL.nil ?_
       refine WC.ret ?_
       refine ibR (tkR ?_)
       clear hK50
       refine retV2 rfl (resV.cellA tbk hs106 2 rfl rfl rfl rfl) (resV.cellA tbk hs106 1 rfl rfl rfl rfl) ?_
       have hv : vpStep p.dat b = vpCsi p.dat b := by unfold vpStep; rw [if_neg k1, if_neg k2, if_neg k3, if_neg k4, if_pos k7]
       refine ⟨r097, _, r199, _, rfl, (St.drop (St.perm (St.perm hs106 (L' := L1100 ++ _) (perm_front (A := [_, _, _, _]) (perm_front (A := L098) (List.Perm.refl _)))) (L' := L098 ++ _) (perm_front (A := L1100) (perm_front (A := [_, _, _, _]) (List.Perm.refl _)))) (List.Sublist.append_left (List.sublist_append_left L1100 _) L098)), ?_, ?_, ?_, ?_⟩
       · exact ho101
       · exact ho102
       · rw [hb1, hv]; rw [hd46] at hd0103; exact hd0103
       · rw [hb1, hv]; rw [hd46] at hd1104; exact hd1104
      ·have k7 : ¬ (p.dat.State = 2) := by show ¬ (p.State = 2); first | exact qh95 | omega | (simp at qh95; omega)
       refine WC.skip ?_
       refine hK50 _ _ ?_
       refine WC.seq (fun K107 hK107 => ?_)
       refine WC.sr ?_
       refine WL.run tbk 3 hs49 [] rfl trivial ?_
       refine WL.pA tbk 2 Acts.nil hs49 [] rfl rfl rfl rfl (fun g_ => trivial) ?_
       refine WL.nil ?_
       refine WC.cond rfl (fun h108 => ?_) (fun h108 => ?_)
       ·have qh108 := h108
        try simp only [bf, within_iff, within_not] at qh108
        have k8 : 64 ≤ b ∧ b ≤ 126 := by first | exact qh108 | omega | (simp at qh108; omega)
        refine WC.sr ?_
        refine WL.val rfl rfl rfl (Run.build rfl rfl rfl rfl (built_25)) ?_
        refine WL.val rfl rfl rfl (Run.build rfl rfl rfl rfl (built_44)) ?_
        refine WL.st tbk hs49 2 rfl rfl (fun _ hs109 => ?_)
        refine WL.st tbk hs109 1 rfl rfl (fun _ hs110 => ?_)
        refine WL.nil ?_
        refine WC.ret ?_
        refine tkR ?_
        clear hK107
        refine retV2 rfl (resV.cellA tbk hs110 2 rfl rfl rfl rfl) (resV.cellA tbk hs110 1 rfl rfl rfl rfl) ?_
        have hv : vpStep p.dat b = (vp0, act0) := by unfold vpStep; rw [if_neg k1, if_neg k2, if_neg k3, if_neg k4, if_neg k7, if_pos k8]
        obtain ⟨L114, hs113, ho115⟩ := ownVpR.fold ⟨0, false, ⟨_, _, _, _⟩, ⟨_, _, _, _⟩⟩ (St.perm (St.perm hs110 (L' := ([] : Hp) ++ _) (perm_front (A := [_, _, _, _]) (List.Perm.refl _))) (L' := ([] : Hp) ++ _) (perm_front (A := ([] : Hp)) (perm_front (A := [_, _, _, _]) (List.Perm.refl _)))) (OwnF.nil _ _) (OwnF.nil _ _)
        have hs116 := (St.perm (St.perm (St.perm (St.perm hs113 (L' := [_] ++ _) (perm_front (A := L114) (perm_front (A := [_, _, _]) (List.Perm.refl _)))) (L' := [_] ++ _) (perm_front (A := [_]) (perm_front (A := L114) (perm_front (A := [_, _]) (List.Perm.refl _))))) (L' := [_] ++ _) (perm_front (A := [_, _]) (perm_front (A := L114) (perm_front (A := [_]) (List.Perm.refl _))))) (L' := [_] ++ _) (perm_front (A := [_, _, _]) (perm_front (A := L114) (List.Perm.refl _))))
        refine ⟨⟨0, false, ⟨none, 0, 0, []⟩, ⟨none, 0, 0, []⟩⟩, _, ⟨0, 0, false, ⟨none, 0, 0, []⟩⟩, _, rfl, (St.drop (St.perm (St.perm hs116 (L' := ([] : Hp) ++ _) (perm_front (A := [_, _, _, _]) (List.Perm.refl _))) (L' := L114 ++ _) (perm_front (A := ([] : Hp)) (perm_front (A := [_, _, _, _]) (List.Perm.refl _)))) (List.Sublist.append_left (List.sublist_append_left ([] : Hp) _) L114)), ?_, ?_, ?_, ?_⟩
        · exact (by exact ho115)
        · exact (OwnF.nil _ _)
        · rw [hb1, hv]; first | exact rfl | rfl
        · rw [hb1, hv]; first | exact rfl | rfl
       ·have qh108 := h108
        try simp only [bf, within_iff, within_not] at qh108
        have k8 : ¬ (64 ≤ b ∧ b ≤ 126) := by first | exact qh108 | omega | (simp at qh108; omega)
        refine WC.skip ?_
        refine hK107 _ _ ?_
        refine WC.sr ?_
        refine WL.run tbk 1 hs49 [0] rfl ⟨rfl, trivial⟩ ?_
        refine WL.val rfl rfl rfl (Run.build rfl rfl rfl rfl (built_44)) ?_
        refine WL.st tbk hs49 2 rfl rfl (fun _ hs118 => ?_)
        refine WL.st tbk hs118 1 rfl rfl (fun _ hs119 => ?_)
        refine WL.nil ?_
        refine WC.ret ?_
        refine retV2 rfl (resV.cellA tbk hs119 2 rfl rfl rfl rfl) (resV.cellA tbk hs119 1 rfl rfl rfl rfl) ?_
        have hv : vpStep p.dat b = (p.dat, act0) := by unfold vpStep; rw [if_neg k1, if_neg k2, if_neg k3, if_neg k4, if_neg k7, if_neg k8]
        refine ⟨r43, _, ⟨0, 0, false, ⟨none, 0, 0, []⟩⟩, _, rfl, (St.drop (St.perm (St.perm hs119 (L' := ([] : Hp) ++ _) (perm_front (A := [_, _, _, _]) (List.Perm.refl _))) (L' := L144 ++ _) (perm_front (A := ([] : Hp)) (perm_front (A := [_, _, _, _]) (List.Perm.refl _)))) (List.Sublist.append_left (List.sublist_append_left ([] : Hp) _) L144)), ?_, ?_, ?_, ?_⟩
        · exact ho45
        · exact (OwnF.nil _ _)
        · rw [hb1, hv]; exact hd46
        · rw [hb1, hv]; first | done | rfl
end Go.Proofs.Ytlmcekfdlgkffaa
