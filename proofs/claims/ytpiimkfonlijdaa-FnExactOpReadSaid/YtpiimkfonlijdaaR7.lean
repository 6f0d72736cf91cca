/- Walks of Go functions, printed by a program (wip/gen). -/
import Derived.Test.YtpiimkfonlijdaaR6
namespace Go.Proofs.Ytpiimkfonlijdaa
open Go Go.RowKit
set_option linter.unusedVariables false
set_option linter.unusedSimpArgs false
theorem built_105_0 (x0 : Option Addr) (x1 : Nat) (x2 : Nat) : Try.prog.built 105 [(0, .slice x0 x1 x2)] = some (List.toArray [.slice x0 x1 x2, .int .i64 0, .bool false]) := by kernel_rfl
theorem c_spec_OpRead (A_s : Option Addr) (n_s c_s : Nat) (s : List UInt8) (w : World) (f_s : SlF encB w A_s n_s s) (hc : n_s ≤ c_s) (hn : n_s ≤ 1099511627776) :
    Calls Try.prog 31 #[.slice A_s n_s c_s] w fun e w' => ∃ A c L1, e = .returned (.tuple #[.agg #[i64 (opRes s).K, i64 (opRes s).A, i64 (opRes s).B, i64 (opRes s).C, .string (opRes s).nm, .string (opRes s).tx, .string (opRes s).dr, .slice A (opRes s).xs.length c], .bool (opRdOk s)]) ∧ St w [] L1 w' ∧ OwnF encB 5 (.slice A (opRes s).xs.length c) (opRes s).xs L1 := by
  have hl := f_s.len
  refine enter (vs := [.slice A_s n_s c_s]) 65 Try.func31 rfl Try.ntmps31 rfl rfl ?_
  have hs1 := St.init w
  refine WC.seq (fun K2 hK2 => ?_)
  refine WC.region ?_
  refine WL.alloc hs1 Try.zeroValue27 rfl rfl rfl rfl rfl (fun b3 whs4 hs4 => ?_)
  refine WL.val rfl rfl rfl (Run.assign rfl rfl) ?_
  refine WL.nil ?_
  refine tkN ?_
  refine hK2 _ _ ?_
  clear hK2
  refine WC.seq (fun K5 hK5 => ?_)
  refine WC.region ?_
  refine WL.val rfl rfl rfl (Run.move rfl rfl) ?_
  refine WL.val rfl rfl rfl (Run.build rfl rfl rfl rfl (built_105_0 _ _ _)) ?_
  refine WL.box hs4 rfl rfl rfl rfl rfl rfl (fun b6 whs7 hs7 => ?_)
  refine WL.val rfl rfl rfl (Run.assign rfl rfl) ?_
  refine WL.nil ?_
  refine tkN ?_
  refine hK5 _ _ ?_
  clear hK5
  refine WC.seq (fun K8 hK8 => ?_)
  refine WC.region ?_
  refine WL.val rfl rfl rfl (Run.move rfl rfl) ?_
  have hF9 : St _ _ ([(b6, _)] ++ _) _ := hs7
  refine WL.call rfl rfl rfl (Run.call Try.call70 rfl rfl rfl) (c_spec_l12Vars _ _ _ _ _ _ _ _ _ (hF9.own _ List.mem_cons_self).1 (SlF.st0 f_s hs7) (St.sep hF9 f_s) ?_ ?_ ?_ ?_) ?_
  · omega
  · first | assumption | exact OwnF.cap (by assumption) | omega
  · omega
  · first | omega | decide
  rintro _ whs14 ⟨q10, bad11, A15, c16, L17, rfl, hs14, ho18, hst12, hq13⟩
  replace hs14 := St.lend hF9 hs14
  refine ⟨_, rfl, ?_⟩
  replace hs14 := St.assoc (L1 := [_]) hs14
  have hs19 := (St.perm (St.perm hs14 (L' := [_] ++ _) (perm_front (A := [_]) (perm_front (A := L17) (List.Perm.refl _)))) (L' := [_] ++ _) (perm_front (A := [_]) (List.Perm.refl _)))
  refine WL.val rfl rfl rfl (Run.assign rfl rfl) ?_
  refine WL.nil ?_
  refine tkN ?_
  refine hK8 _ _ ?_
  clear hK8
  refine WC.seq (fun K20 hK20 => ?_)
  refine WC.region ?_
  refine WL.val rfl rfl rfl (Run.move rfl rfl) ?_
  have hF21 : St _ _ ([(b6, _)] ++ _) _ := hs19
  refine WL.call rfl rfl rfl (Run.call Try.call71 rfl rfl rfl) (c_spec_l15Text _ _ _ _ _ _ _ _ (hF21.own _ List.mem_cons_self).1 (SlF.st0 f_s hs19) (St.sep hF21 f_s) ?_ ?_ ?_) ?_
  · omega
  · first | assumption | exact OwnF.cap (by assumption) | omega
  · omega
  rintro _ whs26 ⟨q22, bad23, rfl, hs26, hst24, hq25⟩
  replace hs26 := St.lend hF21 hs26
  refine ⟨_, rfl, ?_⟩
  refine WL.val rfl rfl rfl (Run.assign rfl rfl) ?_
  refine WL.nil ?_
  refine tkN ?_
  refine hK20 _ _ ?_
  clear hK20
  refine WC.seq (fun K27 hK27 => ?_)
  refine WC.region ?_
  refine WL.val rfl rfl rfl (Run.move rfl rfl) ?_
  have hF28 : St _ _ ([(b6, _)] ++ _) _ := hs26
  refine WL.call rfl rfl rfl (Run.call Try.call71 rfl rfl rfl) (c_spec_l15Text _ _ _ _ _ _ _ _ (hF28.own _ List.mem_cons_self).1 (SlF.st0 f_s hs26) (St.sep hF28 f_s) ?_ ?_ ?_) ?_
  · omega
  · first | assumption | exact OwnF.cap (by assumption) | omega
  · omega
  rintro _ whs33 ⟨q29, bad30, rfl, hs33, hst31, hq32⟩
  replace hs33 := St.lend hF28 hs33
  refine ⟨_, rfl, ?_⟩
  refine WL.val rfl rfl rfl (Run.assign rfl rfl) ?_
  refine WL.nil ?_
  refine tkN ?_
  refine hK27 _ _ ?_
  clear hK27
  refine WC.seq (fun K34 hK34 => ?_)
  refine WC.region ?_
  refine WL.val rfl rfl rfl (Run.move rfl rfl) ?_
  have hF35 : St _ _ ([(b6, _)] ++ _) _ := hs33
  refine WL.call rfl rfl rfl (Run.call Try.call71 rfl rfl rfl) (c_spec_l15Text _ _ _ _ _ _ _ _ (hF35.own _ List.mem_cons_self).1 (SlF.st0 f_s hs33) (St.sep hF35 f_s) ?_ ?_ ?_) ?_
  · omega
  · first | assumption | exact OwnF.cap (by assumption) | omega
  · omega
  rintro _ whs40 ⟨q36, bad37, rfl, hs40, hst38, hq39⟩
  replace hs40 := St.lend hF35 hs40
  refine ⟨_, rfl, ?_⟩
  refine WL.val rfl rfl rfl (Run.assign rfl rfl) ?_
  refine WL.nil ?_
  refine tkN ?_
  refine hK34 _ _ ?_
  clear hK34
  refine WC.seq (fun K41 hK41 => ?_)
  refine WC.region ?_
  refine WL.val rfl rfl rfl (Run.move rfl rfl) ?_
  have hF42 : St _ _ ([(b6, _)] ++ _) _ := hs40
  refine WL.call rfl rfl rfl (Run.call Try.call71 rfl rfl rfl) (c_spec_l15Text _ _ _ _ _ _ _ _ (hF42.own _ List.mem_cons_self).1 (SlF.st0 f_s hs40) (St.sep hF42 f_s) ?_ ?_ ?_) ?_
  · omega
  · first | assumption | exact OwnF.cap (by assumption) | omega
  · omega
  rintro _ whs47 ⟨q43, bad44, rfl, hs47, hst45, hq46⟩
  replace hs47 := St.lend hF42 hs47
  refine ⟨_, rfl, ?_⟩
  have hS4 : opS s 4 = rst q10 bad11 := by rw [hst12]; exact (rdVars4 s).symm
  have hS5 : opS s 5 = rst q22 bad23 := by rw [hst24, ← hS4]; rfl
  have hS6 : opS s 6 = rst q29 bad30 := by rw [hst31, ← hS5]; rfl
  have hS7 : opS s 7 = rst q36 bad37 := by rw [hst38, ← hS6]; rfl
  have hS8 : opS s 8 = rst q43 bad44 := by rw [hst45, ← hS7]; rfl
  refine WL.val rfl rfl rfl (Run.assign rfl rfl) ?_
  refine WL.nil ?_
  refine tkN ?_
  refine hK41 _ _ ?_
  clear hK41
  refine WC.seq (fun K48 hK48 => ?_)
  refine WC.seq (fun K49 hK49 => ?_)
  refine WC.region ?_
  refine WL.val rfl rfl rfl (Run.move rfl rfl) ?_
  refine WL.val rfl rfl rfl (Run.nilCheck rfl rfl) ?_
  refine WL.val rfl rfl rfl (Run.field Try.runUnderlying105 rfl rfl rfl Try.sizeOf4 rfl) ?_
  refine WL.val rfl rfl rfl (Run.loadL hs47 0 Try.isAgg4 rfl rfl rfl rfl) ?_
  refine WL.nil ?_
  refine tkN ?_
  refine hK49 _ _ ?_
  clear hK49
  refine WC.cond rfl (fun h50 => ?_) (fun h50 => ?_)
  · have qh50 := h50
    try simp only [decide_eq_true_eq, decide_eq_false_iff_not, Bool.not_eq_true', Bool.not_eq_false', Bool.and_eq_true, Bool.or_eq_false_iff, within_iff, within_not] at qh50
    have hg : opRdOk s = false := by unfold opRdOk; rw [hS8, h50]; simp [rst]
    refine WC.seq (fun K51 hK51 => ?_)
    refine WC.region ?_
    refine WL.val rfl rfl rfl (Run.build rfl rfl rfl rfl (built_27)) ?_
    refine WL.storeA hs47 1 Try.sizeOf27 rfl rfl rfl rfl rfl rfl rfl rfl rfl (Nat.le_of_ble_eq_true rfl) (.inl (Nat.le_of_ble_eq_true rfl)) (fun whs52 hs52 => ?_)
    refine WL.val rfl rfl rfl (Run.assign rfl rfl) ?_
    refine WL.nil ?_
    refine tkN ?_
    refine hK51 _ _ ?_
    clear hK51
    refine WC.ret ?_
    refine tkR ?_
    clear hK48
    refine retV2 rfl (resV.cell rfl (run_loadVarA Try.isAgg27 Try.sizeOf27 (cells_of_heap (hs52.own _ (nthL_mem (i := 1) rfl)).1 rfl rfl))) (resV.tmp rfl) ?_
    rw [opRes_no hg, hg]
    exact ⟨_, _, _, rfl, hs52.nil, OwnF.nil _ _⟩
  · have qh50 := h50
    try simp only [decide_eq_true_eq, decide_eq_false_iff_not, Bool.not_eq_true', Bool.not_eq_false', Bool.and_eq_true, Bool.or_eq_false_iff, within_iff, within_not] at qh50
    have h8 : (opS s 8).isSome = true := by rw [hS8, h50]; rfl
    have h7 : (opS s 7).isSome = true := rdTS_some h8
    have h6 : (opS s 6).isSome = true := rdTS_some h7
    have h5 : (opS s 5).isSome = true := rdTS_some h6
    have h4 : (opS s 4).isSome = true := rdTS_some h5
    have hvs : (rdVars s (4 : Int).toNat (rst 0 false)).1 = [rdN s (opS s 0), rdN s (opS s 1), rdN s (opS s 2), rdN s (opS s 3)] := rdVars4_ok h4
    have hvl := congrArg List.length hvs
    simp only [List.length_cons, List.length_nil] at hvl
    have hv : opVal s = ⟨gat encI ((rdVars s (4 : Int).toNat (rst 0 false)).1) 0, gat encI ((rdVars s (4 : Int).toNat (rst 0 false)).1) 1, gat encI ((rdVars s (4 : Int).toNat (rst 0 false)).1) 2, gat encI ((rdVars s (4 : Int).toNat (rst 0 false)).1) 3, rdT s (rst q10 bad11), rdT s (rst q22 bad23), rdT s (rst q29 bad30), (rdT s (rst q36 bad37)).data.toList⟩ := by simp only [opVal]; rw [hvs, hS4, hS5, hS6, hS7]; rfl
    have hk : opRdOk s = !(!opOk (gat encI ((rdVars s (4 : Int).toNat (rst 0 false)).1) 0) (gat encI ((rdVars s (4 : Int).toNat (rst 0 false)).1) 1) (gat encI ((rdVars s (4 : Int).toNat (rst 0 false)).1) 2) (gat encI ((rdVars s (4 : Int).toNat (rst 0 false)).1) 3) (rdT s (rst q10 bad11)) (rdT s (rst q22 bad23)) (rdT s (rst q29 bad30)) ((rdT s (rst q36 bad37)).data.toList).length || !decide ((⟨(opB (gat encI ((rdVars s (4 : Int).toNat (rst 0 false)).1) 0) (gat encI ((rdVars s (4 : Int).toNat (rst 0 false)).1) 1) (gat encI ((rdVars s (4 : Int).toNat (rst 0 false)).1) 2) (gat encI ((rdVars s (4 : Int).toNat (rst 0 false)).1) 3) (rdT s (rst q10 bad11)) (rdT s (rst q22 bad23)) (rdT s (rst q29 bad30)) ((rdT s (rst q36 bad37)).data.toList)).toArray⟩ : ByteArray) = ⟨s.toArray⟩)) := by unfold opRdOk opVOk opVB; rw [hv, h8]; simp
    have hbl := opB_len (gat encI ((rdVars s (4 : Int).toNat (rst 0 false)).1) 0) (gat encI ((rdVars s (4 : Int).toNat (rst 0 false)).1) 1) (gat encI ((rdVars s (4 : Int).toNat (rst 0 false)).1) 2) (gat encI ((rdVars s (4 : Int).toNat (rst 0 false)).1) 3) (rdT s (rst q10 bad11)) (rdT s (rst q22 bad23)) (rdT s (rst q29 bad30)) ((rdT s (rst q36 bad37)).data.toList)
    have hsz := opVal_sizes s
    rw [hv] at hsz
    simp only at hsz
    refine WC.skip ?_
    refine tkN ?_
    refine hK48 _ _ ?_
    clear hK48
    refine WC.seq (fun K53 hK53 => ?_)
    refine WC.regionH2 (fun w' => St _ _ _ w') (fun w' => St _ _ _ w') mixed (St.drew hs47) (St.drew hs47) (fun whs54 hs54 => ?_)
    replace hs54 : St _ _ _ _ := hs54
    refine WH.take 0 rfl (by kernel_rfl) rfl rfl rfl hs54 (fun w_ hs_ => (Run.move rfl rfl)) ?_
    refine WH.take 1 rfl (by kernel_rfl) rfl rfl rfl hs54 (fun w_ hs_ => (Run.idxK (0) Try.runUnderlying51 Try.sizeOf3 rfl rfl rfl ?_ ?_ ?_)) ?_
    · exact SlF.some_ (SlF.ofOwn ho18 (fun p_ hp_ => ((hs_ : St _ _ _ _).own p_ (List.mem_append_right [_, _] (List.mem_append_left _ hp_))).1))
    · omega
    · omega
    refine WH.take 2 rfl (by kernel_rfl) rfl rfl rfl hs54 (fun w_ hs_ => (Run.load Try.isAgg3 rfl rfl (SlF.one1 (SlF.ofOwn ho18 (fun p_ hp_ => ((hs_ : St _ _ _ _).own p_ (List.mem_append_right [_, _] (List.mem_append_left _ hp_))).1)) ?_ rfl))) ?_
    · omega
    refine WH.take 3 rfl (by kernel_rfl) rfl rfl rfl hs54 (fun w_ hs_ => (Run.move rfl rfl)) ?_
    refine WH.take 4 rfl (by kernel_rfl) rfl rfl rfl hs54 (fun w_ hs_ => (Run.idxK (1) Try.runUnderlying51 Try.sizeOf3 rfl rfl rfl ?_ ?_ ?_)) ?_
    · exact SlF.some_ (SlF.ofOwn ho18 (fun p_ hp_ => ((hs_ : St _ _ _ _).own p_ (List.mem_append_right [_, _] (List.mem_append_left _ hp_))).1))
    · omega
    · omega
    refine WH.take 5 rfl (by kernel_rfl) rfl rfl rfl hs54 (fun w_ hs_ => (Run.load Try.isAgg3 rfl rfl (SlF.one1 (SlF.ofOwn ho18 (fun p_ hp_ => ((hs_ : St _ _ _ _).own p_ (List.mem_append_right [_, _] (List.mem_append_left _ hp_))).1)) ?_ rfl))) ?_
    · omega
    refine WH.take 6 rfl (by kernel_rfl) rfl rfl rfl hs54 (fun w_ hs_ => (Run.move rfl rfl)) ?_
    refine WH.take 7 rfl (by kernel_rfl) rfl rfl rfl hs54 (fun w_ hs_ => (Run.idxK (2) Try.runUnderlying51 Try.sizeOf3 rfl rfl rfl ?_ ?_ ?_)) ?_
    · exact SlF.some_ (SlF.ofOwn ho18 (fun p_ hp_ => ((hs_ : St _ _ _ _).own p_ (List.mem_append_right [_, _] (List.mem_append_left _ hp_))).1))
    · omega
    · omega
    refine WH.take 8 rfl (by kernel_rfl) rfl rfl rfl hs54 (fun w_ hs_ => (Run.load Try.isAgg3 rfl rfl (SlF.one1 (SlF.ofOwn ho18 (fun p_ hp_ => ((hs_ : St _ _ _ _).own p_ (List.mem_append_right [_, _] (List.mem_append_left _ hp_))).1)) ?_ rfl))) ?_
    · omega
    refine WH.take 9 rfl (by kernel_rfl) rfl rfl rfl hs54 (fun w_ hs_ => (Run.move rfl rfl)) ?_
    refine WH.take 10 rfl (by kernel_rfl) rfl rfl rfl hs54 (fun w_ hs_ => (Run.idxK (3) Try.runUnderlying51 Try.sizeOf3 rfl rfl rfl ?_ ?_ ?_)) ?_
    · exact SlF.some_ (SlF.ofOwn ho18 (fun p_ hp_ => ((hs_ : St _ _ _ _).own p_ (List.mem_append_right [_, _] (List.mem_append_left _ hp_))).1))
    · omega
    · omega
    refine WH.take 11 rfl (by kernel_rfl) rfl rfl rfl hs54 (fun w_ hs_ => (Run.load Try.isAgg3 rfl rfl (SlF.one1 (SlF.ofOwn ho18 (fun p_ hp_ => ((hs_ : St _ _ _ _).own p_ (List.mem_append_right [_, _] (List.mem_append_left _ hp_))).1)) ?_ rfl))) ?_
    · omega
    refine WH.take 12 rfl (by kernel_rfl) rfl rfl rfl hs54 (fun w_ hs_ => (Run.move rfl rfl)) ?_
    refine WH.take 13 rfl (by kernel_rfl) rfl rfl rfl hs54 (fun w_ hs_ => (Run.move rfl rfl)) ?_
    refine WH.take 14 rfl (by kernel_rfl) rfl rfl rfl hs54 (fun w_ hs_ => (Run.move rfl rfl)) ?_
    refine WH.take 15 rfl (by kernel_rfl) rfl rfl rfl hs54 (fun w_ hs_ => (Run.move rfl rfl)) ?_
    refine WH.all [16, 18] (by kernel_rfl) rfl (WHs.cons (i := 16) rfl ?_ (WHs.cons (i := 18) rfl ?_ WHs.nil))
    · refine WL.bytesOf hs54 Try.underlying9 Try.underlying22 Try.underlying5 rfl rfl rfl rfl rfl ?_ (fun A58 c59 L55 whs56 hs56 ho57 => ?_)
      · exact Nat.le_trans (rdT_size _ _) (by decide)
      replace hs56 := St.back [_, _] hs56
      refine WL.nil ⟨(St.drop (St.perm hs56 (L' := L55 ++ _) (perm_front (A := [_, _]) (List.Perm.refl _))) (List.sublist_append_right L55 _)), ?_⟩
      refine WH.take 17 rfl (by kernel_rfl) rfl rfl rfl (St.drop (St.perm hs56 (L' := L55 ++ _) (perm_front (A := [_, _]) (List.Perm.refl _))) (List.sublist_append_right L55 _)) (fun w_ hs_ => (Run.build rfl rfl rfl rfl (built_27_0_1_2_3_4_5_6_7 _ _ _ _ _ _ _ _ _ _))) ?_
      refine WH.all [18] (by kernel_rfl) rfl (WHs.cons (i := 18) rfl ?_ WHs.nil)
      refine WL.alloc hs56 Try.zeroValue27 rfl rfl rfl rfl rfl (fun b60 whs61 hs61 => ?_)
      refine WL.nil ⟨(St.drop (St.perm (St.drop hs61 (List.sublist_append_right [_] _)) (L' := L55 ++ _) (perm_front (A := [_, _]) (List.Perm.refl _))) (List.sublist_append_right L55 _)), ?_⟩
      refine WH.all [19] (by kernel_rfl) rfl (WHs.cons (i := 19) rfl ?_ WHs.nil)
      refine WL.storeA hs61 0 Try.sizeOf27 rfl rfl rfl rfl rfl rfl rfl rfl rfl (Nat.le_of_ble_eq_true rfl) (.inl (Nat.le_of_ble_eq_true rfl)) (fun whs62 hs62 => ?_)
      refine WL.nil ⟨(St.drop (St.perm (St.drop hs62 (List.sublist_append_right [_] _)) (L' := L55 ++ _) (perm_front (A := [_, _]) (List.Perm.refl _))) (List.sublist_append_right L55 _)), ?_⟩
      refine WH.done (by kernel_rfl) ?_
      refine tkN ?_
      refine hK53 _ _ ?_
      clear hK53
      refine WC.seq (fun K63 hK63 => ?_)
      refine WC.region ?_
      refine WL.val rfl rfl rfl (Run.loadLA hs62 0 Try.isAgg27 Try.sizeOf27 rfl rfl rfl rfl rfl) ?_
      refine WL.call rfl rfl rfl (Run.call Try.call24 rfl rfl rfl) (c_spec_OpBytes _ _ _ _ _ _ _ _ _ _ _ _ (SlF.ofOwn ho57 (fun p_ hp_ => (hs62.own p_ (List.mem_append_right [_, _, _] (List.mem_append_left _ hp_))).1)) ?_) ?_
      · omega
      rintro _ whs64 ⟨A65, c66, L167, rfl, hs64, ho68⟩
      replace hs64 := hs62.callF hs64
      refine ⟨_, rfl, ?_⟩
      replace hs64 := St.back [_, _, _] hs64
      refine WL.val rfl rfl rfl (Run.move rfl rfl) ?_
      refine WL.val rfl rfl rfl (Run.extract rfl rfl rfl) ?_
      refine WL.val rfl rfl rfl (Run.extract rfl rfl rfl) ?_
      refine WL.val rfl rfl rfl (Run.assign rfl rfl) ?_
      refine WL.val rfl rfl rfl (Run.assign rfl rfl) ?_
      refine WL.nil ?_
      refine tkN ?_
      refine hK63 _ _ ?_
      clear hK63
      refine WC.seq (fun K69 hK69 => ?_)
      refine WC.seq (fun K70 hK70 => ?_)
      refine WC.region ?_
      refine WL.val rfl rfl rfl (Run.move rfl rfl) ?_
      refine WL.val rfl rfl rfl (Run.not rfl rfl) ?_
      refine WL.val rfl rfl rfl (Run.move rfl rfl) ?_
      apply WL.meetOr 6 56 62 [(0, _), (2, _), (3, _), (4, _), (5, _), (6, _), (7, _), (8, _), (9, _), (10, _), (11, _), (12, _), (13, _), (14, _), (15, _), (16, _), (17, _), (18, _), (19, _), (20, _), (21, _), (22, _), (23, _), (24, _), (25, _), (26, _), (27, _), (28, _), (29, _), (31, _), (32, _), (33, _), (34, _), (35, _), (36, _), (37, _), (38, _), (39, _), (40, _), (41, _), (42, _), (43, _), (44, _), (45, _), (46, _), (47, _), (48, _), (49, _), (50, _), (51, _), (52, _), (53, _)] rfl hs64
      · intro g71 J72
        have qg71 := g71
        try simp only [decide_eq_true_eq, decide_eq_false_iff_not, Bool.not_eq_true', Bool.not_eq_false'] at qg71
        refine WL.val (wantF rfl g71) rfl rfl (Run.move rfl rfl) ?_
        refine WL.val (wantF rfl g71) rfl rfl (Run.strOf (SlF.ofOwn ho68 (fun p_ hp_ => (hs64.own p_ (List.mem_append_right [_, _, _] (List.mem_append_left _ hp_))).1)) Try.underlying22 Try.underlying5 Try.underlying9 rfl rfl) ?_
        refine WL.val (wantF rfl g71) rfl rfl (Run.move rfl rfl) ?_
        refine WL.val (wantF rfl g71) rfl rfl (Run.strOf (SlF.st0 f_s hs64) Try.underlying22 Try.underlying5 Try.underlying9 rfl rfl) ?_
        refine WL.val (wantF rfl g71) rfl rfl (Run.neqS rfl rfl rfl) ?_
        refine WL.val rfl rfl rfl (Run.pickF rfl rfl g71 rfl) ?_
        exact WL.fin J72 hs64 rfl (orF g71) ⟨rfl, rfl, rfl, rfl, rfl, rfl, rfl, rfl, rfl, rfl, rfl, rfl, rfl, rfl, rfl, rfl, rfl, rfl, rfl, rfl, rfl, rfl, rfl, rfl, rfl, rfl, rfl, rfl, rfl, rfl, rfl, rfl, rfl, rfl, rfl, rfl, rfl, rfl, rfl, rfl, rfl, rfl, rfl, rfl, rfl, rfl, rfl, rfl, rfl, rfl, rfl, rfl, trivial⟩
      · intro g71 J72
        refine WL.skip (wantNF rfl g71) rfl rfl ?_
        refine WL.skip (wantNF rfl g71) rfl rfl ?_
        refine WL.skip (wantNF rfl g71) rfl rfl ?_
        refine WL.skip (wantNF rfl g71) rfl rfl ?_
        refine WL.skip (wantNF rfl g71) rfl rfl ?_
        refine WL.val rfl rfl rfl (Run.pickT rfl rfl g71 rfl) ?_
        exact WL.fin J72 hs64 rfl (orT g71) ⟨rfl, rfl, rfl, rfl, rfl, rfl, rfl, rfl, rfl, rfl, rfl, rfl, rfl, rfl, rfl, rfl, rfl, rfl, rfl, rfl, rfl, rfl, rfl, rfl, rfl, rfl, rfl, rfl, rfl, rfl, rfl, rfl, rfl, rfl, rfl, rfl, rfl, rfl, rfl, rfl, rfl, rfl, rfl, rfl, rfl, rfl, rfl, rfl, rfl, rfl, rfl, rfl, trivial⟩
      · intro whs73 hs73
        refine WL.nil ?_
        refine tkN ?_
        refine hK70 _ _ ?_
        clear hK70
        refine WC.cond rfl (fun h74 => ?_) (fun h74 => ?_)
        · have qh74 := h74
          try simp only [decide_eq_true_eq, decide_eq_false_iff_not, Bool.not_eq_true', Bool.not_eq_false', Bool.and_eq_true, Bool.or_eq_false_iff, within_iff, within_not] at qh74
          have hg : opRdOk s = false := hk.trans (congrArg (!·) h74)
          refine WC.seq (fun K75 hK75 => ?_)
          refine WC.region ?_
          refine WL.val rfl rfl rfl (Run.build rfl rfl rfl rfl (built_27)) ?_
          refine WL.storeA hs73 2 Try.sizeOf27 rfl rfl rfl rfl rfl rfl rfl rfl rfl (Nat.le_of_ble_eq_true rfl) (.inl (Nat.le_of_ble_eq_true rfl)) (fun whs76 hs76 => ?_)
          refine WL.val rfl rfl rfl (Run.assign rfl rfl) ?_
          refine WL.nil ?_
          refine tkN ?_
          refine hK75 _ _ ?_
          clear hK75
          refine WC.ret ?_
          refine tkR ?_
          clear hK69
          refine retV2 rfl (resV.cell rfl (run_loadVarA Try.isAgg27 Try.sizeOf27 (cells_of_heap (hs76.own _ (nthL_mem (i := 2) rfl)).1 rfl rfl))) (resV.tmp rfl) ?_
          rw [opRes_no hg, hg]
          exact ⟨_, _, _, rfl, hs76.nil, OwnF.nil _ _⟩
        · have qh74 := h74
          try simp only [decide_eq_true_eq, decide_eq_false_iff_not, Bool.not_eq_true', Bool.not_eq_false', Bool.and_eq_true, Bool.or_eq_false_iff, within_iff, within_not] at qh74
          have hg : opRdOk s = true := hk.trans (congrArg (!·) h74)
          refine WC.skip ?_
          refine tkN ?_
          refine hK69 _ _ ?_
          clear hK69
          refine WC.seq (fun K77 hK77 => ?_)
          refine WC.region ?_
          refine WL.val rfl rfl rfl (Run.loadLA hs73 0 Try.isAgg27 Try.sizeOf27 rfl rfl rfl rfl rfl) ?_
          refine WL.storeA hs73 2 Try.sizeOf27 rfl rfl rfl rfl rfl rfl rfl rfl rfl (Nat.le_of_ble_eq_true rfl) (.inl (Nat.le_of_ble_eq_true rfl)) (fun whs78 hs78 => ?_)
          refine WL.val rfl rfl rfl (Run.assign rfl rfl) ?_
          refine WL.nil ?_
          refine tkN ?_
          refine hK77 _ _ ?_
          clear hK77
          refine WC.ret ?_
          refine retV2 rfl (resV.cell rfl (run_loadVarA Try.isAgg27 Try.sizeOf27 (cells_of_heap (hs78.own _ (nthL_mem (i := 2) rfl)).1 rfl rfl))) (resV.tmp rfl) ?_
          rw [opRes_yes hg, hg, hv]
          exact ⟨_, _, _, rfl, (St.keep1 (St.perm hs78 (L' := L55 ++ _) (perm_front (A := [_, _, _]) (perm_front (A := L167) (List.Perm.refl _))))), ho57⟩
    · refine WL.alloc hs54 Try.zeroValue27 rfl rfl rfl rfl rfl (fun b79 whs80 hs80 => ?_)
      refine WL.nil ⟨(St.drop hs80 (List.sublist_append_right [_] _)), ?_⟩
      refine WH.all [16] (by kernel_rfl) rfl (WHs.cons (i := 16) rfl ?_ WHs.nil)
      refine WL.bytesOf hs80 Try.underlying9 Try.underlying22 Try.underlying5 rfl rfl rfl rfl rfl ?_ (fun A84 c85 L81 whs82 hs82 ho83 => ?_)
      · exact Nat.le_trans (rdT_size _ _) (by decide)
      replace hs82 := St.back [_, _, _] hs82
      refine WL.nil ⟨(St.drop (St.perm (St.drop hs82 (List.sublist_append_right [_] _)) (L' := L81 ++ _) (perm_front (A := [_, _]) (List.Perm.refl _))) (List.sublist_append_right L81 _)), ?_⟩
      refine WH.take 17 rfl (by kernel_rfl) rfl rfl rfl (St.drop (St.perm (St.drop hs82 (List.sublist_append_right [_] _)) (L' := L81 ++ _) (perm_front (A := [_, _]) (List.Perm.refl _))) (List.sublist_append_right L81 _)) (fun w_ hs_ => (Run.build rfl rfl rfl rfl (built_27_0_1_2_3_4_5_6_7 _ _ _ _ _ _ _ _ _ _))) ?_
      refine WH.all [19] (by kernel_rfl) rfl (WHs.cons (i := 19) rfl ?_ WHs.nil)
      refine WL.storeA hs82 0 Try.sizeOf27 rfl rfl rfl rfl rfl rfl rfl rfl rfl (Nat.le_of_ble_eq_true rfl) (.inl (Nat.le_of_ble_eq_true rfl)) (fun whs86 hs86 => ?_)
      refine WL.nil ⟨(St.drop (St.perm (St.drop hs86 (List.sublist_append_right [_] _)) (L' := L81 ++ _) (perm_front (A := [_, _]) (List.Perm.refl _))) (List.sublist_append_right L81 _)), ?_⟩
      refine WH.done (by kernel_rfl) ?_
      refine tkN ?_
      refine hK53 _ _ ?_
      clear hK53
      refine WC.seq (fun K87 hK87 => ?_)
      refine WC.region ?_
      refine WL.val rfl rfl rfl (Run.loadLA hs86 0 Try.isAgg27 Try.sizeOf27 rfl rfl rfl rfl rfl) ?_
      refine WL.call rfl rfl rfl (Run.call Try.call24 rfl rfl rfl) (c_spec_OpBytes _ _ _ _ _ _ _ _ _ _ _ _ (SlF.ofOwn ho83 (fun p_ hp_ => (hs86.own p_ (List.mem_append_right [_, _, _] (List.mem_append_left _ hp_))).1)) ?_) ?_
      · omega
      rintro _ whs88 ⟨A89, c90, L191, rfl, hs88, ho92⟩
      replace hs88 := hs86.callF hs88
      refine ⟨_, rfl, ?_⟩
      replace hs88 := St.back [_, _, _] hs88
      refine WL.val rfl rfl rfl (Run.move rfl rfl) ?_
      refine WL.val rfl rfl rfl (Run.extract rfl rfl rfl) ?_
      refine WL.val rfl rfl rfl (Run.extract rfl rfl rfl) ?_
      refine WL.val rfl rfl rfl (Run.assign rfl rfl) ?_
      refine WL.val rfl rfl rfl (Run.assign rfl rfl) ?_
      refine WL.nil ?_
      refine tkN ?_
      refine hK87 _ _ ?_
      clear hK87
      refine WC.seq (fun K93 hK93 => ?_)
      refine WC.seq (fun K94 hK94 => ?_)
      refine WC.region ?_
      refine WL.val rfl rfl rfl (Run.move rfl rfl) ?_
      refine WL.val rfl rfl rfl (Run.not rfl rfl) ?_
      refine WL.val rfl rfl rfl (Run.move rfl rfl) ?_
      apply WL.meetOr 6 56 62 [(0, _), (2, _), (3, _), (4, _), (5, _), (6, _), (7, _), (8, _), (9, _), (10, _), (11, _), (12, _), (13, _), (14, _), (15, _), (16, _), (17, _), (18, _), (19, _), (20, _), (21, _), (22, _), (23, _), (24, _), (25, _), (26, _), (27, _), (28, _), (29, _), (31, _), (32, _), (33, _), (34, _), (35, _), (36, _), (37, _), (38, _), (39, _), (40, _), (41, _), (42, _), (43, _), (44, _), (45, _), (46, _), (47, _), (48, _), (49, _), (50, _), (51, _), (52, _), (53, _)] rfl hs88
      · intro g95 J96
        have qg95 := g95
        try simp only [decide_eq_true_eq, decide_eq_false_iff_not, Bool.not_eq_true', Bool.not_eq_false'] at qg95
        refine WL.val (wantF rfl g95) rfl rfl (Run.move rfl rfl) ?_
        refine WL.val (wantF rfl g95) rfl rfl (Run.strOf (SlF.ofOwn ho92 (fun p_ hp_ => (hs88.own p_ (List.mem_append_right [_, _, _] (List.mem_append_left _ hp_))).1)) Try.underlying22 Try.underlying5 Try.underlying9 rfl rfl) ?_
        refine WL.val (wantF rfl g95) rfl rfl (Run.move rfl rfl) ?_
        refine WL.val (wantF rfl g95) rfl rfl (Run.strOf (SlF.st0 f_s hs88) Try.underlying22 Try.underlying5 Try.underlying9 rfl rfl) ?_
        refine WL.val (wantF rfl g95) rfl rfl (Run.neqS rfl rfl rfl) ?_
        refine WL.val rfl rfl rfl (Run.pickF rfl rfl g95 rfl) ?_
        exact WL.fin J96 hs88 rfl (orF g95) ⟨rfl, rfl, rfl, rfl, rfl, rfl, rfl, rfl, rfl, rfl, rfl, rfl, rfl, rfl, rfl, rfl, rfl, rfl, rfl, rfl, rfl, rfl, rfl, rfl, rfl, rfl, rfl, rfl, rfl, rfl, rfl, rfl, rfl, rfl, rfl, rfl, rfl, rfl, rfl, rfl, rfl, rfl, rfl, rfl, rfl, rfl, rfl, rfl, rfl, rfl, rfl, rfl, trivial⟩
      · intro g95 J96
        refine WL.skip (wantNF rfl g95) rfl rfl ?_
        refine WL.skip (wantNF rfl g95) rfl rfl ?_
        refine WL.skip (wantNF rfl g95) rfl rfl ?_
        refine WL.skip (wantNF rfl g95) rfl rfl ?_
        refine WL.skip (wantNF rfl g95) rfl rfl ?_
        refine WL.val rfl rfl rfl (Run.pickT rfl rfl g95 rfl) ?_
        exact WL.fin J96 hs88 rfl (orT g95) ⟨rfl, rfl, rfl, rfl, rfl, rfl, rfl, rfl, rfl, rfl, rfl, rfl, rfl, rfl, rfl, rfl, rfl, rfl, rfl, rfl, rfl, rfl, rfl, rfl, rfl, rfl, rfl, rfl, rfl, rfl, rfl, rfl, rfl, rfl, rfl, rfl, rfl, rfl, rfl, rfl, rfl, rfl, rfl, rfl, rfl, rfl, rfl, rfl, rfl, rfl, rfl, rfl, trivial⟩
      · intro whs97 hs97
        refine WL.nil ?_
        refine tkN ?_
        refine hK94 _ _ ?_
        clear hK94
        refine WC.cond rfl (fun h98 => ?_) (fun h98 => ?_)
        · have qh98 := h98
          try simp only [decide_eq_true_eq, decide_eq_false_iff_not, Bool.not_eq_true', Bool.not_eq_false', Bool.and_eq_true, Bool.or_eq_false_iff, within_iff, within_not] at qh98
          have hg : opRdOk s = false := hk.trans (congrArg (!·) h98)
          refine WC.seq (fun K99 hK99 => ?_)
          refine WC.region ?_
          refine WL.val rfl rfl rfl (Run.build rfl rfl rfl rfl (built_27)) ?_
          refine WL.storeA hs97 2 Try.sizeOf27 rfl rfl rfl rfl rfl rfl rfl rfl rfl (Nat.le_of_ble_eq_true rfl) (.inl (Nat.le_of_ble_eq_true rfl)) (fun whs100 hs100 => ?_)
          refine WL.val rfl rfl rfl (Run.assign rfl rfl) ?_
          refine WL.nil ?_
          refine tkN ?_
          refine hK99 _ _ ?_
          clear hK99
          refine WC.ret ?_
          refine tkR ?_
          clear hK93
          refine retV2 rfl (resV.cell rfl (run_loadVarA Try.isAgg27 Try.sizeOf27 (cells_of_heap (hs100.own _ (nthL_mem (i := 2) rfl)).1 rfl rfl))) (resV.tmp rfl) ?_
          rw [opRes_no hg, hg]
          exact ⟨_, _, _, rfl, hs100.nil, OwnF.nil _ _⟩
        · have qh98 := h98
          try simp only [decide_eq_true_eq, decide_eq_false_iff_not, Bool.not_eq_true', Bool.not_eq_false', Bool.and_eq_true, Bool.or_eq_false_iff, within_iff, within_not] at qh98
          have hg : opRdOk s = true := hk.trans (congrArg (!·) h98)
          refine WC.skip ?_
          refine tkN ?_
          refine hK93 _ _ ?_
          clear hK93
          refine WC.seq (fun K101 hK101 => ?_)
          refine WC.region ?_
          refine WL.val rfl rfl rfl (Run.loadLA hs97 0 Try.isAgg27 Try.sizeOf27 rfl rfl rfl rfl rfl) ?_
          refine WL.storeA hs97 2 Try.sizeOf27 rfl rfl rfl rfl rfl rfl rfl rfl rfl (Nat.le_of_ble_eq_true rfl) (.inl (Nat.le_of_ble_eq_true rfl)) (fun whs102 hs102 => ?_)
          refine WL.val rfl rfl rfl (Run.assign rfl rfl) ?_
          refine WL.nil ?_
          refine tkN ?_
          refine hK101 _ _ ?_
          clear hK101
          refine WC.ret ?_
          refine retV2 rfl (resV.cell rfl (run_loadVarA Try.isAgg27 Try.sizeOf27 (cells_of_heap (hs102.own _ (nthL_mem (i := 2) rfl)).1 rfl rfl))) (resV.tmp rfl) ?_
          rw [opRes_yes hg, hg, hv]
          exact ⟨_, _, _, rfl, (St.keep1 (St.perm hs102 (L' := L81 ++ _) (perm_front (A := [_, _, _]) (perm_front (A := L191) (List.Perm.refl _))))), ho83⟩
end Go.Proofs.Ytpiimkfonlijdaa
