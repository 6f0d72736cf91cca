/- Walks of Go functions, printed by a program (wip/gen). -/
import Derived.Test.YtpiimkfonlijdaaR5
import Derived.Test.YtpiimkfonlijdaaC9
namespace Go.Proofs.Ytpiimkfonlijdaa
open Go Go.RowKit
set_option linter.unusedVariables false
set_option linter.unusedSimpArgs false
theorem built_110_0 (x0 : Option Addr) (x1 : Nat) (x2 : Nat) : Try.prog.built 110 [(0, .slice x0 x1 x2)] = some (List.toArray [.slice x0 x1 x2, .int .i64 0, .bool false]) := by kernel_rfl
theorem built_27_0_1_2_3_4_5_6_7 (x0 : Int) (x1 : Int) (x2 : Int) (x3 : Int) (x4 : ByteArray) (x5 : ByteArray) (x6 : ByteArray) (x7 : Option Addr) (x8 : Nat) (x9 : Nat) : Try.prog.built 27 [(0, .int .i64 x0), (1, .int .i64 x1), (2, .int .i64 x2), (3, .int .i64 x3), (4, .string x4), (5, .string x5), (6, .string x6), (7, .slice x7 x8 x9)] = some (List.toArray [.int .i64 x0, .int .i64 x1, .int .i64 x2, .int .i64 x3, .string x4, .string x5, .string x6, .slice x7 x8 x9]) := by kernel_rfl
theorem built_27 : Try.prog.built 27 [] = some (List.toArray [.int .i64 0, .int .i64 0, .int .i64 0, .int .i64 0, .string ⟨#[]⟩, .string ⟨#[]⟩, .string ⟨#[]⟩, .slice none 0 0]) := by kernel_rfl
theorem c_impl_OpRead (A_s : Option Addr) (n_s c_s : Nat) (s : List UInt8) (w : World) (f_s : SlF encB w A_s n_s s) (hc : n_s ≤ c_s) (hn : n_s ≤ 1099511627776) :
    Calls Try.prog 32 #[.slice A_s n_s c_s] w fun e w' => ∃ A c L1, e = .returned (.tuple #[.agg #[i64 (opRes s).K, i64 (opRes s).A, i64 (opRes s).B, i64 (opRes s).C, .string (opRes s).nm, .string (opRes s).tx, .string (opRes s).dr, .slice A (opRes s).xs.length c], .bool (opRdOk s)]) ∧ St w [] L1 w' ∧ OwnF encB 5 (.slice A (opRes s).xs.length c) (opRes s).xs L1 := by
  have hl := f_s.len
  refine enter (vs := [.slice A_s n_s c_s]) 50 Try.func32 rfl Try.ntmps32 rfl rfl ?_
  have hs1 := St.init w
  refine WC.seq (fun K2 hK2 => ?_)
  refine WC.region ?_
  refine WL.alloc hs1 Try.zeroValue27 rfl rfl rfl rfl rfl (fun b3 whs4 hs4 => ?_)
  refine WL.val rfl rfl rfl (Run.assign rfl rfl) ?_
  refine WL.nil ?_
  refine tkN ?_
  refine hK2 _ _ ?_
  clear hK2
  refine WC.seq (fun K5 hK5 => ?_)
  refine WC.region ?_
  refine WL.val rfl rfl rfl (Run.move rfl rfl) ?_
  refine WL.val rfl rfl rfl (Run.build rfl rfl rfl rfl (built_110_0 _ _ _)) ?_
  refine WL.box hs4 rfl rfl rfl rfl rfl rfl (fun b6 whs7 hs7 => ?_)
  refine WL.val rfl rfl rfl (Run.assign rfl rfl) ?_
  refine WL.nil ?_
  refine tkN ?_
  refine hK5 _ _ ?_
  clear hK5
  refine WC.seq (fun K8 hK8 => ?_)
  refine WC.region ?_
  refine WL.val rfl rfl rfl (Run.move rfl rfl) ?_
  have hF9 : St _ _ ([(b6, _)] ++ _) _ := hs7
  refine WL.call rfl rfl rfl (Run.call Try.call72 rfl rfl rfl) (c_impl_decoder_num _ _ _ _ _ _ _ _ (hF9.own _ List.mem_cons_self).1 (SlF.st0 f_s hs7) (St.sep hF9 f_s) ?_ ?_ ?_) ?_
  · omega
  · first | assumption | exact OwnF.cap (by assumption) | omega
  · omega
  rintro _ whs14 ⟨q10, bad11, rfl, hs14, hst12, hq13⟩
  replace hs14 := St.lend hF9 hs14
  refine ⟨_, rfl, ?_⟩
  refine WL.val rfl rfl rfl (Run.move rfl rfl) ?_
  have hF15 : St _ _ ([(b6, _)] ++ _) _ := hs14
  refine WL.call rfl rfl rfl (Run.call Try.call72 rfl rfl rfl) (c_impl_decoder_num _ _ _ _ _ _ _ _ (hF15.own _ List.mem_cons_self).1 (SlF.st0 f_s hs14) (St.sep hF15 f_s) ?_ ?_ ?_) ?_
  · omega
  · first | assumption | exact OwnF.cap (by assumption) | omega
  · omega
  rintro _ whs20 ⟨q16, bad17, rfl, hs20, hst18, hq19⟩
  replace hs20 := St.lend hF15 hs20
  refine ⟨_, rfl, ?_⟩
  refine WL.val rfl rfl rfl (Run.move rfl rfl) ?_
  have hF21 : St _ _ ([(b6, _)] ++ _) _ := hs20
  refine WL.call rfl rfl rfl (Run.call Try.call72 rfl rfl rfl) (c_impl_decoder_num _ _ _ _ _ _ _ _ (hF21.own _ List.mem_cons_self).1 (SlF.st0 f_s hs20) (St.sep hF21 f_s) ?_ ?_ ?_) ?_
  · omega
  · first | assumption | exact OwnF.cap (by assumption) | omega
  · omega
  rintro _ whs26 ⟨q22, bad23, rfl, hs26, hst24, hq25⟩
  replace hs26 := St.lend hF21 hs26
  refine ⟨_, rfl, ?_⟩
  refine WL.val rfl rfl rfl (Run.move rfl rfl) ?_
  have hF27 : St _ _ ([(b6, _)] ++ _) _ := hs26
  refine WL.call rfl rfl rfl (Run.call Try.call72 rfl rfl rfl) (c_impl_decoder_num _ _ _ _ _ _ _ _ (hF27.own _ List.mem_cons_self).1 (SlF.st0 f_s hs26) (St.sep hF27 f_s) ?_ ?_ ?_) ?_
  · omega
  · first | assumption | exact OwnF.cap (by assumption) | omega
  · omega
  rintro _ whs32 ⟨q28, bad29, rfl, hs32, hst30, hq31⟩
  replace hs32 := St.lend hF27 hs32
  refine ⟨_, rfl, ?_⟩
  refine WL.val rfl rfl rfl (Run.move rfl rfl) ?_
  have hF33 : St _ _ ([(b6, _)] ++ _) _ := hs32
  refine WL.call rfl rfl rfl (Run.call Try.call73 rfl rfl rfl) (c_impl_decoder_text _ _ _ _ _ _ _ _ (hF33.own _ List.mem_cons_self).1 (SlF.st0 f_s hs32) (St.sep hF33 f_s) ?_ ?_ ?_) ?_
  · omega
  · first | assumption | exact OwnF.cap (by assumption) | omega
  · omega
  rintro _ whs38 ⟨q34, bad35, rfl, hs38, hst36, hq37⟩
  replace hs38 := St.lend hF33 hs38
  refine ⟨_, rfl, ?_⟩
  refine WL.val rfl rfl rfl (Run.move rfl rfl) ?_
  have hF39 : St _ _ ([(b6, _)] ++ _) _ := hs38
  refine WL.call rfl rfl rfl (Run.call Try.call73 rfl rfl rfl) (c_impl_decoder_text _ _ _ _ _ _ _ _ (hF39.own _ List.mem_cons_self).1 (SlF.st0 f_s hs38) (St.sep hF39 f_s) ?_ ?_ ?_) ?_
  · omega
  · first | assumption | exact OwnF.cap (by assumption) | omega
  · omega
  rintro _ whs44 ⟨q40, bad41, rfl, hs44, hst42, hq43⟩
  replace hs44 := St.lend hF39 hs44
  refine ⟨_, rfl, ?_⟩
  refine WL.val rfl rfl rfl (Run.move rfl rfl) ?_
  have hF45 : St _ _ ([(b6, _)] ++ _) _ := hs44
  refine WL.call rfl rfl rfl (Run.call Try.call73 rfl rfl rfl) (c_impl_decoder_text _ _ _ _ _ _ _ _ (hF45.own _ List.mem_cons_self).1 (SlF.st0 f_s hs44) (St.sep hF45 f_s) ?_ ?_ ?_) ?_
  · omega
  · first | assumption | exact OwnF.cap (by assumption) | omega
  · omega
  rintro _ whs50 ⟨q46, bad47, rfl, hs50, hst48, hq49⟩
  replace hs50 := St.lend hF45 hs50
  refine ⟨_, rfl, ?_⟩
  refine WL.val rfl rfl rfl (Run.move rfl rfl) ?_
  have hF51 : St _ _ ([(b6, _)] ++ _) _ := hs50
  refine WL.call rfl rfl rfl (Run.call Try.call73 rfl rfl rfl) (c_impl_decoder_text _ _ _ _ _ _ _ _ (hF51.own _ List.mem_cons_self).1 (SlF.st0 f_s hs50) (St.sep hF51 f_s) ?_ ?_ ?_) ?_
  · omega
  · first | assumption | exact OwnF.cap (by assumption) | omega
  · omega
  rintro _ whs56 ⟨q52, bad53, rfl, hs56, hst54, hq55⟩
  replace hs56 := St.lend hF51 hs56
  refine ⟨_, rfl, ?_⟩
  have hS0 : opS s 0 = rst 0 false := rfl
  have hS1 : opS s 1 = rst q10 bad11 := by rw [hst12, ← hS0]; rfl
  have hS2 : opS s 2 = rst q16 bad17 := by rw [hst18, ← hS1]; rfl
  have hS3 : opS s 3 = rst q22 bad23 := by rw [hst24, ← hS2]; rfl
  have hS4 : opS s 4 = rst q28 bad29 := by rw [hst30, ← hS3]; rfl
  have hS5 : opS s 5 = rst q34 bad35 := by rw [hst36, ← hS4]; rfl
  have hS6 : opS s 6 = rst q40 bad41 := by rw [hst42, ← hS5]; rfl
  have hS7 : opS s 7 = rst q46 bad47 := by rw [hst48, ← hS6]; rfl
  have hS8 : opS s 8 = rst q52 bad53 := by rw [hst54, ← hS7]; rfl
  have hv : opVal s = ⟨rdN s (rst 0 false), rdN s (rst q10 bad11), rdN s (rst q16 bad17), rdN s (rst q22 bad23), rdT s (rst q28 bad29), rdT s (rst q34 bad35), rdT s (rst q40 bad41), (rdT s (rst q46 bad47)).data.toList⟩ := by simp only [opVal]; rw [hS0, hS1, hS2, hS3, hS4, hS5, hS6, hS7]
  have hk : opRdOk s = !((bad53 || !opOk (rdN s (rst 0 false)) (rdN s (rst q10 bad11)) (rdN s (rst q16 bad17)) (rdN s (rst q22 bad23)) (rdT s (rst q28 bad29)) (rdT s (rst q34 bad35)) (rdT s (rst q40 bad41)) ((rdT s (rst q46 bad47)).data.toList).length) || !decide (opB (rdN s (rst 0 false)) (rdN s (rst q10 bad11)) (rdN s (rst q16 bad17)) (rdN s (rst q22 bad23)) (rdT s (rst q28 bad29)) (rdT s (rst q34 bad35)) (rdT s (rst q40 bad41)) ((rdT s (rst q46 bad47)).data.toList) = s)) := by unfold opRdOk opVOk opVB; rw [hv, hS8]; cases bad53 <;> simp [rst]
  have hbl := opB_len (rdN s (rst 0 false)) (rdN s (rst q10 bad11)) (rdN s (rst q16 bad17)) (rdN s (rst q22 bad23)) (rdT s (rst q28 bad29)) (rdT s (rst q34 bad35)) (rdT s (rst q40 bad41)) ((rdT s (rst q46 bad47)).data.toList)
  have hsz := opVal_sizes s
  rw [hv] at hsz
  simp only at hsz
  refine WL.bytesOf hs56 Try.underlying9 Try.underlying22 Try.underlying5 rfl rfl rfl rfl rfl ?_ (fun A60 c61 L57 whs58 hs58 ho59 => ?_)
  · exact Nat.le_trans (rdT_size _ _) (by decide)
  replace hs58 := St.back [_, _] hs58
  refine WL.val rfl rfl rfl (Run.build rfl rfl rfl rfl (built_27_0_1_2_3_4_5_6_7 _ _ _ _ _ _ _ _ _ _)) ?_
  refine WL.alloc hs58 Try.zeroValue27 rfl rfl rfl rfl rfl (fun b62 whs63 hs63 => ?_)
  refine WL.storeA hs63 0 Try.sizeOf27 rfl rfl rfl rfl rfl rfl rfl rfl rfl (Nat.le_of_ble_eq_true rfl) (.inl (Nat.le_of_ble_eq_true rfl)) (fun whs64 hs64 => ?_)
  refine WL.nil ?_
  refine tkN ?_
  refine hK8 _ _ ?_
  clear hK8
  refine WC.seq (fun K65 hK65 => ?_)
  refine WC.seq (fun K66 hK66 => ?_)
  refine WC.region ?_
  refine WL.val rfl rfl rfl (Run.loadLA hs64 0 Try.isAgg27 Try.sizeOf27 rfl rfl rfl rfl rfl) ?_
  refine WL.call rfl rfl rfl (Run.call Try.call25 rfl rfl rfl) (c_impl_OpBytes _ _ _ _ _ _ _ _ _ _ _ _ (SlF.ofOwn ho59 (fun p_ hp_ => (hs64.own p_ (List.mem_append_right [_, _, _] (List.mem_append_left _ hp_))).1)) ?_) ?_
  · omega
  rintro _ whs67 ⟨A68, c69, L170, rfl, hs67, ho71⟩
  replace hs67 := hs64.callF hs67
  refine ⟨_, rfl, ?_⟩
  replace hs67 := St.back [_, _, _] hs67
  refine WL.val rfl rfl rfl (Run.move rfl rfl) ?_
  refine WL.val rfl rfl rfl (Run.extract rfl rfl rfl) ?_
  refine WL.val rfl rfl rfl (Run.extract rfl rfl rfl) ?_
  refine WL.val rfl rfl rfl (Run.assign rfl rfl) ?_
  refine WL.val rfl rfl rfl (Run.assign rfl rfl) ?_
  refine WL.nil ?_
  refine tkN ?_
  refine hK66 _ _ ?_
  clear hK66
  refine WC.seq (fun K72 hK72 => ?_)
  refine WC.region ?_
  refine WL.val rfl rfl rfl (Run.move rfl rfl) ?_
  refine WL.val rfl rfl rfl (Run.nilCheck rfl rfl) ?_
  refine WL.val rfl rfl rfl (Run.field Try.runUnderlying110 rfl rfl rfl Try.sizeOf4 rfl) ?_
  refine WL.val rfl rfl rfl (Run.loadL hs67 1 Try.isAgg4 rfl rfl rfl rfl) ?_
  refine WL.val rfl rfl rfl (Run.move rfl rfl) ?_
  apply WL.meetOr 3 38 41 [(0, _), (2, _), (3, _), (4, _), (5, _), (6, _), (7, _), (8, _), (9, _), (10, _), (11, _), (12, _), (13, _), (14, _), (15, _), (16, _), (17, _), (18, _), (19, _), (20, _), (21, _), (22, _), (23, _), (24, _), (25, _), (26, _), (27, _), (28, _), (29, _), (30, _), (31, _), (32, _), (33, _)] rfl hs67
  · intro g73 J74
    have qg73 := g73
    try simp only [decide_eq_true_eq, decide_eq_false_iff_not, Bool.not_eq_true', Bool.not_eq_false'] at qg73
    refine WL.val (wantF rfl g73) rfl rfl (Run.move rfl rfl) ?_
    refine WL.val (wantF rfl g73) rfl rfl (Run.not rfl rfl) ?_
    refine WL.val rfl rfl rfl (Run.pickF rfl rfl g73 rfl) ?_
    exact WL.fin J74 hs67 rfl (orF g73) ⟨rfl, rfl, rfl, rfl, rfl, rfl, rfl, rfl, rfl, rfl, rfl, rfl, rfl, rfl, rfl, rfl, rfl, rfl, rfl, rfl, rfl, rfl, rfl, rfl, rfl, rfl, rfl, rfl, rfl, rfl, rfl, rfl, rfl, trivial⟩
  · intro g73 J74
    refine WL.skip (wantNF rfl g73) rfl rfl ?_
    refine WL.skip (wantNF rfl g73) rfl rfl ?_
    refine WL.val rfl rfl rfl (Run.pickT rfl rfl g73 rfl) ?_
    exact WL.fin J74 hs67 rfl (orT g73) ⟨rfl, rfl, rfl, rfl, rfl, rfl, rfl, rfl, rfl, rfl, rfl, rfl, rfl, rfl, rfl, rfl, rfl, rfl, rfl, rfl, rfl, rfl, rfl, rfl, rfl, rfl, rfl, rfl, rfl, rfl, rfl, rfl, rfl, trivial⟩
  · intro whs75 hs75
    refine WL.val rfl rfl rfl (Run.move rfl rfl) ?_
    apply WL.meetOr 5 42 47 [(0, _), (2, _), (3, _), (4, _), (5, _), (6, _), (7, _), (8, _), (9, _), (10, _), (11, _), (12, _), (13, _), (14, _), (15, _), (16, _), (17, _), (18, _), (19, _), (20, _), (21, _), (22, _), (23, _), (24, _), (25, _), (26, _), (27, _), (28, _), (29, _), (30, _), (31, _), (32, _), (33, _)] rfl hs75
    · intro g76 J77
      have qg76 := g76
      try simp only [decide_eq_true_eq, decide_eq_false_iff_not, Bool.not_eq_true', Bool.not_eq_false'] at qg76
      refine WL.val (wantF rfl g76) rfl rfl (Run.move rfl rfl) ?_
      refine WL.val (wantF rfl g76) rfl rfl (Run.move rfl rfl) ?_
      refine WL.call (wantF rfl g76) rfl rfl (Run.call Try.call74 rfl rfl rfl) (c_slices_Equal_byte_byte _ _ _ _ _ _ _ _ _ (SlF.ofOwn ho71 (fun p_ hp_ => (hs75.own p_ (List.mem_append_right [_, _, _] (List.mem_append_left _ hp_))).1)) (SlF.st0 f_s hs75) ?_) ?_
      · first | assumption | rfl | omega
      rintro _ whs78 ⟨rfl, hs78⟩
      replace hs78 := hs75.call0 hs78
      refine ⟨_, rfl, ?_⟩
      refine WL.val (wantF rfl g76) rfl rfl (Run.not rfl rfl) ?_
      refine WL.val rfl rfl rfl (Run.pickF rfl rfl g76 rfl) ?_
      exact WL.fin J77 hs78 rfl (orF g76) ⟨rfl, rfl, rfl, rfl, rfl, rfl, rfl, rfl, rfl, rfl, rfl, rfl, rfl, rfl, rfl, rfl, rfl, rfl, rfl, rfl, rfl, rfl, rfl, rfl, rfl, rfl, rfl, rfl, rfl, rfl, rfl, rfl, rfl, trivial⟩
    · intro g76 J77
      refine WL.skip (wantNF rfl g76) rfl rfl ?_
      refine WL.skip (wantNF rfl g76) rfl rfl ?_
      refine WL.skip (wantNF rfl g76) rfl rfl ?_
      refine WL.skip (wantNF rfl g76) rfl rfl ?_
      refine WL.val rfl rfl rfl (Run.pickT rfl rfl g76 rfl) ?_
      exact WL.fin J77 hs75 rfl (orT g76) ⟨rfl, rfl, rfl, rfl, rfl, rfl, rfl, rfl, rfl, rfl, rfl, rfl, rfl, rfl, rfl, rfl, rfl, rfl, rfl, rfl, rfl, rfl, rfl, rfl, rfl, rfl, rfl, rfl, rfl, rfl, rfl, rfl, rfl, trivial⟩
    · intro whs79 hs79
      refine WL.nil ?_
      refine tkN ?_
      refine hK72 _ _ ?_
      clear hK72
      refine WC.cond rfl (fun h80 => ?_) (fun h80 => ?_)
      · have qh80 := h80
        try simp only [decide_eq_true_eq, decide_eq_false_iff_not, Bool.not_eq_true', Bool.not_eq_false', Bool.and_eq_true, Bool.or_eq_false_iff, within_iff, within_not] at qh80
        have hg : opRdOk s = false := hk.trans (congrArg (!·) h80)
        refine WC.seq (fun K81 hK81 => ?_)
        refine WC.region ?_
        refine WL.val rfl rfl rfl (Run.build rfl rfl rfl rfl (built_27)) ?_
        refine WL.storeA hs79 2 Try.sizeOf27 rfl rfl rfl rfl rfl rfl rfl rfl rfl (Nat.le_of_ble_eq_true rfl) (.inl (Nat.le_of_ble_eq_true rfl)) (fun whs82 hs82 => ?_)
        refine WL.val rfl rfl rfl (Run.assign rfl rfl) ?_
        refine WL.nil ?_
        refine tkN ?_
        refine hK81 _ _ ?_
        clear hK81
        refine WC.ret ?_
        refine tkR ?_
        clear hK65
        refine retV2 rfl (resV.cell rfl (run_loadVarA Try.isAgg27 Try.sizeOf27 (cells_of_heap (hs82.own _ (nthL_mem (i := 2) rfl)).1 rfl rfl))) (resV.tmp rfl) ?_
        rw [opRes_no hg, hg]
        exact ⟨_, _, _, rfl, hs82.nil, OwnF.nil _ _⟩
      · have qh80 := h80
        try simp only [decide_eq_true_eq, decide_eq_false_iff_not, Bool.not_eq_true', Bool.not_eq_false', Bool.and_eq_true, Bool.or_eq_false_iff, within_iff, within_not] at qh80
        have hg : opRdOk s = true := hk.trans (congrArg (!·) h80)
        refine WC.skip ?_
        refine tkN ?_
        refine hK65 _ _ ?_
        clear hK65
        refine WC.seq (fun K83 hK83 => ?_)
        refine WC.region ?_
        refine WL.val rfl rfl rfl (Run.loadLA hs79 0 Try.isAgg27 Try.sizeOf27 rfl rfl rfl rfl rfl) ?_
        refine WL.storeA hs79 2 Try.sizeOf27 rfl rfl rfl rfl rfl rfl rfl rfl rfl (Nat.le_of_ble_eq_true rfl) (.inl (Nat.le_of_ble_eq_true rfl)) (fun whs84 hs84 => ?_)
        refine WL.val rfl rfl rfl (Run.assign rfl rfl) ?_
        refine WL.nil ?_
        refine tkN ?_
        refine hK83 _ _ ?_
        clear hK83
        refine WC.ret ?_
        refine retV2 rfl (resV.cell rfl (run_loadVarA Try.isAgg27 Try.sizeOf27 (cells_of_heap (hs84.own _ (nthL_mem (i := 2) rfl)).1 rfl rfl))) (resV.tmp rfl) ?_
        rw [opRes_yes hg, hg, hv]
        exact ⟨_, _, _, rfl, (St.keep1 (St.perm hs84 (L' := L57 ++ _) (perm_front (A := [_, _, _]) (perm_front (A := L170) (List.Perm.refl _))))), ho59⟩
end Go.Proofs.Ytpiimkfonlijdaa
