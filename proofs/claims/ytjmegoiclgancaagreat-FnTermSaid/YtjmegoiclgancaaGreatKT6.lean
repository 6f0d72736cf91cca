/-
  The statement: for every input the law returns true. No condition. (And what it stands on, the last part.)
-/
import Derived.Test.YtjmegoiclgancaaGreatKT5
namespace Go.Proofs.YtjmegoiclgancaaGreat
open Go Go.RowKit
set_option linter.unusedVariables false
set_option linter.unusedSimpArgs false
theorem built_33_0_1 (x0 : Int) (x1 : Int) : Tryz.prog.built 33 [(0, .int .i64 x0), (1, .int .i64 x1)] = some (List.toArray [.int .i64 x0, .int .i64 x1, .int .i64 0, .int .i64 0, .slice none 0 0, .int .i64 0, .int .i64 0, .slice none 0 0, .bool false, .int .i64 0, .int .i64 0, .bool false, .int .i64 0, .int .i64 0, .bool false, .bool false, .bool false, .int .i64 0, .int .i64 0, .bool false, .bool false, .int .i64 0, .int .i64 0, .int .i64 0, .int .i64 0, .bool false, .bool false, .bool false, .slice none 0 0, .int .i64 0, .slice none 0 0]) := by kernel_rfl
set_option maxHeartbeats 8000000 in
theorem k110_ (b_c : Nat) (A_s : Option Addr) (n_s c_s : Nat) (s : List UInt8) (q : Int) (bad : Bool) (w : World) (hc : w.heap[b_c]? = some (Obj.cells (List.toArray [.slice A_s n_s c_s, i64 (q), .bool (bad)]) 101 (0, 0))) (f_s : SlF encB w A_s n_s s) (s_s : 0 < n_s → (adr A_s).block ∉ [b_c]) (hn : n_s ≤ 1099511627776) (hcp : n_s ≤ c_s) (hq : 0 ≤ q ∧ q ≤ n_s) (hnb : n_s ≤ 1048576) (g0 : rst q bad = hI s 0) :
    Calls Tryz.prog 55 #[.pointer (some ⟨b_c, 0, none⟩)] w fun e w' => ∃ q' bad' r L1, e = .returned (.agg #[i64 r.P.State, .bool r.P.Mark, .slice r.P.Args.A r.P.Args.n r.P.Args.c, .slice r.P.Part.A r.P.Part.n r.P.Part.c, i64 r.S.W, i64 r.S.H, i64 r.S.Main.W, i64 r.S.Main.H, .slice r.S.Main.Cells.A r.S.Main.Cells.n r.S.Main.Cells.c, i64 r.S.Alt.W, i64 r.S.Alt.H, .slice r.S.Alt.Cells.A r.S.Alt.Cells.n r.S.Alt.Cells.c, .bool r.S.OnAlt, i64 r.S.X, i64 r.S.Y, .bool r.S.Wrap, i64 r.S.A.Fg, i64 r.S.A.Bg, .bool r.S.A.Bold, .bool r.S.A.Under, .bool r.S.A.Turn, i64 r.S.Top, i64 r.S.Bot, .bool r.S.NoWrap, .bool r.S.Hide, i64 r.S.SaveX, i64 r.S.SaveY, i64 r.S.SaveA.Fg, i64 r.S.SaveA.Bg, .bool r.S.SaveA.Bold, .bool r.S.SaveA.Under, .bool r.S.SaveA.Turn, .slice r.S.Tabs.A r.S.Tabs.n r.S.Tabs.c, i64 r.S.Limit, .slice r.S.Back.A r.S.Back.n r.S.Back.c]) ∧ St w [b_c] ((b_c, Obj.cells (List.toArray [.slice A_s n_s c_s, i64 (q'), .bool (bad')]) 101 (0, 0)) :: L1) w' ∧ ownTermR r L1 ∧ r.dat = termT s ∧ (rst q' bad').isSome = (okI s && (rI s).2.isSome) ∧ (0 ≤ q' ∧ q' ≤ n_s) := by
 have hl := f_s.len
 have hgb := gv_bounds s q
 have htb := txt_bounds s q
 refine enter 147 Tryz.func55 rfl Tryz.ntmps55 rfl rfl ?_
 have hs1 := St.take1 w b_c _ hc
 refine WC.sr (WL.al hs1 Tryz.zeroValue35 rfl rfl (fun b2 _ hs3 => WL.nil (WC.sr (WL.r 1 hs3 [] rfl ?_))))
 replace hs3 := (hs3.fb b_c)
 have hF4 : St _ _ ([(b_c, _)] ++ _) _ := hs3
 refine WL.call rfl rfl rfl (Run.call Tryz.call129 rfl rfl rfl) (k104_ _ _ _ _ _ _ _ _ (hF4.own _ List.mem_cons_self).1 (SlF.st f_s hs3 s_s) (St.sepT hF4 f_s s_s) ?_ ?_ ?_) ?_
 · omega
 · first | assumption | exact OwnF.cap (by assumption) | omega
 · omega
 rintro _ whs9 ⟨q5, bad6, rfl, hs9, hst7, hq8⟩
 replace hs9 := St.lend hF4 hs9
 refine ⟨_, rfl, ?_⟩
 have hd0 : hdI s 0 = rdN s (rst q bad) := by unfold hdI; rw [← g0]
 have g1 : (rst q5 bad6) = hI s 1 := by rw [hst7, g0]; exact (if_neg (by decide)).symm
 refine WL.r 1 hs9 [] rfl ?_
 have hF10 : St _ _ ([(b_c, _)] ++ _) _ := hs9
 refine WL.call rfl rfl rfl (Run.call Tryz.call129 rfl rfl rfl) (k104_ _ _ _ _ _ _ _ _ (hF10.own _ List.mem_cons_self).1 (SlF.st f_s hs9 s_s) (St.sepT hF10 f_s s_s) ?_ ?_ ?_) ?_
 · omega
 · first | assumption | exact OwnF.cap (by assumption) | omega
 · omega
 rintro _ whs15 ⟨q11, bad12, rfl, hs15, hst13, hq14⟩
 replace hs15 := St.lend hF10 hs15
 refine ⟨_, rfl, ?_⟩
 have hd1 : hdI s 1 = rdN s (rst q5 bad6) := by unfold hdI; rw [← g1]
 have g2 : (rst q11 bad12) = hI s 2 := by rw [hst13, g1]; exact (if_neg (by decide)).symm
 refine WL.val rfl rfl rfl (Run.build rfl rfl rfl rfl (built_33_0_1 _ _)) ?_
 refine WL.val rfl rfl rfl (Run.build rfl rfl rfl rfl (built_25)) (WL.al hs15 Tryz.zeroValue33 rfl rfl (fun b16 _ hs17 => WL.al hs17 Tryz.zeroValue25 rfl rfl (fun b18 _ hs19 => WL.st tbk hs19 1 rfl rfl (fun _ hs20 => WL.st tbk hs20 0 rfl rfl (fun _ hs21 => WL.nil (WC.sr (WL.r 1 hs21 [] rfl ?_)))))))
 replace hs21 := (((hs21.fb b16).fb b18).fb b_c)
 have hF22 : St _ _ ([(b_c, _)] ++ _) _ := hs21
 refine WL.call rfl rfl rfl (Run.call Tryz.call129 rfl rfl rfl) (k104_ _ _ _ _ _ _ _ _ (hF22.own _ List.mem_cons_self).1 (SlF.st f_s hs21 s_s) (St.sepT hF22 f_s s_s) ?_ ?_ ?_) ?_
 · omega
 · first | assumption | exact OwnF.cap (by assumption) | omega
 · omega
 rintro _ whs27 ⟨q23, bad24, rfl, hs27, hst25, hq26⟩
 replace hs27 := St.lend hF22 hs27
 refine ⟨_, rfl, ?_⟩
 have hd2 : hdI s 2 = rdN s (rst q11 bad12) := by unfold hdI; rw [← g2]
 have g3 : (rst q23 bad24) = hI s 3 := by rw [hst25, g2]; exact (if_neg (by decide)).symm
 have hfb := rdN_bounds s (rst q11 bad12)
 have hf0 := hfb.1
 refine WL.r 1 hs27 [] rfl (WL.nil (WC.sr (WL.r 1 hs27 [] rfl (WL.val rfl rfl rfl (Run.and rfl rfl rfl ?_ ?_ ?_ ?_) ?_))))
 · omega
 · omega
 · omega
 · omega
 refine WL.r 2 hs27 [] rfl (WL.val rfl rfl rfl (Run.and rfl rfl rfl ?_ ?_ ?_ ?_) ?_)
 · omega
 · omega
 · omega
 · omega
 refine WL.r 2 hs27 [] rfl (WL.val rfl rfl rfl (Run.and rfl rfl rfl ?_ ?_ ?_ ?_) ?_)
 · omega
 · omega
 · omega
 · omega
 refine WL.r 2 hs27 [] rfl (WL.val rfl rfl rfl (Run.and rfl rfl rfl ?_ ?_ ?_ ?_) ?_)
 · omega
 · omega
 · omega
 · omega
 refine WL.r 2 hs27 [] rfl (WL.val rfl rfl rfl (Run.and rfl rfl rfl ?_ ?_ ?_ ?_) ?_)
 · omega
 · omega
 · omega
 · omega
 refine WL.r 2 hs27 [] rfl (WL.st tbk hs27 2 rfl rfl (fun _ hs28 => WL.r 1 hs28 [] rfl (WL.st tbk hs28 2 rfl rfl (fun _ hs29 => WL.r 1 hs29 [] rfl (WL.st tbk hs29 2 rfl rfl (fun _ hs30 => WL.r 1 hs30 [] rfl (WL.st tbk hs30 2 rfl rfl (fun _ hs31 => ?_))))))))
 refine WL.r 1 hs31 [] rfl (WL.st tbk hs31 1 rfl rfl (fun _ hs32 => WL.nil (WC.sr (WL.r 1 hs32 [] rfl ?_))))
 have hF33 : St _ _ ([(b_c, _)] ++ _) _ := hs32
 refine WL.call rfl rfl rfl (Run.call Tryz.call129 rfl rfl rfl) (k104_ _ _ _ _ _ _ _ _ (hF33.own _ List.mem_cons_self).1 (SlF.st f_s hs32 s_s) (St.sepT hF33 f_s s_s) ?_ ?_ ?_) ?_
 · omega
 · first | assumption | exact OwnF.cap (by assumption) | omega
 · omega
 rintro _ whs38 ⟨q34, bad35, rfl, hs38, hst36, hq37⟩
 replace hs38 := St.lend hF33 hs38
 refine ⟨_, rfl, ?_⟩
 have hd3 : hdI s 3 = rdN s (rst q23 bad24) := by unfold hdI; rw [← g3]
 have g4 : (rst q34 bad35) = hI s 4 := by rw [hst36, g3]; exact (if_neg (by decide)).symm
 refine WL.r 1 hs38 [] rfl ?_
 have hF39 : St _ _ ([(b_c, _)] ++ _) _ := hs38
 refine WL.call rfl rfl rfl (Run.call Tryz.call129 rfl rfl rfl) (k104_ _ _ _ _ _ _ _ _ (hF39.own _ List.mem_cons_self).1 (SlF.st f_s hs38 s_s) (St.sepT hF39 f_s s_s) ?_ ?_ ?_) ?_
 · omega
 · first | assumption | exact OwnF.cap (by assumption) | omega
 · omega
 rintro _ whs44 ⟨q40, bad41, rfl, hs44, hst42, hq43⟩
 replace hs44 := St.lend hF39 hs44
 refine ⟨_, rfl, ?_⟩
 have hd4 : hdI s 4 = rdN s (rst q34 bad35) := by unfold hdI; rw [← g4]
 have g5 : (rst q40 bad41) = hI s 5 := by rw [hst42, g4]; exact (if_neg (by decide)).symm
 refine WL.r 1 hs44 [] rfl ?_
 have hF45 : St _ _ ([(b_c, _)] ++ _) _ := hs44
 refine WL.call rfl rfl rfl (Run.call Tryz.call130 rfl rfl rfl) (k106_ _ _ _ _ _ _ _ _ (hF45.own _ List.mem_cons_self).1 (SlF.st f_s hs44 s_s) (St.sepT hF45 f_s s_s) ?_ ?_ ?_) ?_
 · omega
 · first | assumption | exact OwnF.cap (by assumption) | omega
 · omega
 rintro _ whs50 ⟨q46, bad47, rfl, hs50, hst48, hq49⟩
 replace hs50 := St.lend hF45 hs50
 refine ⟨_, rfl, ?_⟩
 have hd5 : hdI s 5 = rdN s (rst q40 bad41) := by unfold hdI; rw [← g5]
 have g6 : (rst q46 bad47) = hI s 6 := by rw [hst48, g5]; exact (if_pos (by decide)).symm
 refine WL.r 1 hs50 [] rfl (WL.st tbk hs50 2 rfl rfl (fun _ hs51 => WL.r 1 hs51 [] rfl (WL.st tbk hs51 2 rfl rfl (fun _ hs52 => WL.r 1 hs52 [] rfl (WL.st tbk hs52 2 rfl rfl (fun _ hs53 => WL.nil (WC.sr ?_)))))))
 refine WL.r 1 hs53 [] rfl ?_
 have hF54 : St _ _ ([(b_c, _)] ++ _) _ := hs53
 refine WL.call rfl rfl rfl (Run.call Tryz.call129 rfl rfl rfl) (k104_ _ _ _ _ _ _ _ _ (hF54.own _ List.mem_cons_self).1 (SlF.st f_s hs53 s_s) (St.sepT hF54 f_s s_s) ?_ ?_ ?_) ?_
 · omega
 · first | assumption | exact OwnF.cap (by assumption) | omega
 · omega
 rintro _ whs59 ⟨q55, bad56, rfl, hs59, hst57, hq58⟩
 replace hs59 := St.lend hF54 hs59
 refine ⟨_, rfl, ?_⟩
 have hd6 : hdI s 6 = rdN s (rst q46 bad47) := by unfold hdI; rw [← g6]
 have g7 : (rst q55 bad56) = hI s 7 := by rw [hst57, g6]; exact (if_neg (by decide)).symm
 refine WL.r 1 hs59 [] rfl ?_
 have hF60 : St _ _ ([(b_c, _)] ++ _) _ := hs59
 refine WL.call rfl rfl rfl (Run.call Tryz.call129 rfl rfl rfl) (k104_ _ _ _ _ _ _ _ _ (hF60.own _ List.mem_cons_self).1 (SlF.st f_s hs59 s_s) (St.sepT hF60 f_s s_s) ?_ ?_ ?_) ?_
 · omega
 · first | assumption | exact OwnF.cap (by assumption) | omega
 · omega
 rintro _ whs65 ⟨q61, bad62, rfl, hs65, hst63, hq64⟩
 replace hs65 := St.lend hF60 hs65
 refine ⟨_, rfl, ?_⟩
 have hd7 : hdI s 7 = rdN s (rst q55 bad56) := by unfold hdI; rw [← g7]
 have g8 : (rst q61 bad62) = hI s 8 := by rw [hst63, g7]; exact (if_neg (by decide)).symm
 refine WL.r 1 hs65 [] rfl ?_
 have hF66 : St _ _ ([(b_c, _)] ++ _) _ := hs65
 refine WL.call rfl rfl rfl (Run.call Tryz.call129 rfl rfl rfl) (k104_ _ _ _ _ _ _ _ _ (hF66.own _ List.mem_cons_self).1 (SlF.st f_s hs65 s_s) (St.sepT hF66 f_s s_s) ?_ ?_ ?_) ?_
 · omega
 · first | assumption | exact OwnF.cap (by assumption) | omega
 · omega
 rintro _ whs71 ⟨q67, bad68, rfl, hs71, hst69, hq70⟩
 replace hs71 := St.lend hF66 hs71
 refine ⟨_, rfl, ?_⟩
 have hd8 : hdI s 8 = rdN s (rst q61 bad62) := by unfold hdI; rw [← g8]
 have g9 : (rst q67 bad68) = hI s 9 := by rw [hst69, g8]; exact (if_neg (by decide)).symm
 refine WL.r 1 hs71 [] rfl ?_
 have hF72 : St _ _ ([(b_c, _)] ++ _) _ := hs71
 refine WL.call rfl rfl rfl (Run.call Tryz.call129 rfl rfl rfl) (k104_ _ _ _ _ _ _ _ _ (hF72.own _ List.mem_cons_self).1 (SlF.st f_s hs71 s_s) (St.sepT hF72 f_s s_s) ?_ ?_ ?_) ?_
 · omega
 · first | assumption | exact OwnF.cap (by assumption) | omega
 · omega
 rintro _ whs77 ⟨q73, bad74, rfl, hs77, hst75, hq76⟩
 replace hs77 := St.lend hF72 hs77
 refine ⟨_, rfl, ?_⟩
 have hd9 : hdI s 9 = rdN s (rst q67 bad68) := by unfold hdI; rw [← g9]
 have g10 : (rst q73 bad74) = hI s 10 := by rw [hst75, g9]; exact (if_neg (by decide)).symm
 refine WL.r 1 hs77 [] rfl (WL.st tbk hs77 2 rfl rfl (fun _ hs78 => WL.r 1 hs78 [] rfl (WL.st tbk hs78 2 rfl rfl (fun _ hs79 => WL.r 1 hs79 [] rfl (WL.st tbk hs79 2 rfl rfl (fun _ hs80 => WL.r 1 hs80 [] rfl (WL.st tbk hs80 2 rfl rfl (fun _ hs81 => ?_))))))))
 refine WL.nil (WC.sr (WL.r 1 hs81 [] rfl ?_))
 have hF82 : St _ _ ([(b_c, _)] ++ _) _ := hs81
 refine WL.call rfl rfl rfl (Run.call Tryz.call130 rfl rfl rfl) (k106_ _ _ _ _ _ _ _ _ (hF82.own _ List.mem_cons_self).1 (SlF.st f_s hs81 s_s) (St.sepT hF82 f_s s_s) ?_ ?_ ?_) ?_
 · omega
 · first | assumption | exact OwnF.cap (by assumption) | omega
 · omega
 rintro _ whs87 ⟨q83, bad84, rfl, hs87, hst85, hq86⟩
 replace hs87 := St.lend hF82 hs87
 refine ⟨_, rfl, ?_⟩
 have hd10 : hdI s 10 = rdN s (rst q73 bad74) := by unfold hdI; rw [← g10]
 have g11 : (rst q83 bad84) = hI s 11 := by rw [hst85, g10]; exact (if_pos (by decide)).symm
 refine WL.r 1 hs87 [] rfl ?_
 have hF88 : St _ _ ([(b_c, _)] ++ _) _ := hs87
 refine WL.call rfl rfl rfl (Run.call Tryz.call129 rfl rfl rfl) (k104_ _ _ _ _ _ _ _ _ (hF88.own _ List.mem_cons_self).1 (SlF.st f_s hs87 s_s) (St.sepT hF88 f_s s_s) ?_ ?_ ?_) ?_
 · omega
 · first | assumption | exact OwnF.cap (by assumption) | omega
 · omega
 rintro _ whs93 ⟨q89, bad90, rfl, hs93, hst91, hq92⟩
 replace hs93 := St.lend hF88 hs93
 refine ⟨_, rfl, ?_⟩
 have hd11 : hdI s 11 = rdN s (rst q83 bad84) := by unfold hdI; rw [← g11]
 have g12 : (rst q89 bad90) = hI s 12 := by rw [hst91, g11]; exact (if_neg (by decide)).symm
 refine WL.r 1 hs93 [] rfl ?_
 have hF94 : St _ _ ([(b_c, _)] ++ _) _ := hs93
 refine WL.call rfl rfl rfl (Run.call Tryz.call129 rfl rfl rfl) (k104_ _ _ _ _ _ _ _ _ (hF94.own _ List.mem_cons_self).1 (SlF.st f_s hs93 s_s) (St.sepT hF94 f_s s_s) ?_ ?_ ?_) ?_
 · omega
 · first | assumption | exact OwnF.cap (by assumption) | omega
 · omega
 rintro _ whs99 ⟨q95, bad96, rfl, hs99, hst97, hq98⟩
 replace hs99 := St.lend hF94 hs99
 refine ⟨_, rfl, ?_⟩
 have hd12 : hdI s 12 = rdN s (rst q89 bad90) := by unfold hdI; rw [← g12]
 have g13 : (rst q95 bad96) = hI s 13 := by rw [hst97, g12]; exact (if_neg (by decide)).symm
 refine WL.r 1 hs99 [] rfl (WL.st tbk hs99 2 rfl rfl (fun _ hs100 => WL.r 1 hs100 [] rfl (WL.st tbk hs100 2 rfl rfl (fun _ hs101 => WL.r 1 hs101 [] rfl (WL.st tbk hs101 1 rfl rfl (fun _ hs102 => WL.nil (WC.sr ?_)))))))
 refine WL.r 1 hs102 [] rfl ?_
 have hF103 : St _ _ ([(b_c, _)] ++ _) _ := hs102
 refine WL.call rfl rfl rfl (Run.call Tryz.call131 rfl rfl rfl) (k109_ _ _ _ _ _ _ _ _ (hF103.own _ List.mem_cons_self).1 (SlF.st f_s hs102 s_s) (St.sepT hF103 f_s s_s) ?_ ?_ ?_ ?_) ?_
 · omega
 · first | assumption | exact OwnF.cap (by assumption) | omega
 · omega
 · omega
 rintro _ whs108 ⟨q104, bad105, A109, c110, L111, rfl, hs108, ho112, hst106, hq107⟩
 replace hs108 := St.lend hF103 hs108
 refine ⟨_, rfl, ?_⟩
 replace hs108 := St.assoc (L1 := [_]) hs108
 have hs113 := ((((hs108.fb b2).fb b16).fb b18).fb b_c)
 have haI : aI s = (numsF s (cntN s (rst q95 bad96)).toNat (cntS s (rst q95 bad96))) := by unfold aI; rw [g13]
 have gaI : (rst q104 bad105) = (aI s).2 := by rw [haI]; exact hst106
 have hlaI : (numsF s (cntN s (rst q95 bad96)).toNat (cntS s (rst q95 bad96))).1.length ≤ 1048576 := by rw [numsF_len]; have h9 := cntN_bounds s (rst q95 bad96); omega
 refine WL.r 1 hs113 [] rfl (WL.st tbk hs113 1 rfl rfl (fun _ hs114 => WL.nil (WC.seq (fun K115 hK115 => WC.sr (WL.r 1 hs114 [] rfl ?_)))))
 have hF116 : St _ _ ([(b_c, _)] ++ _) _ := hs114
 refine WL.call rfl rfl rfl (Run.call Tryz.call131 rfl rfl rfl) (k109_ _ _ _ _ _ _ _ _ (hF116.own _ List.mem_cons_self).1 (SlF.st f_s hs114 s_s) (St.sepT hF116 f_s s_s) ?_ ?_ ?_ ?_) ?_
 · omega
 · first | assumption | exact OwnF.cap (by assumption) | omega
 · omega
 · omega
 rintro _ whs121 ⟨q117, bad118, A122, c123, L124, rfl, hs121, ho125, hst119, hq120⟩
 replace hs121 := St.lend hF116 hs121
 refine ⟨_, rfl, ?_⟩
 replace hs121 := St.assoc (L1 := [_]) hs121
 have hs126 := ((((hs121.fb b2).fb b16).fb b18).fb b_c)
 have hpI : pI s = (numsF s (cntN s (rst q104 bad105)).toNat (cntS s (rst q104 bad105))) := by unfold pI; rw [gaI]
 have gpI : (rst q117 bad118) = (pI s).2 := by rw [hpI]; exact hst119
 have hlpI : (numsF s (cntN s (rst q104 bad105)).toNat (cntS s (rst q104 bad105))).1.length ≤ 1048576 := by rw [numsF_len]; have h9 := cntN_bounds s (rst q104 bad105); omega
 refine WL.r 2 hs126 [] rfl (WL.nil (WC.block ?_))
 obtain ⟨L129, hs128, ho130⟩ := ownVpR.fl hs126 ho112 (OwnF.nil _ _)
 have hs131 := ((((hs128.fb b2).fb b16).fb b18).fb b_c)
 have hM136 := (St.grp1 (L1 := L129) [_] ((((((hs131.fr L124).fb b2).fb b16).fb b_c).fr L129).fb b18))
 refine WC.lV [0, 2, 3, 4, 70, 71] rfl hM136 (fun k_ (a_ : Hp) f => ∃ (i : Nat) (v : VpR) (L134 : Hp), k_ = (numsF s (cntN s (rst q104 bad105)).toNat (cntS s (rst q104 bad105))).1.length - i ∧ a_ = [(b18, .cells (List.toArray [i64 v.State, .bool v.Mark, .slice v.Args.A v.Args.n v.Args.c, .slice v.Part.A v.Part.n v.Part.c]) 25 (0, 0))] ++ L134 ∧ (i ≤ (numsF s (cntN s (rst q104 bad105)).toNat (cntS s (rst q104 bad105))).1.length) ∧ (v.dat = (⟨hdI s 12, bitQ (hdI s 2) 16, (numsF s (cntN s (rst q95 bad96)).toNat (cntS s (rst q95 bad96))).1, ((numsF s (cntN s (rst q104 bad105)).toNat (cntS s (rst q104 bad105))).1.take i).map ub⟩ : VpD)) ∧ ownVpR v L134 ∧ Sub [(72, .int .i64 i)] f) (((fun (i : Nat) => (numsF s (cntN s (rst q104 bad105)).toNat (cntS s (rst q104 bad105))).1.length - i) (0))) ?_ ?_
 ·refine ⟨0, ⟨_, _, SlD.of ho112, ⟨none, 0, 0, []⟩⟩, L129, rfl, rfl, ?_, ?_, (by exact ho130), ⟨rfl, trivial⟩⟩
  · exact Nat.zero_le _
  · show (⟨_, _, _, _⟩ : VpD) = _; rw [hd12, hd2, ← bitq16 hf0]; rfl
 rintro _ _ f w ⟨i, v, L134, rfl, rfl, p0, p1, ho135, hG⟩ hF hs137
 refine WC.sub _ (hG.app hF) ?_
 clear hG hF
 replace hs137 := St.ungrp1 [_] hs137
 have hs138 := ((((hs137.fb b2).fb b16).fb b_c).fb b18)
 have hpl : v.Part.xs.length ≤ 1048576 := by have e9 := congrArg (fun d => d.Part.length) p1; simp only [List.length_map, List.length_take] at e9; have e8 : v.dat.Part.length = v.Part.xs.length := rfl; omega
 refine WC.r1 hs138 [] rfl (WC.seq (fun K139 hK139 => ?_))
 refine WC.cq rfl (fun h140 qh140 => ?_) (fun h140 qh140 => ?_)
 ·refine WC.skip (hK139 _ _ (WC.seq (fun K141 hK141 => WC.block (WC.sr ?_))))
  refine WL.val rfl rfl rfl (Run.idxN Tryz.runUnderlying23 Tryz.sizeOf3 rfl rfl rfl ?_ ?_ ?_) ?_
  · exact SlF.some_ (SlF.ofOwn ho125 (hs138.ow L124))
  · omega
  · omega
  refine WL.val rfl rfl rfl (Run.load Tryz.isAgg3 rfl rfl (SlF.one1 (SlF.ofOwn ho125 (hs138.ow L124)) ?_ rfl)) ?_
  · omega
  refine WL.r 1 hs138 [] rfl (WL.nil (WC.region (WL.r 4 hs138 [0] rfl (WL.buildSlice hs138 Tryz.runUnderlying22 Tryz.sizeOf5 Tryz.zeroValue5 rfl rfl rfl rfl rfl rfl rfl rfl rfl rfl (fun b142 whs143 hs143 => ?_)))))
  obtain ⟨L144, L145, hs148, ho146, ho147⟩ := ownVpR.op hs143 ho135
  have hs149 := (((((hs148.fb b2).fb b16).fb b_c).fb b18).fb b142)
  refine WL.appendG (hs149.fr L145) ho147 (srcB1 Tryz.underlying22 (hs149.own _ (nthL_mem (i := 0) rfl)).1) Tryz.underlying22 inf5 rfl rfl rfl rfl rfl rfl rfl rfl rfl rfl ?_ (fun A153 c154 L150 whs151 hs151 ho152 => ?_)
  · (try simp only [List.length_append, List.length_singleton]); omega
  replace hs151 := St.back [_, _, _, _, _] hs151
  refine WL.r 1 hs151 [] rfl (WL.st tbk hs151 1 rfl rfl (fun _ hs155 => WL.nil (hK141 _ _ (WC.region (WL.r 2 hs155 [] rfl (WL.nil (tkN ?_)))))))
  obtain ⟨L157, hs156, ho158⟩ := ownVpR.fl hs155 ho146 ho152
  have hs159 := (((((hs156.fb b2).fb b16).fb b_c).fb b18).fb b142)
  replace hs159 := hs159.d1
  have hF160 := (St.grp1 (L1 := L157) [_] ((((((hs159.fr L124).fb b2).fb b16).fb b_c).fr L157).fb b18))
  refine ⟨sbF rfl, _, hF160, _, ?_, i + 1, ⟨v.State, v.Mark, SlD.of ho146, SlD.of ho152⟩, L157, rfl, rfl, ?_, ?_, (by exact ho158), ⟨rfl, trivial⟩⟩
  · omega
  · omega
  · have e6 : v.State = hdI s 12 := congrArg VpD.State p1
    have e7 : v.Mark = bitQ (hdI s 2) 16 := congrArg VpD.Mark p1
    have e8 : v.Args.xs = (numsF s (cntN s (rst q95 bad96)).toNat (cntS s (rst q95 bad96))).1 := congrArg VpD.Args p1
    refine VpD.ext' e6 e7 e8 ?_
    have e9 : v.Part.xs = ((numsF s (cntN s (rst q104 bad105)).toNat (cntS s (rst q104 bad105))).1.take i).map ub := congrArg VpD.Part p1
    show v.Part.xs ++ [_] = ((numsF s (cntN s (rst q104 bad105)).toNat (cntS s (rst q104 bad105))).1.take (i + 1)).map ub
    rw [e9, List.take_add_one, gat_get (F := encI) (by omega), List.map_append]; rfl
 have hvv : v.dat = (termI s).P := by rw [p1, List.take_of_length_le (by omega)]; unfold termI; rw [haI, hpI]
 refine WC.exit (hK115 _ _ (WC.sr (WL.r 1 hs138 [] rfl ?_)))
 replace hs138 := (hs138.fb b_c)
 have hF161 : St _ _ ([(b_c, _)] ++ _) _ := hs138
 refine WL.call rfl rfl rfl (Run.call Tryz.call131 rfl rfl rfl) (k109_ _ _ _ _ _ _ _ _ (hF161.own _ List.mem_cons_self).1 (SlF.st f_s hs138 s_s) (St.sepT hF161 f_s s_s) ?_ ?_ ?_ ?_) ?_
 · omega
 · first | assumption | exact OwnF.cap (by assumption) | omega
 · omega
 · omega
 rintro _ whs166 ⟨q162, bad163, A167, c168, L169, rfl, hs166, ho170, hst164, hq165⟩
 replace hs166 := St.lend hF161 hs166
 refine ⟨_, rfl, ?_⟩
 replace hs166 := St.assoc (L1 := [_]) hs166
 have hs171 := ((((hs166.fb b2).fb b16).fb b18).fb b_c)
 have htI : tI s = (numsF s (cntN s (rst q117 bad118)).toNat (cntS s (rst q117 bad118))) := by unfold tI; rw [gpI]
 have gtI : (rst q162 bad163) = (tI s).2 := by rw [htI]; exact hst164
 have hltI : (numsF s (cntN s (rst q117 bad118)).toNat (cntS s (rst q117 bad118))).1.length ≤ 1048576 := by rw [numsF_len]; have h9 := cntN_bounds s (rst q117 bad118); omega
 refine WL.r 1 hs171 [] rfl (WL.st tbk hs171 2 rfl rfl (fun _ hs172 => WL.nil (WC.seq (fun K173 hK173 => WC.sr (WL.r 5 hs172 [0] rfl ?_)))))
 apply WL.gO 6 Acts.nil hs172 rfl
 ·intro g174 J175
  have qg174 := g174
  try simp only [bf, within_iff, within_not] at qg174
  refine WL.runA tbk 4 (Acts.nil.cons (j := 4) rfl g174) hs172 [2, 2] rfl ⟨rfl, rfl, trivial⟩ (WL.call (wantF rfl g174) rfl rfl (Run.call Tryz.call132 rfl rfl rfl) (k14_ _ _ _) ?_)
  rintro _ whs176 ⟨rfl, hs176⟩
  replace hs176 := hs172.call0 hs176
  refine ⟨_, rfl, WL.runA tbk 1 (Acts.nil.cons (j := 4) rfl g174) hs176 [] rfl trivial (WL.eO 6 Acts.nil J175 hs176 g174 rfl rfl)⟩
 intro _ hs177
 refine WL.nil (WC.cq rfl (fun h178 qh178 => ?_) (fun h178 qh178 => ?_))
 ·have hok : okI s = false := by unfold okI; rw [← gtI, hd0, hd1]; have h9 := h178; rcases Bool.eq_false_or_eq_true bad163 with hb | hb <;> rw [hb] at h9 ⊢ <;> simp [rst] at h9 ⊢ <;> exact h9
  refine WC.sr (WL.r 3 hs177 [] rfl (WL.st tbk hs177 0 rfl rfl (fun _ hs179 => WL.nil (WC.sr ?_))))
  refine WL.val rfl rfl rfl (Run.build rfl rfl rfl rfl (built_35)) (WL.st tbk hs179 3 rfl rfl (fun _ hs180 => WL.nil (WC.ret (tkR ?_))))
  clear hK173
  refine retV1 rfl (resV.cellA tbk hs180 3 rfl rfl rfl rfl) ?_
  obtain ⟨L188, hs187, ho189⟩ := ownTermR.fl hs180 (OwnF.nil _ _) (OwnF.nil _ _) (OwnF.nil _ _) (OwnF.nil _ _) (OwnF.nil _ _) (OwnN.nil _ _ _)
  have hs190 := ((((hs187.fb b2).fb b16).fb b18).fb b_c)
  refine ⟨_, _, ⟨⟨0, false, ⟨none, 0, 0, []⟩, ⟨none, 0, 0, []⟩⟩, ⟨0, 0, ⟨0, 0, ⟨none, 0, 0, []⟩⟩, ⟨0, 0, ⟨none, 0, 0, []⟩⟩, false, 0, 0, false, ⟨0, 0, false, false, false⟩, 0, 0, false, false, 0, 0, ⟨0, 0, false, false, false⟩, ⟨none, 0, 0, []⟩, 0, ⟨none, 0, 0, []⟩⟩⟩, _, rfl, St.keepP (L1 := L188) ((hs190.fr L188).fb b_c), (by exact ho189), ?_, ?_, by omega⟩
  · unfold termT; rw [hok]; rfl
  · rw [hok]; rfl
 have hok : okI s = true := by unfold okI; rw [← gtI, hd0, hd1]; have h9 := h178; rcases Bool.eq_false_or_eq_true bad163 with hb | hb <;> rw [hb] at h9 ⊢ <;> simp [rst] at h9 ⊢ <;> exact h9
 have hszb := isSize_bnd (okI_sz hok)
 rw [hd0, hd1] at hszb
 refine WC.skip (hK173 _ _ (WC.seq (fun K191 hK191 => WC.rG 25 (hs177.d1.fb b16).d1 hs177.d1 hs177 (fun _ hs192 => ?_))))
 refine WG.rn [0, 1, 2, 3, 4, 5, 6, 7, 8, 9, 12, 13, 14, 15, 16, 17, 18, 19, 20, 21] hs192.d1 [1, 1, 1, 1, 1, 1, 1, 1] rfl rfl (WG.o1 10 rfl rfl ?_)
 have hF193 : St _ _ ([(b_c, _)] ++ _) _ := hs192
 refine WL.call rfl rfl rfl (Run.call Tryz.call133 rfl rfl rfl) (k108_ _ _ _ _ _ _ _ _ _ (hF193.own _ List.mem_cons_self).1 (SlF.st f_s hs192 s_s) (St.sepT hF193 f_s s_s) ?_ ?_ ?_) ?_
 · omega
 · first | assumption | exact OwnF.cap (by assumption) | omega
 · omega
 rintro _ whs198 ⟨q194, bad195, A199, c200, L201, rfl, hs198, ho202, hst196, hq197⟩
 replace hs198 := St.lend hF193 hs198
 refine ⟨_, rfl, ?_⟩
 replace hs198 := St.assoc (L1 := [_]) hs198
 have hs203 := ((((hs198.fb b2).fb b16).fb b18).fb b_c)
 have gM : (rst q194 bad195) = mS s := by unfold mS; rw [← gtI, hd0, hd1]; exact hst196
 refine WL.nil ⟨(hs203.d1.rm L201), ?_⟩
 refine WG.tk 11 rfl (by kernel_rfl) rfl rfl rfl (hs203.d1.rm L201) (fun w_ hs_ => (Run.build rfl rfl rfl rfl (built_28_0_1_2 _ _ _ _ _))) ?_
 refine WG.rn [24] (hs203.d1.rm L201) [] rfl rfl (WG.o1 22 rfl rfl ?_)
 have hF204 : St _ _ ([(b_c, _)] ++ _) _ := hs203
 refine WL.call rfl rfl rfl (Run.call Tryz.call133 rfl rfl rfl) (k108_ _ _ _ _ _ _ _ _ _ (hF204.own _ List.mem_cons_self).1 (SlF.st f_s hs203 s_s) (St.sepT hF204 f_s s_s) ?_ ?_ ?_) ?_
 · omega
 · first | assumption | exact OwnF.cap (by assumption) | omega
 · omega
 rintro _ whs209 ⟨q205, bad206, A210, c211, L212, rfl, hs209, ho213, hst207, hq208⟩
 replace hs209 := St.lend hF204 hs209
 refine ⟨_, rfl, ?_⟩
 replace hs209 := St.assoc (L1 := [_]) hs209
 have hs214 := ((((hs209.fb b2).fb b16).fb b18).fb b_c)
 have gL : (rst q205 bad206) = alS s := by unfold alS; rw [← gM, hd0, hd1]; exact hst207
 refine WL.nil ⟨((hs214.d1.rm L212).rm L201), ?_⟩
 refine WG.takeB 23 rfl (by kernel_rfl) rfl rfl rfl rfl ((hs214.d1.rm L212).rm L201) (fun w_ => (Run.build rfl rfl rfl rfl (built_28_0_1_2 _ _ _ _ _))) ?_
 refine WG.oK rfl (WL.st tbk hs214 2 rfl rfl (fun _ hs215 => WL.nil ⟨(((hs215.d1.fb b16).d1.rm L212).rm L201), WH.rn [26] (((hs215.d1.fb b16).d1.rm L212).rm L201) [] rfl rfl (WH.o1 27 rfl (WL.st tbk hs215 2 rfl rfl (fun _ hs216 => WL.nil ⟨(((hs216.d1.fb b16).d1.rm L212).rm L201), WH.dn ?_⟩)))⟩))
 refine hK191 _ _ (WC.seq (fun K217 hK217 => WC.sr (WL.r 1 hs216 [] rfl ?_)))
 have hF218 : St _ _ ([(b_c, _)] ++ _) _ := hs216
 refine WL.call rfl rfl rfl (Run.call Tryz.call134 rfl rfl rfl) (k105_ _ _ _ _ _ _ _ _ (hF218.own _ List.mem_cons_self).1 (SlF.st f_s hs216 s_s) (St.sepT hF218 f_s s_s) ?_ ?_ ?_) ?_
 · omega
 · first | assumption | exact OwnF.cap (by assumption) | omega
 · omega
 rintro _ whs223 ⟨q219, bad220, rfl, hs223, hst221, hq222⟩
 replace hs223 := St.lend hF218 hs223
 refine ⟨_, rfl, ?_⟩
 have hcS : (rst q219 bad220) = cntS s (alS s) := by rw [← gL]; exact hst221
 rw [gL]
 have hcb := cntN_bounds s (alS s)
 refine WL.r 1 hs223 [] rfl (WL.nil (WC.block ?_))
 obtain ⟨L226, hs225, ho227⟩ := ownScrR.fl hs223 ho202 ho213 ho170 (OwnN.nil _ _ _)
 have hs228 := ((((hs225.fb b2).fb b16).fb b18).fb b_c)
 have hM233 := (St.grp1 (L1 := L226) [_, _] (((((((hs228.fr L124).fr L134).fb b2).fb b18).fr L226).fb b_c).fb b16))
 refine WC.lV [0, 2, 3, 4, 73, 98, 130] rfl hM233 (fun k_ (a_ : Hp) f => ∃ (i : Nat) (q1 : Int) (bd : Bool) (zs : List RowD) (r : ScrR) (L231 : Hp), k_ = (cntN s (alS s)).toNat - i ∧ a_ = [(b16, .cells (List.toArray (cScr r)) 33 (0, 0)), (b_c, .cells (List.toArray [.slice A_s n_s c_s, i64 q1, .bool bd]) 101 (0, 0))] ++ L231 ∧ (i ≤ (cntN s (alS s)).toNat) ∧ (0 ≤ q1 ∧ q1 ≤ n_s) ∧ (zs.length = i) ∧ (rI s = (zs ++ (rowsF s ((cntN s (alS s)).toNat - i) (rst q1 bd)).1, (rowsF s ((cntN s (alS s)).toNat - i) (rst q1 bd)).2)) ∧ (r.dat = ({ (termI s).S with Back := zs } : ScrD)) ∧ ownScrR r L231 ∧ Sub [(131, .int .i64 i)] f) (((fun (i : Nat) (q1 : Int) (bd : Bool) (zs : List RowD) => (cntN s (alS s)).toNat - i) (0) (q219) (bad220) ([]))) ?_ ?_
 ·refine ⟨0, q219, bad220, [], ⟨_, _, ⟨_, _, SlD.of ho202⟩, ⟨_, _, SlD.of ho213⟩, _, _, _, _, ⟨(naD (rdN s (rst q40 bad41))).Fg, (naD (rdN s (rst q40 bad41))).Bg, (naD (rdN s (rst q40 bad41))).Bold, (naD (rdN s (rst q40 bad41))).Under, (naD (rdN s (rst q40 bad41))).Turn⟩, _, _, _, _, _, _, ⟨(naD (rdN s (rst q73 bad74))).Fg, (naD (rdN s (rst q73 bad74))).Bg, (naD (rdN s (rst q73 bad74))).Bold, (naD (rdN s (rst q73 bad74))).Under, (naD (rdN s (rst q73 bad74))).Turn⟩, SlD.of ho170, _, ⟨none, 0, 0, []⟩⟩, L226, rfl, rfl, ?_, ?_, ?_, ?_, ?_, (by exact ho227), ⟨rfl, trivial⟩⟩
  · exact Nat.zero_le _
  · omega
  · rfl
  · unfold rI; rw [hcS]; rfl
  · unfold termI; rw [hd0, hd1, hd2, hd3, hd4, hd5, hd6, hd7, hd8, hd9, hd10, hd11, ← bitq1 hf0, ← bitq2 hf0, ← bitq4 hf0, ← bitq8 hf0, ← gtI, ← gM, htI]; rfl
 rintro _ _ f w ⟨i, q1, bd, zs, r, L231, rfl, rfl, p0, p1, p2, p3, p4, ho232, hG⟩ hF hs234
 refine WC.sub _ (hG.app hF) ?_
 clear hG hF
 replace hs234 := St.ungrp1 [_, _] hs234
 have hs235 := ((((hs234.fb b2).fb b18).fb b_c).fb b16)
 have hbl : r.Back.xs.length = i := by have e9 := congrArg (fun d => d.Back.length) p4; have e8 : r.dat.Back.length = r.Back.xs.length := List.length_map _; simp only at e9; omega
 refine WC.r1 hs235 [] rfl (WC.seq (fun K236 hK236 => ?_))
 refine WC.cq rfl (fun h237 qh237 => ?_) (fun h237 qh237 => ?_)
 ·refine WC.skip (hK236 _ _ (WC.seq (fun K238 hK238 => WC.block (WC.rG 10 (hs235.d1.d1.rm L231) ((hs235.fb b_c).d1.rm L231) hs235 (fun _ hs239 => ?_)))))
  refine WG.rn [0, 1, 2, 3] ((hs239.fb b_c).d1.rm L231) [0] rfl rfl (WG.o1 4 rfl rfl ?_)
  replace hs239 := (hs239.fb b_c)
  have hF240 : St _ _ ([(b_c, _)] ++ _) _ := hs239
  refine WL.call rfl rfl rfl (Run.call Tryz.call129 rfl rfl rfl) (k104_ _ _ _ _ _ _ _ _ (hF240.own _ List.mem_cons_self).1 (SlF.st f_s hs239 s_s) (St.sepT hF240 f_s s_s) ?_ ?_ ?_) ?_
  · omega
  · first | assumption | exact OwnF.cap (by assumption) | omega
  · omega
  rintro _ whs245 ⟨q241, bad242, rfl, hs245, hst243, hq244⟩
  replace hs245 := St.lend hF240 hs245
  refine ⟨_, rfl, WL.nil ⟨(hs245.d1.rm L231), WG.o1 5 rfl rfl ?_⟩⟩
  have hF246 : St _ _ ([(b_c, _)] ++ _) _ := hs245
  refine WL.call rfl rfl rfl (Run.call Tryz.call133 rfl rfl rfl) (k108_ _ _ _ _ _ _ _ _ _ (hF246.own _ List.mem_cons_self).1 (SlF.st f_s hs245 s_s) (St.sepT hF246 f_s s_s) ?_ ?_ ?_) ?_
  · omega
  · first | assumption | exact OwnF.cap (by assumption) | omega
  · omega
  rintro _ whs251 ⟨q247, bad248, A252, c253, L254, rfl, hs251, ho255, hst249, hq250⟩
  replace hs251 := St.lend hF246 hs251
  refine ⟨_, rfl, ?_⟩
  replace hs251 := St.assoc (L1 := [_]) hs251
  have hs256 := ((((hs251.fb b2).fb b18).fb b16).fb b_c)
  refine WL.nil ⟨((hs256.d1.rm L254).rm L231), ?_⟩
  refine WG.tk 6 rfl (by kernel_rfl) rfl rfl rfl ((hs256.d1.rm L254).rm L231) (fun w_ hs_ => (Run.build rfl rfl rfl rfl (built_98_0 _ _ _))) ?_
  refine WG.o1 7 rfl rfl (WL.buildSlice hs256 Tryz.runUnderlying31 Tryz.sizeOf98 Tryz.zeroValue98 rfl rfl rfl rfl rfl rfl rfl rfl rfl rfl (fun b257 whs258 hs258 => WL.nil ⟨((hs258.d1.d1.rm L254).rm L231), WG.o1 8 rfl rfl ?_⟩))
  obtain ⟨L259, L260, L261, L262, hs267, ho263, ho264, ho265, ho266⟩ := ownScrR.op hs258 ho232
  have hs268 := (((((hs267.fb b2).fb b18).fb b16).fb b_c).fb b257)
  obtain ⟨L269, L270, hs273, ho271, ho272⟩ := OwnN.open_ (hs268.fr L262) ho266
  have hs274 := (((((hs273.fb b2).fb b18).fb b16).fb b_c).fb b257)
  refine WL.appendG (hs274.fr L269) ho271 (srcF (F := encRowR) (ys := [(⟨SlD.of ho255⟩ : RowR)]) Tryz.underlying31 rfl rfl (hs274.own _ (nthL_mem (i := 0) rfl)).1) Tryz.underlying31 inf98 rfl rfl rfl rfl rfl rfl rfl rfl rfl rfl ?_ (fun A278 c279 L275 whs276 hs276 ho277 => ?_)
  · (try simp only [List.length_append, List.length_singleton]); omega
  replace hs276 := St.back [_, _, _, _, _] hs276
  obtain ⟨L280, hs281, hb282⟩ := Bag.put (x := (⟨SlD.of ho255⟩ : RowR)) ((hs276.fr L254).fr L270) ho272 ho255
  have hs283 := (((((hs281.fb b2).fb b18).fb b16).fb b_c).fb b257)
  obtain ⟨L285, hs284, ho286⟩ := OwnN.fold ((hs283.fr L280).fr L275) ho277 hb282
  have hs287 := (((((hs284.fb b2).fb b18).fb b16).fb b_c).fb b257)
  refine WL.nil ⟨((((hs287.d1.d1.rm L285).rm L259).rm L260).rm L261), WG.rn [9] ((((hs287.d1.d1.rm L285).rm L259).rm L260).rm L261) [] rfl rfl (WG.oK rfl (WL.st tbk hs287 2 rfl rfl (fun _ hs288 => WL.nil ⟨((((hs288.d1.d1.d1.rm L285).rm L259).rm L260).rm L261), WH.dn (hK238 _ _ (WC.region ?_))⟩)))⟩
  refine WL.r 2 hs288 [] rfl (WL.nil (tkN ?_))
  obtain ⟨L290, hs289, ho291⟩ := ownScrR.fl hs288 ho263 ho264 ho265 ho286
  have hs292 := (((((hs289.fb b2).fb b18).fb b16).fb b_c).fb b257)
  replace hs292 := hs292.d1
  have hF293 := (St.grp1 (L1 := L290) [_, _] (((((((hs292.fr L124).fr L134).fb b2).fb b18).fr L290).fb b_c).fb b16))
  refine ⟨sbF rfl, _, hF293, _, ?_, i + 1, q247, bad248, (zs ++ [⟨clN s (rdN s (rst q1 bd)) (rst q241 bad242)⟩]), ⟨r.W, r.H, ⟨r.Main.W, r.Main.H, SlD.of ho263⟩, ⟨r.Alt.W, r.Alt.H, SlD.of ho264⟩, r.OnAlt, r.X, r.Y, r.Wrap, ⟨r.A.Fg, r.A.Bg, r.A.Bold, r.A.Under, r.A.Turn⟩, r.Top, r.Bot, r.NoWrap, r.Hide, r.SaveX, r.SaveY, ⟨r.SaveA.Fg, r.SaveA.Bg, r.SaveA.Bold, r.SaveA.Under, r.SaveA.Turn⟩, SlD.of ho265, r.Limit, SlD.ofN ho286⟩, L290, rfl, rfl, ?_, ?_, ?_, ?_, ?_, (by exact ho291), ⟨rfl, trivial⟩⟩
  · omega
  · omega
  · omega
  · simp only [List.length_append, List.length_singleton]; omega
  · rw [p3, rowsF_step (by omega), ← hst243, ← hst249, List.append_assoc]; rfl
  · have f_W : r.dat.W = (termI s).S.W := by have h9 := congrArg ScrD.W p4; exact h9
    have f_H : r.dat.H = (termI s).S.H := by have h9 := congrArg ScrD.H p4; exact h9
    have f_Main : r.dat.Main = (termI s).S.Main := by have h9 := congrArg ScrD.Main p4; exact h9
    have f_Alt : r.dat.Alt = (termI s).S.Alt := by have h9 := congrArg ScrD.Alt p4; exact h9
    have f_OnAlt : r.dat.OnAlt = (termI s).S.OnAlt := by have h9 := congrArg ScrD.OnAlt p4; exact h9
    have f_X : r.dat.X = (termI s).S.X := by have h9 := congrArg ScrD.X p4; exact h9
    have f_Y : r.dat.Y = (termI s).S.Y := by have h9 := congrArg ScrD.Y p4; exact h9
    have f_Wrap : r.dat.Wrap = (termI s).S.Wrap := by have h9 := congrArg ScrD.Wrap p4; exact h9
    have f_A : r.dat.A = (termI s).S.A := by have h9 := congrArg ScrD.A p4; exact h9
    have f_Top : r.dat.Top = (termI s).S.Top := by have h9 := congrArg ScrD.Top p4; exact h9
    have f_Bot : r.dat.Bot = (termI s).S.Bot := by have h9 := congrArg ScrD.Bot p4; exact h9
    have f_NoWrap : r.dat.NoWrap = (termI s).S.NoWrap := by have h9 := congrArg ScrD.NoWrap p4; exact h9
    have f_Hide : r.dat.Hide = (termI s).S.Hide := by have h9 := congrArg ScrD.Hide p4; exact h9
    have f_SaveX : r.dat.SaveX = (termI s).S.SaveX := by have h9 := congrArg ScrD.SaveX p4; exact h9
    have f_SaveY : r.dat.SaveY = (termI s).S.SaveY := by have h9 := congrArg ScrD.SaveY p4; exact h9
    have f_SaveA : r.dat.SaveA = (termI s).S.SaveA := by have h9 := congrArg ScrD.SaveA p4; exact h9
    have f_Tabs : r.dat.Tabs = (termI s).S.Tabs := by have h9 := congrArg ScrD.Tabs p4; exact h9
    have f_Limit : r.dat.Limit = (termI s).S.Limit := by have h9 := congrArg ScrD.Limit p4; exact h9
    have f_Back : (r.Back.xs ++ [(⟨SlD.of ho255⟩ : RowR)]).map RowR.dat = zs ++ [(⟨clN s (rdN s (rst q1 bd)) (rst q241 bad242)⟩ : RowD)] := by rw [List.map_append, show r.Back.xs.map RowR.dat = zs by have h9 := congrArg ScrD.Back p4; exact h9]; rfl
    exact ScrD.ext' f_W f_H f_Main f_Alt f_OnAlt f_X f_Y f_Wrap f_A f_Top f_Bot f_NoWrap f_Hide f_SaveX f_SaveY f_SaveA f_Tabs f_Limit f_Back
 have hi2 : i = (cntN s (alS s)).toNat := by omega
 have hrI : rI s = (zs, rst q1 bd) := by rw [p3, hi2, Nat.sub_self]; simp [rowsF]
 have hss : r.dat = (termI s).S := by rw [p4]; show _ = ({ (termI s).S with Back := (rI s).1 } : ScrD); rw [hrI]
 have hrr : (rI s).2.isSome = (rst q1 bd).isSome := by rw [hrI]
 refine WC.exit (hK217 _ _ (WC.sr (WL.r 2 hs235 [2, 0] rfl ?_)))
 refine WL.val rfl rfl rfl (Run.build rfl rfl rfl rfl (built_35_0_1 _ _ _ _ _ _ _ _ _ _ _ _ _ _ _ _ _ _ _ _ _ _ _ _ _ _ _ _ _ _ _ _ _ _ _)) (WL.st tbk hs235 3 rfl rfl (fun _ hs294 => WL.nil (WC.ret (retV1 rfl (resV.cellA tbk hs294 3 rfl rfl rfl rfl) ?_))))
 obtain ⟨L295, L296, hs299, ho297, ho298⟩ := ownVpR.op hs294 ho135
 have hs300 := ((((hs299.fb b2).fb b18).fb b_c).fb b16)
 obtain ⟨L301, L302, L303, L304, hs309, ho305, ho306, ho307, ho308⟩ := ownScrR.op hs300 ho232
 have hs310 := ((((hs309.fb b2).fb b18).fb b_c).fb b16)
 obtain ⟨L312, hs311, ho313⟩ := ownTermR.fl hs310 ho297 ho298 ho305 ho306 ho307 ho308
 have hs314 := ((((hs311.fb b2).fb b18).fb b_c).fb b16)
 refine ⟨_, _, ⟨⟨v.State, v.Mark, SlD.of ho297, SlD.of ho298⟩, ⟨r.W, r.H, ⟨r.Main.W, r.Main.H, SlD.of ho305⟩, ⟨r.Alt.W, r.Alt.H, SlD.of ho306⟩, r.OnAlt, r.X, r.Y, r.Wrap, ⟨r.A.Fg, r.A.Bg, r.A.Bold, r.A.Under, r.A.Turn⟩, r.Top, r.Bot, r.NoWrap, r.Hide, r.SaveX, r.SaveY, ⟨r.SaveA.Fg, r.SaveA.Bg, r.SaveA.Bold, r.SaveA.Under, r.SaveA.Turn⟩, SlD.of ho307, r.Limit, SlD.ofN ho308⟩⟩, _, rfl, St.keepP (L1 := L312) ((hs314.fr L312).fb b_c), (by exact ho313), ?_, ?_, by omega⟩
 · unfold termT; rw [if_pos hok]; exact TermD.ext' hvv hss
 · rw [hok, hrr]; rfl
theorem readOk_is {s : List UInt8} {q : Int} {bad : Bool} (hk : (rst q bad).isSome = (okI s && (rI s).2.isSome)) : readOkI s = !((bad || !termFine (termT s)) || !decide (termOut (termT s) = s)) := by
 cases bad with
 | true =>
  have h : (okI s && (rI s).2.isSome) = false := hk.symm
  unfold readOkI; rw [h]; rfl
 | false =>
  have h : (okI s && (rI s).2.isSome) = true := hk.symm
  have h2 : okI s = true := by rw [Bool.and_eq_true] at h; exact h.1
  have e : termT s = termI s := if_pos h2
  unfold readOkI; rw [h, e]
  cases hf : termFine (termI s) with
  | false => rfl
  | true =>
   have e2 : termOut (termI s) = termL (termI s) := if_pos hf
   rw [e2]; simp
theorem readOkI_ok {s : List UInt8} (h : readOkI s = true) : okI s = true := by
 unfold readOkI at h
 simp only [Bool.and_eq_true] at h
 exact h.1.1
theorem k111_ (b : Bool) (k : Int) (w : World) :
    Calls Tryz.prog 192 #[.bool b, i64 k] w fun e w' => e = .returned (.int .i64 (bitI b k)) ∧ St w [] [] w' := by
 refine enter 7 Tryz.func192 rfl Tryz.ntmps192 rfl rfl ?_
 have hs1 := St.init w
 refine WC.r1 hs1 [] rfl (WC.seq (fun K2 hK2 => WC.r1 hs1 [] rfl ?_))
 refine WC.cq rfl (fun h3 qh3 => ?_) (fun h3 qh3 => ?_)
 ·refine WC.r1 hs1 [] rfl (WC.ret (tkR ?_))
  clear hK2
  refine rtv rfl rfl hs1 ?_
  rw [show bitI b k = k from by unfold bitI; rw [h3]; rfl]
 refine WC.skip (hK2 _ _ (WC.r1 hs1 [] rfl (WC.ret (rtv rfl rfl hs1 ?_))))
 rw [show bitI b k = 0 from by unfold bitI; rw [h3]; rfl]
theorem k112_ (t : TermR) (w : World) (f_t : okTermR 549755813888 w t) (hok : termOk t.dat = true) (hsm : smTerm 1048576 t.dat) :
    Calls Tryz.prog 108 #[.agg #[i64 t.P.State, .bool t.P.Mark, .slice t.P.Args.A t.P.Args.n t.P.Args.c, .slice t.P.Part.A t.P.Part.n t.P.Part.c, i64 t.S.W, i64 t.S.H, i64 t.S.Main.W, i64 t.S.Main.H, .slice t.S.Main.Cells.A t.S.Main.Cells.n t.S.Main.Cells.c, i64 t.S.Alt.W, i64 t.S.Alt.H, .slice t.S.Alt.Cells.A t.S.Alt.Cells.n t.S.Alt.Cells.c, .bool t.S.OnAlt, i64 t.S.X, i64 t.S.Y, .bool t.S.Wrap, i64 t.S.A.Fg, i64 t.S.A.Bg, .bool t.S.A.Bold, .bool t.S.A.Under, .bool t.S.A.Turn, i64 t.S.Top, i64 t.S.Bot, .bool t.S.NoWrap, .bool t.S.Hide, i64 t.S.SaveX, i64 t.S.SaveY, i64 t.S.SaveA.Fg, i64 t.S.SaveA.Bg, .bool t.S.SaveA.Bold, .bool t.S.SaveA.Under, .bool t.S.SaveA.Turn, .slice t.S.Tabs.A t.S.Tabs.n t.S.Tabs.c, i64 t.S.Limit, .slice t.S.Back.A t.S.Back.n t.S.Back.c]] w fun e w' => ∃ A c L1, e = .returned (.slice A (termL t.dat).length c) ∧ St w [] L1 w' ∧ OwnF encB 5 (.slice A (termL t.dat).length c) (termL t.dat) L1 := by
 have nb_t_P_Args := f_t.P.Args_n
 have nl_t_P_Args := f_t.P.Args.len
 have nb_t_P_Part := f_t.P.Part_n
 have nl_t_P_Part := f_t.P.Part.len
 have nb_t_S_Main_Cells := f_t.S.Main.Cells_n
 have nl_t_S_Main_Cells := f_t.S.Main.Cells.len
 have nb_t_S_Alt_Cells := f_t.S.Alt.Cells_n
 have nl_t_S_Alt_Cells := f_t.S.Alt.Cells.len
 have nb_t_S_Tabs := f_t.S.Tabs_n
 have nl_t_S_Tabs := f_t.S.Tabs.len
 have nb_t_S_Back := f_t.S.Back_n
 have nl_t_S_Back := f_t.S.Back.sl.len
 have hT0 := termOk_P hok
 obtain ⟨hv1, hv2, hv3⟩ := vpOk_bnd hT0.1
 obtain ⟨hgm, hga⟩ := scrOk_main hT0.2
 obtain ⟨hm1, hm2⟩ := gridOk_cells hgm
 obtain ⟨ha1, ha2⟩ := gridOk_cells hga
 have hh := headL_bnd hok
 have htb := scrOk_tabs hT0.2
 have hrw := scrOk_rows hT0.2
 obtain ⟨_, _, _, _, hb5, hb6⟩ := scrOk_bnd hT0.2
 have hp1 : t.P.Part.xs.length ≤ 1048576 := hsm.1.2
 have hp2 : t.S.Tabs.xs.length ≤ 1048576 := hsm.2.2.2.1
 have hp3 : t.P.Args.xs.length ≤ 8 := hv2
 have hp4 : t.S.Main.Cells.xs.length ≤ 4000 := hm1
 have hp5 : t.S.Alt.Cells.xs.length ≤ 4000 := ha1
 have hp6 : t.S.Back.xs.length ≤ 100 := by have h9 : ((t.S.Back.xs.map RowR.dat).length : Int) ≤ t.S.Limit := hb6; have h8 : t.S.Limit ≤ 100 := hb5.2; rw [List.length_map] at h9; omega
 have q1 := numsL_len (l := headL t.dat) (fun x hx => by have := (hh x hx).2; omega)
 have q2 := numsL_len (l := t.P.Args.xs) (fun x hx => by have := (hv3 x hx).2; omega)
 have q3 := numsL_len (l := partI t.P.Part.xs) (fun x hx => by have := (partI_bnd x hx).2; omega)
 rw [partI_len] at q3
 have q4 := numsL_len (l := t.S.Tabs.xs) (fun x hx => by have := (htb x hx).2; omega)
 have q5 : (cellsB t.S.Main.Cells.xs).length ≤ 15 * t.S.Main.Cells.xs.length := cellsB_len hm1 hm2
 have q6 : (cellsB t.S.Alt.Cells.xs).length ≤ 15 * t.S.Alt.Cells.xs.length := cellsB_len ha1 ha2
 have w1 := varL_len ((t.P.Args.n : Int)).toNat (by omega)
 have w2 := varL_len ((t.P.Part.n : Int)).toNat (by omega)
 have w3 := varL_len ((t.S.Tabs.n : Int)).toNat (by omega)
 have w4 := varL_len ((t.S.Back.n : Int)).toNat (by omega)
 have hhl : (headL t.dat).length = 13 := rfl
 refine enter 127 Tryz.func108 rfl Tryz.ntmps108 rfl rfl ?_
 have hs1 := St.init w
 refine WC.sr (WL.bx hs1 rfl (fun b2 _ hs3 => WL.r 1 hs3 [] rfl (WL.nil (WC.seq (fun K4 hK4 => WC.rH hs3 hs3 (fun _ hs5 => ?_))))))
 refine WH.rn [0, 1, 2, 3] hs5 [0, 0] rfl rfl (WH.all [4, 5] (by kernel_rfl) rfl (WHs.cons (i := 4) rfl ?_ (WHs.cons (i := 5) rfl ?_ WHs.nil)))
 ·refine WL.al hs5 Tryz.zeroValue33 rfl rfl (fun b6 _ hs7 => WL.nil ⟨hs7.d1, WH.o1 5 rfl (WL.al hs7 Tryz.zeroValue25 rfl rfl (fun b8 _ hs9 => WL.nil ⟨hs9.d1.d1, WH.o1 6 rfl (WL.st tbk hs9 1 rfl rfl (fun _ hs10 => WL.nil ⟨hs10.d1.d1, ?_⟩))⟩))⟩)
  refine WH.o1 7 rfl (WL.st tbk hs10 0 rfl rfl (fun _ hs11 => WL.nil ⟨hs11.d1.d1, WH.dn (hK4 _ _ (WC.sq1 hs11 (WQ.r 2 [1] rfl ?_)))⟩))
  refine WQ.call rfl rfl rfl (fun w_ hs_ => (Run.call Tryz.call192 rfl rfl rfl)) (fun w_ hs_ => (k111_ _ _ _).mono fun e_ w_ h_ => ⟨h_.1, (hs_ : St _ _ _ _).call0 h_.2⟩) ?_
  refine WQ.r 2 [1] rfl ?_
  refine WQ.call rfl rfl rfl (fun w_ hs_ => (Run.call Tryz.call192 rfl rfl rfl)) (fun w_ hs_ => (k111_ _ _ _).mono fun e_ w_ h_ => ⟨h_.1, (hs_ : St _ _ _ _).call0 h_.2⟩) ?_
  refine WQ.run tbk 3 [1] rfl ⟨rfl, ?_, trivial⟩ ?_
  · (have e1 : 0 ≤ bitI t.S.OnAlt 1 ∧ bitI t.S.OnAlt 1 ≤ 1 := bitI_bnd (by decide); have e2 : 0 ≤ bitI t.S.Wrap 2 ∧ bitI t.S.Wrap 2 ≤ 2 := bitI_bnd (by decide); have e3 : 0 ≤ bitI t.S.NoWrap 4 ∧ bitI t.S.NoWrap 4 ≤ 4 := bitI_bnd (by decide); have e4 : 0 ≤ bitI t.S.Hide 8 ∧ bitI t.S.Hide 8 ≤ 8 := bitI_bnd (by decide); have e5 : 0 ≤ bitI t.P.Mark 16 ∧ bitI t.P.Mark 16 ≤ 16 := bitI_bnd (by decide); constructor <;> omega)
  refine WQ.call rfl rfl rfl (fun w_ hs_ => (Run.call Tryz.call192 rfl rfl rfl)) (fun w_ hs_ => (k111_ _ _ _).mono fun e_ w_ h_ => ⟨h_.1, (hs_ : St _ _ _ _).call0 h_.2⟩) ?_
  refine WQ.run tbk 3 [1] rfl ⟨rfl, ?_, trivial⟩ ?_
  · (have e1 : 0 ≤ bitI t.S.OnAlt 1 ∧ bitI t.S.OnAlt 1 ≤ 1 := bitI_bnd (by decide); have e2 : 0 ≤ bitI t.S.Wrap 2 ∧ bitI t.S.Wrap 2 ≤ 2 := bitI_bnd (by decide); have e3 : 0 ≤ bitI t.S.NoWrap 4 ∧ bitI t.S.NoWrap 4 ≤ 4 := bitI_bnd (by decide); have e4 : 0 ≤ bitI t.S.Hide 8 ∧ bitI t.S.Hide 8 ≤ 8 := bitI_bnd (by decide); have e5 : 0 ≤ bitI t.P.Mark 16 ∧ bitI t.P.Mark 16 ≤ 16 := bitI_bnd (by decide); constructor <;> omega)
  refine WQ.call rfl rfl rfl (fun w_ hs_ => (Run.call Tryz.call192 rfl rfl rfl)) (fun w_ hs_ => (k111_ _ _ _).mono fun e_ w_ h_ => ⟨h_.1, (hs_ : St _ _ _ _).call0 h_.2⟩) ?_
  refine WQ.run tbk 3 [0] rfl ⟨rfl, ?_, trivial⟩ ?_
  · (have e1 : 0 ≤ bitI t.S.OnAlt 1 ∧ bitI t.S.OnAlt 1 ≤ 1 := bitI_bnd (by decide); have e2 : 0 ≤ bitI t.S.Wrap 2 ∧ bitI t.S.Wrap 2 ≤ 2 := bitI_bnd (by decide); have e3 : 0 ≤ bitI t.S.NoWrap 4 ∧ bitI t.S.NoWrap 4 ≤ 4 := bitI_bnd (by decide); have e4 : 0 ≤ bitI t.S.Hide 8 ∧ bitI t.S.Hide 8 ≤ 8 := bitI_bnd (by decide); have e5 : 0 ≤ bitI t.P.Mark 16 ∧ bitI t.P.Mark 16 ≤ 16 := bitI_bnd (by decide); constructor <;> omega)
  refine WQ.call rfl rfl rfl (fun w_ hs_ => (Run.call Tryz.call192 rfl rfl rfl)) (fun w_ hs_ => (k111_ _ _ _).mono fun e_ w_ h_ => ⟨h_.1, (hs_ : St _ _ _ _).call0 h_.2⟩) ?_
  refine WQ.run tbk 2 [] rfl ⟨?_, trivial⟩ ?_
  · (have e1 : 0 ≤ bitI t.S.OnAlt 1 ∧ bitI t.S.OnAlt 1 ≤ 1 := bitI_bnd (by decide); have e2 : 0 ≤ bitI t.S.Wrap 2 ∧ bitI t.S.Wrap 2 ≤ 2 := bitI_bnd (by decide); have e3 : 0 ≤ bitI t.S.NoWrap 4 ∧ bitI t.S.NoWrap 4 ≤ 4 := bitI_bnd (by decide); have e4 : 0 ≤ bitI t.S.Hide 8 ∧ bitI t.S.Hide 8 ≤ 8 := bitI_bnd (by decide); have e5 : 0 ≤ bitI t.P.Mark 16 ∧ bitI t.P.Mark 16 ≤ 16 := bitI_bnd (by decide); constructor <;> omega)
  refine WQ.nil (fun _ (hs12 : St _ _ _ _) => WC.seq (fun K13 hK13 => WC.rH hs12 hs12 (fun _ hs14 => ?_)))
  refine WH.rn [0, 1, 2, 3, 4, 5, 6, 7, 8, 9, 10, 12, 13, 14, 15, 16, 17, 18, 19, 20, 21, 23, 24, 25, 26] hs14 [1, 1, 1, 1, 1, 1, 1, 1, 1, 1, 1, 0] rfl rfl (WH.o1 11 rfl (WL.cl Tryz.call194 rfl (k94_ _ _ _ _ _ _) ?_))
  rintro _ whs15 ⟨rfl, hs15⟩
  replace hs15 := hs14.call0 hs15
  refine ⟨_, rfl, WL.nil ⟨hs15, WH.o1 22 rfl (WL.cl Tryz.call194 rfl (k94_ _ _ _ _ _ _) ?_)⟩⟩
  rintro _ whs16 ⟨rfl, hs16⟩
  replace hs16 := hs15.call0 hs16
  refine ⟨_, rfl, WL.nil ⟨hs16, WH.o1 27 rfl (WL.buildF (F := encI) hs16 ((headL t.dat)) Tryz.runUnderlying23 Tryz.sizeOf3 Tryz.zeroValue3 rfl rfl rfl rfl rfl rfl rfl rfl rfl rfl rfl rfl (fun A20 c21 L17 whs18 hs18 ho19 => ?_))⟩⟩
  replace hs18 := St.back [_, _, _] hs18
  refine WL.nil ⟨(hs18.rm L17), WH.o1 28 rfl (WL.cl Tryz.call193 rfl (k93_ _ _ _ _ _ _ _ _ (OwnF.nil _ _) (by simp) (SlF.ofOwn ho19 (hs18.ow L17)) sep_nil ?_ ?_) ?_)⟩
  · first | exact fun x hx => (by have := hh x hx; omega) | exact fun x hx => (by have := hv3 x hx; omega) | exact fun x hx => (by have := htb x hx; omega)
  · first | omega | (simp only [List.length_append, List.length_nil, partI_len, List.length_take]; omega)
  rintro _ whs22 ⟨A23, c24, L1_25, rfl, hs22, ho26⟩
  replace hs22 := St.lend (A := []) hs18 hs22
  refine ⟨_, rfl, ?_⟩
  replace hs22 := St.back [_, _, _] hs22
  refine WL.nil ⟨((hs22.rm L1_25).rm L17), WH.rn [29] ((hs22.rm L1_25).rm L17) [] rfl rfl (WH.dn (hK13 _ _ (WC.seq (fun K27 hK27 => WC.rH (hs22.rm L1_25) hs22 (fun _ hs28 => ?_)))))⟩
  refine WH.rn [0, 1, 2, 3, 5, 6] (hs28.rm L1_25) [0, 0] rfl rfl (WH.o1 4 rfl (WL.cl Tryz.call195 rfl (k92_ _ _ _ _ _ ho26 (hs28.ow L1_25) ?_ ?_ ?_) ?_))
  · first | omega | exact hbv.1
  · first | omega | exact hbv.2
  · first | omega | (simp only [List.length_append, List.length_nil, partI_len, List.length_take]; omega)
  rintro _ whs29 ⟨A30, c31, L1_32, rfl, hs29, ho33⟩
  replace hs29 := St.lend (hs28.fr L1_25) hs29
  refine ⟨_, rfl, ?_⟩
  replace hs29 := St.back [_, _, _] hs29
  refine WL.nil ⟨(hs29.rm L1_32), WH.o1 7 rfl (WL.cl Tryz.call193 rfl (k93_ _ _ _ _ _ _ _ _ ho33 (hs29.ow L1_32) (SlF.st0 f_t.P.Args hs29) (St.sep (hs29.fr L1_32) f_t.P.Args) ?_ ?_) ?_)⟩
  · first | exact fun x hx => (by have := hh x hx; omega) | exact fun x hx => (by have := hv3 x hx; omega) | exact fun x hx => (by have := htb x hx; omega)
  · first | omega | (simp only [List.length_append, List.length_nil, partI_len, List.length_take]; omega)
  rintro _ whs34 ⟨A35, c36, L1_37, rfl, hs34, ho38⟩
  replace hs34 := St.lend (hs29.fr L1_32) hs34
  refine ⟨_, rfl, ?_⟩
  replace hs34 := St.back [_, _, _] hs34
  refine WL.nil ⟨(hs34.rm L1_37), WH.rn [8] (hs34.rm L1_37) [] rfl rfl (WH.dn (hK27 _ _ (WC.sr (WL.r 4 hs34 [0] rfl ?_))))⟩
  refine WL.cl Tryz.call195 rfl (k92_ _ _ _ _ _ ho38 (hs34.ow L1_37) ?_ ?_ ?_) ?_
  · first | omega | exact hbv.1
  · first | omega | exact hbv.2
  · first | omega | (simp only [List.length_append, List.length_nil, partI_len, List.length_take]; omega)
  rintro _ whs39 ⟨A40, c41, L1_42, rfl, hs39, ho43⟩
  replace hs39 := St.lend (hs34.fr L1_37) hs39
  refine ⟨_, rfl, ?_⟩
  replace hs39 := St.back [_, _, _] hs39
  refine WL.r 1 hs39 [] rfl (WL.nil (WC.seq (fun K44 hK44 => WC.r1 hs39 [0] rfl (WC.block ?_))))
  refine WC.lO [2, 3, 77, 78] rfl (hs39.fr L1_42) (fun k_ f L_ => ∃ (zs : List UInt8) (i : Nat) (A45 : Option Addr) (c46 : Nat), k_ = t.P.Part.n - i ∧ (i ≤ t.P.Part.n) ∧ (zs = [] ++ numsL (headL t.dat) ++ varL ((t.P.Args.n : Int)).toNat ++ numsL t.P.Args.xs ++ varL ((t.P.Part.n : Int)).toNat ++ numsL (partI (t.P.Part.xs.take i))) ∧ OwnF encB 5 (.slice A45 (zs.length) c46) (zs) L_ ∧ Sub [(6, .slice A45 (zs.length) c46), (79, .int .i64 i)] f) (t.P.Part.n) ?_ ?_
  ·refine ⟨[] ++ numsL (headL t.dat) ++ varL ((t.P.Args.n : Int)).toNat ++ numsL t.P.Args.xs ++ varL ((t.P.Part.n : Int)).toNat, 0, _, _, rfl, ?_, ?_, ho43, ⟨rfl, rfl, trivial⟩⟩
   · exact Nat.zero_le _
   · simp [partI, numsL]
  clear hs39
  rintro _ f w L47 ⟨zs, i, A45, c46, rfl, p0, p1, ho48, hG⟩ hF hs49
  refine WC.sub _ (hG.app hF) ?_
  clear hG hF
  replace hs49 := St.back [_, _, _] hs49
  have hz1 : zs.length ≤ 6000000 := by rw [p1]; have q7 := numsL_len (l := partI (t.P.Part.xs.take i)) (fun x hx => by have := (partI_bnd x hx).2; omega); rw [partI_len] at q7; simp only [List.length_take] at q7; simp only [List.length_append, List.length_nil]; omega
  refine WC.r1 hs49 [] rfl (WC.seq (fun K50 hK50 => ?_))
  refine WC.cq rfl (fun h51 qh51 => ?_) (fun h51 qh51 => ?_)
  ·have hbv : 0 ≤ ((gat encB t.P.Part.xs i).toNat : Int) ∧ ((gat encB t.P.Part.xs i).toNat : Int) ≤ 34359738367 := by have := (gat encB t.P.Part.xs i).toNat_lt; omega
   refine WC.skip (hK50 _ _ (WC.seq (fun K52 hK52 => WC.block (WC.sr ?_))))
   refine WL.val rfl rfl rfl (Run.idxN Tryz.runUnderlying22 Tryz.sizeOf5 rfl rfl rfl ?_ ?_ ?_) ?_
   · exact SlF.some_ (SlF.st0 f_t.P.Part hs49)
   · omega
   · omega
   refine WL.val rfl rfl rfl (Run.load Tryz.isAgg5 rfl rfl (SlF.one1 (SlF.st0 f_t.P.Part hs49) ?_ rfl)) ?_
   · omega
   refine WL.r 1 hs49 [] rfl (WL.nil (WC.region (WL.r 3 hs49 [] rfl (WL.cl Tryz.call195 rfl (k92_ _ _ _ _ _ ho48 (hs49.ow L47) ?_ ?_ ?_) ?_))))
   · first | omega | exact hbv.1
   · first | omega | exact hbv.2
   · first | omega | (simp only [List.length_append, List.length_nil, partI_len, List.length_take]; omega)
   rintro _ whs53 ⟨A54, c55, L1_56, rfl, hs53, ho57⟩
   replace hs53 := St.lend (hs49.fr L47) hs53
   refine ⟨_, rfl, ?_⟩
   replace hs53 := St.back [_, _, _] hs53
   refine WL.r 1 hs53 [] rfl (WL.nil (hK52 _ _ (WC.region (WL.r 2 hs53 [] rfl (WL.nil (tkN ?_))))))
   refine ⟨sbF rfl, _, (hs53.fr L1_56), _, ?_, _, i + 1, _, _, rfl, ?_, ?_, ho57, ⟨rfl, rfl, trivial⟩⟩
   · omega
   · omega
   · rw [p1, partI_take (by omega), numsL_append, numsL_one]; simp only [List.append_assoc]; try rfl
  have hin : i = t.P.Part.n := by omega
  have hz3 : zs = [] ++ numsL (headL t.dat) ++ varL ((t.P.Args.n : Int)).toNat ++ numsL t.P.Args.xs ++ varL ((t.P.Part.n : Int)).toNat ++ numsL (partI t.P.Part.xs) := by rw [p1, hin, List.take_of_length_le (by omega)]
  subst hz3
  refine WC.exit (hK44 _ _ (WC.seq (fun K58 hK58 => WC.rH (hs49.rm L47) hs49 (fun _ hs59 => ?_))))
  refine WH.rn [0, 1, 2, 3, 5, 6] (hs59.rm L47) [1, 1] rfl rfl (WH.o1 4 rfl (WL.cl Tryz.call195 rfl (k92_ _ _ _ _ _ ho48 (hs59.ow L47) ?_ ?_ ?_) ?_))
  · first | omega | exact hbv.1
  · first | omega | exact hbv.2
  · first | omega | (simp only [List.length_append, List.length_nil, partI_len, List.length_take]; omega)
  rintro _ whs60 ⟨A61, c62, L1_63, rfl, hs60, ho64⟩
  replace hs60 := St.lend (hs59.fr L47) hs60
  refine ⟨_, rfl, ?_⟩
  replace hs60 := St.back [_, _, _] hs60
  refine WL.nil ⟨(hs60.rm L1_63), WH.o1 7 rfl (WL.cl Tryz.call193 rfl (k93_ _ _ _ _ _ _ _ _ ho64 (hs60.ow L1_63) (SlF.st0 f_t.S.Tabs hs60) (St.sep (hs60.fr L1_63) f_t.S.Tabs) ?_ ?_) ?_)⟩
  · first | exact fun x hx => (by have := hh x hx; omega) | exact fun x hx => (by have := hv3 x hx; omega) | exact fun x hx => (by have := htb x hx; omega)
  · first | omega | (simp only [List.length_append, List.length_nil, partI_len, List.length_take]; omega)
  rintro _ whs65 ⟨A66, c67, L1_68, rfl, hs65, ho69⟩
  replace hs65 := St.lend (hs60.fr L1_63) hs65
  refine ⟨_, rfl, ?_⟩
  replace hs65 := St.back [_, _, _] hs65
  refine WL.nil ⟨(hs65.rm L1_68), WH.rn [8] (hs65.rm L1_68) [] rfl rfl (WH.dn (hK58 _ _ (WC.seq (fun K70 hK70 => WC.rH (hs65.rm L1_68) hs65 (fun _ hs71 => ?_)))))⟩
  refine WH.rn [0, 1, 2, 3, 5, 6, 7] (hs71.rm L1_68) [1, 1] rfl rfl (WH.o1 4 rfl (WL.cl Tryz.call110 rfl (k95_ _ _ _ _ _ _ _ _ ho69 (hs71.ow L1_68) (SlF.st0 f_t.S.Main.Cells hs71) (St.sep (hs71.fr L1_68) f_t.S.Main.Cells) ?_ ?_ ?_) ?_))
  · omega
  · first | exact hm2 | exact ha2 | exact hrc2
  · first | omega | (simp only [List.length_append, List.length_nil, partI_len, List.length_take]; omega)
  rintro _ whs72 ⟨A73, c74, L1_75, rfl, hs72, ho76⟩
  replace hs72 := St.lend (hs71.fr L1_68) hs72
  refine ⟨_, rfl, ?_⟩
  replace hs72 := St.back [_, _, _] hs72
  refine WL.nil ⟨(hs72.rm L1_75), WH.o1 8 rfl (WL.cl Tryz.call110 rfl (k95_ _ _ _ _ _ _ _ _ ho76 (hs72.ow L1_75) (SlF.st0 f_t.S.Alt.Cells hs72) (St.sep (hs72.fr L1_75) f_t.S.Alt.Cells) ?_ ?_ ?_) ?_)⟩
  · omega
  · first | exact hm2 | exact ha2 | exact hrc2
  · first | omega | (simp only [List.length_append, List.length_nil, partI_len, List.length_take]; omega)
  rintro _ whs77 ⟨A78, c79, L1_80, rfl, hs77, ho81⟩
  replace hs77 := St.lend (hs72.fr L1_75) hs77
  refine ⟨_, rfl, ?_⟩
  replace hs77 := St.back [_, _, _] hs77
  refine WL.nil ⟨(hs77.rm L1_80), WH.rn [9] (hs77.rm L1_80) [] rfl rfl (WH.dn (hK70 _ _ (WC.sr (WL.r 4 hs77 [1] rfl ?_))))⟩
  refine WL.cl Tryz.call195 rfl (k92_ _ _ _ _ _ ho81 (hs77.ow L1_80) ?_ ?_ ?_) ?_
  · first | omega | exact hbv.1
  · first | omega | exact hbv.2
  · first | omega | (simp only [List.length_append, List.length_nil, partI_len, List.length_take]; omega)
  rintro _ whs82 ⟨A83, c84, L1_85, rfl, hs82, ho86⟩
  replace hs82 := St.lend (hs77.fr L1_80) hs82
  refine ⟨_, rfl, ?_⟩
  replace hs82 := St.back [_, _, _] hs82
  refine WL.r 1 hs82 [] rfl (WL.nil (WC.seq (fun K87 hK87 => WC.r1 hs82 [1] rfl (WC.block ?_))))
  refine WC.lO [2, 80, 111, 112] rfl (hs82.fr L1_85) (fun k_ f L_ => ∃ (zs : List UInt8) (i : Nat) (A88 : Option Addr) (c89 : Nat), k_ = t.S.Back.n - i ∧ (i ≤ t.S.Back.n) ∧ (zs = [] ++ numsL (headL t.dat) ++ varL ((t.P.Args.n : Int)).toNat ++ numsL t.P.Args.xs ++ varL ((t.P.Part.n : Int)).toNat ++ numsL (partI t.P.Part.xs) ++ varL ((t.S.Tabs.n : Int)).toNat ++ numsL t.S.Tabs.xs ++ cellsB t.S.Main.Cells.xs ++ cellsB t.S.Alt.Cells.xs ++ varL ((t.S.Back.n : Int)).toNat ++ rowsL ((t.S.Back.xs.take i).map RowR.dat)) ∧ OwnF encB 5 (.slice A88 (zs.length) c89) (zs) L_ ∧ Sub [(6, .slice A88 (zs.length) c89), (113, .int .i64 i)] f) (t.S.Back.n) ?_ ?_
  ·refine ⟨[] ++ numsL (headL t.dat) ++ varL ((t.P.Args.n : Int)).toNat ++ numsL t.P.Args.xs ++ varL ((t.P.Part.n : Int)).toNat ++ numsL (partI t.P.Part.xs) ++ varL ((t.S.Tabs.n : Int)).toNat ++ numsL t.S.Tabs.xs ++ cellsB t.S.Main.Cells.xs ++ cellsB t.S.Alt.Cells.xs ++ varL ((t.S.Back.n : Int)).toNat, 0, _, _, rfl, ?_, ?_, ho86, ⟨rfl, rfl, trivial⟩⟩
   · exact Nat.zero_le _
   · simp [rowsL]
  clear hs82
  rintro _ f w L90 ⟨zs, i, A88, c89, rfl, r0, r1, ho91, hG⟩ hF hs92
  refine WC.sub _ (hG.app hF) ?_
  clear hG hF
  replace hs92 := St.back [_, _, _] hs92
  have hz2 : zs.length ≤ 20000000 := by rw [r1]; have q8 := rowsL_len (b := (t.S.Back.xs.take i).map RowR.dat) (fun r hr => hrw r (by obtain ⟨y, hy, rfl⟩ := List.mem_map.1 hr; exact List.mem_map_of_mem (List.mem_of_mem_take hy))); rw [List.length_map, List.length_take] at q8; simp only [List.length_append, List.length_nil, partI_len]; omega
  refine WC.r1 hs92 [] rfl (WC.seq (fun K93 hK93 => ?_))
  refine WC.cq rfl (fun h94 qh94 => ?_) (fun h94 qh94 => ?_)
  ·have hrk := rowOk_cells (hrw (RowR.dat (gat encRowR t.S.Back.xs i)) (List.mem_map_of_mem (gat_mem (by omega))))
   have hrc1 : (gat encRowR t.S.Back.xs i).Cells.xs.length ≤ 120 := hrk.1
   have hrc2 : cellsOk (gat encRowR t.S.Back.xs i).Cells.xs = true := hrk.2
   have hrn := (SlN.nth f_t.S.Back (show i < t.S.Back.n by omega)).Cells.len
   have w5 := varL_len (((gat encRowR t.S.Back.xs i).Cells.n : Int)).toNat (by omega)
   refine WC.skip (hK93 _ _ (WC.seq (fun K95 hK95 => WC.block (WC.sr ?_))))
   refine WL.val rfl rfl rfl (Run.idxN Tryz.runUnderlying31 Tryz.sizeOf98 rfl rfl rfl ?_ ?_ ?_) ?_
   · exact SlF.some_ (SlF.st0 f_t.S.Back.sl hs92)
   · omega
   · omega
   refine WL.val rfl rfl rfl (Run.loadA Tryz.isAgg98 Tryz.sizeOf98 rfl rfl (SlF.whole (SlF.st0 f_t.S.Back.sl hs92) ?_)) ?_
   · omega
   refine WL.al hs92 Tryz.zeroValue98 rfl rfl (fun b96 _ hs97 => WL.st tbk hs97 0 rfl rfl (fun _ hs98 => WL.nil (WC.rH (hs98.rm L90) hs98 (fun _ hs99 => ?_))))
   refine WH.rn [0, 1, 2, 3, 5, 6] (hs99.rm L90) [0, 0] rfl rfl (WH.o1 4 rfl (WL.cl Tryz.call195 rfl (k92_ _ _ _ _ _ ho91 (hs99.ow L90) ?_ ?_ ?_) ?_))
   · first | omega | exact hbv.1
   · first | omega | exact hbv.2
   · first | omega | (simp only [List.length_append, List.length_nil, partI_len, List.length_take]; omega)
   rintro _ whs100 ⟨A101, c102, L1_103, rfl, hs100, ho104⟩
   replace hs100 := St.lend (hs99.fr L90) hs100
   refine ⟨_, rfl, ?_⟩
   replace hs100 := St.back [_, _, _, _] hs100
   refine WL.nil ⟨(hs100.rm L1_103), WH.o1 7 rfl (WL.cl Tryz.call110 rfl (k95_ _ _ _ _ _ _ _ _ ho104 (hs100.ow L1_103) (SlF.st0 (SlN.nth f_t.S.Back (by omega)).Cells hs100) (St.sep (hs100.fr L1_103) (SlN.nth f_t.S.Back (by omega)).Cells) ?_ ?_ ?_) ?_)⟩
   · omega
   · first | exact hm2 | exact ha2 | exact hrc2
   · first | omega | (simp only [List.length_append, List.length_nil, partI_len, List.length_take]; omega)
   rintro _ whs105 ⟨A106, c107, L1_108, rfl, hs105, ho109⟩
   replace hs105 := St.lend (hs100.fr L1_103) hs105
   refine ⟨_, rfl, ?_⟩
   replace hs105 := St.back [_, _, _, _] hs105
   refine WL.nil ⟨(hs105.rm L1_108), WH.rn [8] (hs105.rm L1_108) [] rfl rfl (WH.dn (hK95 _ _ (WC.region (WL.r 2 hs105 [] rfl (WL.nil (tkN ?_))))))⟩
   replace hs105 := hs105.d1
   refine ⟨sbF rfl, _, (hs105.fr L1_108), _, ?_, _, i + 1, _, _, rfl, ?_, ?_, ho109, ⟨rfl, rfl, trivial⟩⟩
   · omega
   · omega
   · rw [r1, rowsL_take (by omega)]; simp only [List.append_assoc, Int.toNat_natCast, hrn]; try rfl
  refine WC.exit (hK87 _ _ (WC.r1 hs92 [] rfl (WC.ret (retV1 rfl (resV.tmp rfl) ?_))))
  have hx_ := OwnF.eqOf (xs := termL t.dat) ho91 (by rw [r1, List.take_of_length_le (by omega)]; unfold termL; simp only [Int.toNat_natCast, List.append_assoc, List.nil_append]; have e_ : t.dat.S.Back.length = t.S.Back.n := (List.length_map _).trans nl_t_S_Back; rw [e_, ← nl_t_P_Args, ← nl_t_P_Part, ← nl_t_S_Tabs]; rfl)
  rw [← hx_]
  first | exact ⟨_, _, _, rfl, (St.keep1 (hs92.fr L90)), ho91⟩ | exact ⟨A88, c89, _, by rw [OwnF.len_ ho91], (St.keep1 (hs92.fr L90)), by rw [OwnF.len_ ho91]; exact ho91⟩
 refine WL.al hs5 Tryz.zeroValue25 rfl rfl (fun b110 _ hs111 => WL.nil ⟨hs111.d1, WH.o1 4 rfl (WL.al hs111 Tryz.zeroValue33 rfl rfl (fun b112 _ hs113 => WL.nil ⟨hs113.d1.d1, WH.o1 6 rfl (WL.st tbk hs113 0 rfl rfl (fun _ hs114 => WL.nil ⟨hs114.d1.d1, ?_⟩))⟩))⟩)
 refine WH.o1 7 rfl (WL.st tbk hs114 1 rfl rfl (fun _ hs115 => WL.nil ⟨hs115.d1.d1, WH.dn (hK4 _ _ (WC.sq1 hs115 (WQ.r 2 [0] rfl ?_)))⟩))
 refine WQ.call rfl rfl rfl (fun w_ hs_ => (Run.call Tryz.call192 rfl rfl rfl)) (fun w_ hs_ => (k111_ _ _ _).mono fun e_ w_ h_ => ⟨h_.1, (hs_ : St _ _ _ _).call0 h_.2⟩) ?_
 refine WQ.r 2 [0] rfl ?_
 refine WQ.call rfl rfl rfl (fun w_ hs_ => (Run.call Tryz.call192 rfl rfl rfl)) (fun w_ hs_ => (k111_ _ _ _).mono fun e_ w_ h_ => ⟨h_.1, (hs_ : St _ _ _ _).call0 h_.2⟩) ?_
 refine WQ.run tbk 3 [0] rfl ⟨rfl, ?_, trivial⟩ ?_
 · (have e1 : 0 ≤ bitI t.S.OnAlt 1 ∧ bitI t.S.OnAlt 1 ≤ 1 := bitI_bnd (by decide); have e2 : 0 ≤ bitI t.S.Wrap 2 ∧ bitI t.S.Wrap 2 ≤ 2 := bitI_bnd (by decide); have e3 : 0 ≤ bitI t.S.NoWrap 4 ∧ bitI t.S.NoWrap 4 ≤ 4 := bitI_bnd (by decide); have e4 : 0 ≤ bitI t.S.Hide 8 ∧ bitI t.S.Hide 8 ≤ 8 := bitI_bnd (by decide); have e5 : 0 ≤ bitI t.P.Mark 16 ∧ bitI t.P.Mark 16 ≤ 16 := bitI_bnd (by decide); constructor <;> omega)
 refine WQ.call rfl rfl rfl (fun w_ hs_ => (Run.call Tryz.call192 rfl rfl rfl)) (fun w_ hs_ => (k111_ _ _ _).mono fun e_ w_ h_ => ⟨h_.1, (hs_ : St _ _ _ _).call0 h_.2⟩) ?_
 refine WQ.run tbk 3 [0] rfl ⟨rfl, ?_, trivial⟩ ?_
 · (have e1 : 0 ≤ bitI t.S.OnAlt 1 ∧ bitI t.S.OnAlt 1 ≤ 1 := bitI_bnd (by decide); have e2 : 0 ≤ bitI t.S.Wrap 2 ∧ bitI t.S.Wrap 2 ≤ 2 := bitI_bnd (by decide); have e3 : 0 ≤ bitI t.S.NoWrap 4 ∧ bitI t.S.NoWrap 4 ≤ 4 := bitI_bnd (by decide); have e4 : 0 ≤ bitI t.S.Hide 8 ∧ bitI t.S.Hide 8 ≤ 8 := bitI_bnd (by decide); have e5 : 0 ≤ bitI t.P.Mark 16 ∧ bitI t.P.Mark 16 ≤ 16 := bitI_bnd (by decide); constructor <;> omega)
 refine WQ.call rfl rfl rfl (fun w_ hs_ => (Run.call Tryz.call192 rfl rfl rfl)) (fun w_ hs_ => (k111_ _ _ _).mono fun e_ w_ h_ => ⟨h_.1, (hs_ : St _ _ _ _).call0 h_.2⟩) ?_
 refine WQ.run tbk 3 [1] rfl ⟨rfl, ?_, trivial⟩ ?_
 · (have e1 : 0 ≤ bitI t.S.OnAlt 1 ∧ bitI t.S.OnAlt 1 ≤ 1 := bitI_bnd (by decide); have e2 : 0 ≤ bitI t.S.Wrap 2 ∧ bitI t.S.Wrap 2 ≤ 2 := bitI_bnd (by decide); have e3 : 0 ≤ bitI t.S.NoWrap 4 ∧ bitI t.S.NoWrap 4 ≤ 4 := bitI_bnd (by decide); have e4 : 0 ≤ bitI t.S.Hide 8 ∧ bitI t.S.Hide 8 ≤ 8 := bitI_bnd (by decide); have e5 : 0 ≤ bitI t.P.Mark 16 ∧ bitI t.P.Mark 16 ≤ 16 := bitI_bnd (by decide); constructor <;> omega)
 refine WQ.call rfl rfl rfl (fun w_ hs_ => (Run.call Tryz.call192 rfl rfl rfl)) (fun w_ hs_ => (k111_ _ _ _).mono fun e_ w_ h_ => ⟨h_.1, (hs_ : St _ _ _ _).call0 h_.2⟩) ?_
 refine WQ.run tbk 2 [] rfl ⟨?_, trivial⟩ ?_
 · (have e1 : 0 ≤ bitI t.S.OnAlt 1 ∧ bitI t.S.OnAlt 1 ≤ 1 := bitI_bnd (by decide); have e2 : 0 ≤ bitI t.S.Wrap 2 ∧ bitI t.S.Wrap 2 ≤ 2 := bitI_bnd (by decide); have e3 : 0 ≤ bitI t.S.NoWrap 4 ∧ bitI t.S.NoWrap 4 ≤ 4 := bitI_bnd (by decide); have e4 : 0 ≤ bitI t.S.Hide 8 ∧ bitI t.S.Hide 8 ≤ 8 := bitI_bnd (by decide); have e5 : 0 ≤ bitI t.P.Mark 16 ∧ bitI t.P.Mark 16 ≤ 16 := bitI_bnd (by decide); constructor <;> omega)
 refine WQ.nil (fun _ (hs116 : St _ _ _ _) => WC.seq (fun K117 hK117 => WC.rH hs116 hs116 (fun _ hs118 => ?_)))
 refine WH.rn [0, 1, 2, 3, 4, 5, 6, 7, 8, 9, 10, 12, 13, 14, 15, 16, 17, 18, 19, 20, 21, 23, 24, 25, 26] hs118 [0, 0, 0, 0, 0, 0, 0, 0, 0, 0, 0, 1] rfl rfl (WH.o1 11 rfl (WL.cl Tryz.call194 rfl (k94_ _ _ _ _ _ _) ?_))
 rintro _ whs119 ⟨rfl, hs119⟩
 replace hs119 := hs118.call0 hs119
 refine ⟨_, rfl, WL.nil ⟨hs119, WH.o1 22 rfl (WL.cl Tryz.call194 rfl (k94_ _ _ _ _ _ _) ?_)⟩⟩
 rintro _ whs120 ⟨rfl, hs120⟩
 replace hs120 := hs119.call0 hs120
 refine ⟨_, rfl, WL.nil ⟨hs120, WH.o1 27 rfl (WL.buildF (F := encI) hs120 ((headL t.dat)) Tryz.runUnderlying23 Tryz.sizeOf3 Tryz.zeroValue3 rfl rfl rfl rfl rfl rfl rfl rfl rfl rfl rfl rfl (fun A124 c125 L121 whs122 hs122 ho123 => ?_))⟩⟩
 replace hs122 := St.back [_, _, _] hs122
 refine WL.nil ⟨(hs122.rm L121), WH.o1 28 rfl (WL.cl Tryz.call193 rfl (k93_ _ _ _ _ _ _ _ _ (OwnF.nil _ _) (by simp) (SlF.ofOwn ho123 (hs122.ow L121)) sep_nil ?_ ?_) ?_)⟩
 · first | exact fun x hx => (by have := hh x hx; omega) | exact fun x hx => (by have := hv3 x hx; omega) | exact fun x hx => (by have := htb x hx; omega)
 · first | omega | (simp only [List.length_append, List.length_nil, partI_len, List.length_take]; omega)
 rintro _ whs126 ⟨A127, c128, L1_129, rfl, hs126, ho130⟩
 replace hs126 := St.lend (A := []) hs122 hs126
 refine ⟨_, rfl, ?_⟩
 replace hs126 := St.back [_, _, _] hs126
 refine WL.nil ⟨((hs126.rm L1_129).rm L121), WH.rn [29] ((hs126.rm L1_129).rm L121) [] rfl rfl (WH.dn (hK117 _ _ (WC.seq (fun K131 hK131 => WC.rH (hs126.rm L1_129) hs126 (fun _ hs132 => ?_)))))⟩
 refine WH.rn [0, 1, 2, 3, 5, 6] (hs132.rm L1_129) [1, 1] rfl rfl (WH.o1 4 rfl (WL.cl Tryz.call195 rfl (k92_ _ _ _ _ _ ho130 (hs132.ow L1_129) ?_ ?_ ?_) ?_))
 · first | omega | exact hbv.1
 · first | omega | exact hbv.2
 · first | omega | (simp only [List.length_append, List.length_nil, partI_len, List.length_take]; omega)
 rintro _ whs133 ⟨A134, c135, L1_136, rfl, hs133, ho137⟩
 replace hs133 := St.lend (hs132.fr L1_129) hs133
 refine ⟨_, rfl, ?_⟩
 replace hs133 := St.back [_, _, _] hs133
 refine WL.nil ⟨(hs133.rm L1_136), WH.o1 7 rfl (WL.cl Tryz.call193 rfl (k93_ _ _ _ _ _ _ _ _ ho137 (hs133.ow L1_136) (SlF.st0 f_t.P.Args hs133) (St.sep (hs133.fr L1_136) f_t.P.Args) ?_ ?_) ?_)⟩
 · first | exact fun x hx => (by have := hh x hx; omega) | exact fun x hx => (by have := hv3 x hx; omega) | exact fun x hx => (by have := htb x hx; omega)
 · first | omega | (simp only [List.length_append, List.length_nil, partI_len, List.length_take]; omega)
 rintro _ whs138 ⟨A139, c140, L1_141, rfl, hs138, ho142⟩
 replace hs138 := St.lend (hs133.fr L1_136) hs138
 refine ⟨_, rfl, ?_⟩
 replace hs138 := St.back [_, _, _] hs138
 refine WL.nil ⟨(hs138.rm L1_141), WH.rn [8] (hs138.rm L1_141) [] rfl rfl (WH.dn (hK131 _ _ (WC.sr (WL.r 4 hs138 [1] rfl ?_))))⟩
 refine WL.cl Tryz.call195 rfl (k92_ _ _ _ _ _ ho142 (hs138.ow L1_141) ?_ ?_ ?_) ?_
 · first | omega | exact hbv.1
 · first | omega | exact hbv.2
 · first | omega | (simp only [List.length_append, List.length_nil, partI_len, List.length_take]; omega)
 rintro _ whs143 ⟨A144, c145, L1_146, rfl, hs143, ho147⟩
 replace hs143 := St.lend (hs138.fr L1_141) hs143
 refine ⟨_, rfl, ?_⟩
 replace hs143 := St.back [_, _, _] hs143
 refine WL.r 1 hs143 [] rfl (WL.nil (WC.seq (fun K148 hK148 => WC.r1 hs143 [1] rfl (WC.block ?_))))
 refine WC.lO [2, 3, 77, 78] rfl (hs143.fr L1_146) (fun k_ f L_ => ∃ (zs : List UInt8) (i : Nat) (A149 : Option Addr) (c150 : Nat), k_ = t.P.Part.n - i ∧ (i ≤ t.P.Part.n) ∧ (zs = [] ++ numsL (headL t.dat) ++ varL ((t.P.Args.n : Int)).toNat ++ numsL t.P.Args.xs ++ varL ((t.P.Part.n : Int)).toNat ++ numsL (partI (t.P.Part.xs.take i))) ∧ OwnF encB 5 (.slice A149 (zs.length) c150) (zs) L_ ∧ Sub [(6, .slice A149 (zs.length) c150), (79, .int .i64 i)] f) (t.P.Part.n) ?_ ?_
 ·refine ⟨[] ++ numsL (headL t.dat) ++ varL ((t.P.Args.n : Int)).toNat ++ numsL t.P.Args.xs ++ varL ((t.P.Part.n : Int)).toNat, 0, _, _, rfl, ?_, ?_, ho147, ⟨rfl, rfl, trivial⟩⟩
  · exact Nat.zero_le _
  · simp [partI, numsL]
 clear hs143
 rintro _ f w L151 ⟨zs, i, A149, c150, rfl, p0, p1, ho152, hG⟩ hF hs153
 refine WC.sub _ (hG.app hF) ?_
 clear hG hF
 replace hs153 := St.back [_, _, _] hs153
 have hz1 : zs.length ≤ 6000000 := by rw [p1]; have q7 := numsL_len (l := partI (t.P.Part.xs.take i)) (fun x hx => by have := (partI_bnd x hx).2; omega); rw [partI_len] at q7; simp only [List.length_take] at q7; simp only [List.length_append, List.length_nil]; omega
 refine WC.r1 hs153 [] rfl (WC.seq (fun K154 hK154 => ?_))
 refine WC.cq rfl (fun h155 qh155 => ?_) (fun h155 qh155 => ?_)
 ·have hbv : 0 ≤ ((gat encB t.P.Part.xs i).toNat : Int) ∧ ((gat encB t.P.Part.xs i).toNat : Int) ≤ 34359738367 := by have := (gat encB t.P.Part.xs i).toNat_lt; omega
  refine WC.skip (hK154 _ _ (WC.seq (fun K156 hK156 => WC.block (WC.sr ?_))))
  refine WL.val rfl rfl rfl (Run.idxN Tryz.runUnderlying22 Tryz.sizeOf5 rfl rfl rfl ?_ ?_ ?_) ?_
  · exact SlF.some_ (SlF.st0 f_t.P.Part hs153)
  · omega
  · omega
  refine WL.val rfl rfl rfl (Run.load Tryz.isAgg5 rfl rfl (SlF.one1 (SlF.st0 f_t.P.Part hs153) ?_ rfl)) ?_
  · omega
  refine WL.r 1 hs153 [] rfl (WL.nil (WC.region (WL.r 3 hs153 [] rfl (WL.cl Tryz.call195 rfl (k92_ _ _ _ _ _ ho152 (hs153.ow L151) ?_ ?_ ?_) ?_))))
  · first | omega | exact hbv.1
  · first | omega | exact hbv.2
  · first | omega | (simp only [List.length_append, List.length_nil, partI_len, List.length_take]; omega)
  rintro _ whs157 ⟨A158, c159, L1_160, rfl, hs157, ho161⟩
  replace hs157 := St.lend (hs153.fr L151) hs157
  refine ⟨_, rfl, ?_⟩
  replace hs157 := St.back [_, _, _] hs157
  refine WL.r 1 hs157 [] rfl (WL.nil (hK156 _ _ (WC.region (WL.r 2 hs157 [] rfl (WL.nil (tkN ?_))))))
  refine ⟨sbF rfl, _, (hs157.fr L1_160), _, ?_, _, i + 1, _, _, rfl, ?_, ?_, ho161, ⟨rfl, rfl, trivial⟩⟩
  · omega
  · omega
  · rw [p1, partI_take (by omega), numsL_append, numsL_one]; simp only [List.append_assoc]; try rfl
 have hin : i = t.P.Part.n := by omega
 have hz3 : zs = [] ++ numsL (headL t.dat) ++ varL ((t.P.Args.n : Int)).toNat ++ numsL t.P.Args.xs ++ varL ((t.P.Part.n : Int)).toNat ++ numsL (partI t.P.Part.xs) := by rw [p1, hin, List.take_of_length_le (by omega)]
 subst hz3
 refine WC.exit (hK148 _ _ (WC.seq (fun K162 hK162 => WC.rH (hs153.rm L151) hs153 (fun _ hs163 => ?_))))
 refine WH.rn [0, 1, 2, 3, 5, 6] (hs163.rm L151) [0, 0] rfl rfl (WH.o1 4 rfl (WL.cl Tryz.call195 rfl (k92_ _ _ _ _ _ ho152 (hs163.ow L151) ?_ ?_ ?_) ?_))
 · first | omega | exact hbv.1
 · first | omega | exact hbv.2
 · first | omega | (simp only [List.length_append, List.length_nil, partI_len, List.length_take]; omega)
 rintro _ whs164 ⟨A165, c166, L1_167, rfl, hs164, ho168⟩
 replace hs164 := St.lend (hs163.fr L151) hs164
 refine ⟨_, rfl, ?_⟩
 replace hs164 := St.back [_, _, _] hs164
 refine WL.nil ⟨(hs164.rm L1_167), WH.o1 7 rfl (WL.cl Tryz.call193 rfl (k93_ _ _ _ _ _ _ _ _ ho168 (hs164.ow L1_167) (SlF.st0 f_t.S.Tabs hs164) (St.sep (hs164.fr L1_167) f_t.S.Tabs) ?_ ?_) ?_)⟩
 · first | exact fun x hx => (by have := hh x hx; omega) | exact fun x hx => (by have := hv3 x hx; omega) | exact fun x hx => (by have := htb x hx; omega)
 · first | omega | (simp only [List.length_append, List.length_nil, partI_len, List.length_take]; omega)
 rintro _ whs169 ⟨A170, c171, L1_172, rfl, hs169, ho173⟩
 replace hs169 := St.lend (hs164.fr L1_167) hs169
 refine ⟨_, rfl, ?_⟩
 replace hs169 := St.back [_, _, _] hs169
 refine WL.nil ⟨(hs169.rm L1_172), WH.rn [8] (hs169.rm L1_172) [] rfl rfl (WH.dn (hK162 _ _ (WC.seq (fun K174 hK174 => WC.rH (hs169.rm L1_172) hs169 (fun _ hs175 => ?_)))))⟩
 refine WH.rn [0, 1, 2, 3, 5, 6, 7] (hs175.rm L1_172) [0, 0] rfl rfl (WH.o1 4 rfl (WL.cl Tryz.call110 rfl (k95_ _ _ _ _ _ _ _ _ ho173 (hs175.ow L1_172) (SlF.st0 f_t.S.Main.Cells hs175) (St.sep (hs175.fr L1_172) f_t.S.Main.Cells) ?_ ?_ ?_) ?_))
 · omega
 · first | exact hm2 | exact ha2 | exact hrc2
 · first | omega | (simp only [List.length_append, List.length_nil, partI_len, List.length_take]; omega)
 rintro _ whs176 ⟨A177, c178, L1_179, rfl, hs176, ho180⟩
 replace hs176 := St.lend (hs175.fr L1_172) hs176
 refine ⟨_, rfl, ?_⟩
 replace hs176 := St.back [_, _, _] hs176
 refine WL.nil ⟨(hs176.rm L1_179), WH.o1 8 rfl (WL.cl Tryz.call110 rfl (k95_ _ _ _ _ _ _ _ _ ho180 (hs176.ow L1_179) (SlF.st0 f_t.S.Alt.Cells hs176) (St.sep (hs176.fr L1_179) f_t.S.Alt.Cells) ?_ ?_ ?_) ?_)⟩
 · omega
 · first | exact hm2 | exact ha2 | exact hrc2
 · first | omega | (simp only [List.length_append, List.length_nil, partI_len, List.length_take]; omega)
 rintro _ whs181 ⟨A182, c183, L1_184, rfl, hs181, ho185⟩
 replace hs181 := St.lend (hs176.fr L1_179) hs181
 refine ⟨_, rfl, ?_⟩
 replace hs181 := St.back [_, _, _] hs181
 refine WL.nil ⟨(hs181.rm L1_184), WH.rn [9] (hs181.rm L1_184) [] rfl rfl (WH.dn (hK174 _ _ (WC.sr (WL.r 4 hs181 [0] rfl ?_))))⟩
 refine WL.cl Tryz.call195 rfl (k92_ _ _ _ _ _ ho185 (hs181.ow L1_184) ?_ ?_ ?_) ?_
 · first | omega | exact hbv.1
 · first | omega | exact hbv.2
 · first | omega | (simp only [List.length_append, List.length_nil, partI_len, List.length_take]; omega)
 rintro _ whs186 ⟨A187, c188, L1_189, rfl, hs186, ho190⟩
 replace hs186 := St.lend (hs181.fr L1_184) hs186
 refine ⟨_, rfl, ?_⟩
 replace hs186 := St.back [_, _, _] hs186
 refine WL.r 1 hs186 [] rfl (WL.nil (WC.seq (fun K191 hK191 => WC.r1 hs186 [0] rfl (WC.block ?_))))
 refine WC.lO [2, 80, 111, 112] rfl (hs186.fr L1_189) (fun k_ f L_ => ∃ (zs : List UInt8) (i : Nat) (A192 : Option Addr) (c193 : Nat), k_ = t.S.Back.n - i ∧ (i ≤ t.S.Back.n) ∧ (zs = [] ++ numsL (headL t.dat) ++ varL ((t.P.Args.n : Int)).toNat ++ numsL t.P.Args.xs ++ varL ((t.P.Part.n : Int)).toNat ++ numsL (partI t.P.Part.xs) ++ varL ((t.S.Tabs.n : Int)).toNat ++ numsL t.S.Tabs.xs ++ cellsB t.S.Main.Cells.xs ++ cellsB t.S.Alt.Cells.xs ++ varL ((t.S.Back.n : Int)).toNat ++ rowsL ((t.S.Back.xs.take i).map RowR.dat)) ∧ OwnF encB 5 (.slice A192 (zs.length) c193) (zs) L_ ∧ Sub [(6, .slice A192 (zs.length) c193), (113, .int .i64 i)] f) (t.S.Back.n) ?_ ?_
 ·refine ⟨[] ++ numsL (headL t.dat) ++ varL ((t.P.Args.n : Int)).toNat ++ numsL t.P.Args.xs ++ varL ((t.P.Part.n : Int)).toNat ++ numsL (partI t.P.Part.xs) ++ varL ((t.S.Tabs.n : Int)).toNat ++ numsL t.S.Tabs.xs ++ cellsB t.S.Main.Cells.xs ++ cellsB t.S.Alt.Cells.xs ++ varL ((t.S.Back.n : Int)).toNat, 0, _, _, rfl, ?_, ?_, ho190, ⟨rfl, rfl, trivial⟩⟩
  · exact Nat.zero_le _
  · simp [rowsL]
 clear hs186
 rintro _ f w L194 ⟨zs, i, A192, c193, rfl, r0, r1, ho195, hG⟩ hF hs196
 refine WC.sub _ (hG.app hF) ?_
 clear hG hF
 replace hs196 := St.back [_, _, _] hs196
 have hz2 : zs.length ≤ 20000000 := by rw [r1]; have q8 := rowsL_len (b := (t.S.Back.xs.take i).map RowR.dat) (fun r hr => hrw r (by obtain ⟨y, hy, rfl⟩ := List.mem_map.1 hr; exact List.mem_map_of_mem (List.mem_of_mem_take hy))); rw [List.length_map, List.length_take] at q8; simp only [List.length_append, List.length_nil, partI_len]; omega
 refine WC.r1 hs196 [] rfl (WC.seq (fun K197 hK197 => ?_))
 refine WC.cq rfl (fun h198 qh198 => ?_) (fun h198 qh198 => ?_)
 ·have hrk := rowOk_cells (hrw (RowR.dat (gat encRowR t.S.Back.xs i)) (List.mem_map_of_mem (gat_mem (by omega))))
  have hrc1 : (gat encRowR t.S.Back.xs i).Cells.xs.length ≤ 120 := hrk.1
  have hrc2 : cellsOk (gat encRowR t.S.Back.xs i).Cells.xs = true := hrk.2
  have hrn := (SlN.nth f_t.S.Back (show i < t.S.Back.n by omega)).Cells.len
  have w5 := varL_len (((gat encRowR t.S.Back.xs i).Cells.n : Int)).toNat (by omega)
  refine WC.skip (hK197 _ _ (WC.seq (fun K199 hK199 => WC.block (WC.sr ?_))))
  refine WL.val rfl rfl rfl (Run.idxN Tryz.runUnderlying31 Tryz.sizeOf98 rfl rfl rfl ?_ ?_ ?_) ?_
  · exact SlF.some_ (SlF.st0 f_t.S.Back.sl hs196)
  · omega
  · omega
  refine WL.val rfl rfl rfl (Run.loadA Tryz.isAgg98 Tryz.sizeOf98 rfl rfl (SlF.whole (SlF.st0 f_t.S.Back.sl hs196) ?_)) ?_
  · omega
  refine WL.al hs196 Tryz.zeroValue98 rfl rfl (fun b200 _ hs201 => WL.st tbk hs201 0 rfl rfl (fun _ hs202 => WL.nil (WC.rH (hs202.rm L194) hs202 (fun _ hs203 => ?_))))
  refine WH.rn [0, 1, 2, 3, 5, 6] (hs203.rm L194) [0, 0] rfl rfl (WH.o1 4 rfl (WL.cl Tryz.call195 rfl (k92_ _ _ _ _ _ ho195 (hs203.ow L194) ?_ ?_ ?_) ?_))
  · first | omega | exact hbv.1
  · first | omega | exact hbv.2
  · first | omega | (simp only [List.length_append, List.length_nil, partI_len, List.length_take]; omega)
  rintro _ whs204 ⟨A205, c206, L1_207, rfl, hs204, ho208⟩
  replace hs204 := St.lend (hs203.fr L194) hs204
  refine ⟨_, rfl, ?_⟩
  replace hs204 := St.back [_, _, _, _] hs204
  refine WL.nil ⟨(hs204.rm L1_207), WH.o1 7 rfl (WL.cl Tryz.call110 rfl (k95_ _ _ _ _ _ _ _ _ ho208 (hs204.ow L1_207) (SlF.st0 (SlN.nth f_t.S.Back (by omega)).Cells hs204) (St.sep (hs204.fr L1_207) (SlN.nth f_t.S.Back (by omega)).Cells) ?_ ?_ ?_) ?_)⟩
  · omega
  · first | exact hm2 | exact ha2 | exact hrc2
  · first | omega | (simp only [List.length_append, List.length_nil, partI_len, List.length_take]; omega)
  rintro _ whs209 ⟨A210, c211, L1_212, rfl, hs209, ho213⟩
  replace hs209 := St.lend (hs204.fr L1_207) hs209
  refine ⟨_, rfl, ?_⟩
  replace hs209 := St.back [_, _, _, _] hs209
  refine WL.nil ⟨(hs209.rm L1_212), WH.rn [8] (hs209.rm L1_212) [] rfl rfl (WH.dn (hK199 _ _ (WC.region (WL.r 2 hs209 [] rfl (WL.nil (tkN ?_))))))⟩
  replace hs209 := hs209.d1
  refine ⟨sbF rfl, _, (hs209.fr L1_212), _, ?_, _, i + 1, _, _, rfl, ?_, ?_, ho213, ⟨rfl, rfl, trivial⟩⟩
  · omega
  · omega
  · rw [r1, rowsL_take (by omega)]; simp only [List.append_assoc, Int.toNat_natCast, hrn]; try rfl
 refine WC.exit (hK191 _ _ (WC.r1 hs196 [] rfl (WC.ret (retV1 rfl (resV.tmp rfl) ?_))))
 have hx_ := OwnF.eqOf (xs := termL t.dat) ho195 (by rw [r1, List.take_of_length_le (by omega)]; unfold termL; simp only [Int.toNat_natCast, List.append_assoc, List.nil_append]; have e_ : t.dat.S.Back.length = t.S.Back.n := (List.length_map _).trans nl_t_S_Back; rw [e_, ← nl_t_P_Args, ← nl_t_P_Part, ← nl_t_S_Tabs]; rfl)
 rw [← hx_]
 first | exact ⟨_, _, _, rfl, (St.keep1 (hs196.fr L194)), ho195⟩ | exact ⟨A192, c193, _, by rw [OwnF.len_ ho195], (St.keep1 (hs196.fr L194)), by rw [OwnF.len_ ho195]; exact ho195⟩
theorem k113_ (t : TermR) (w : World) (f_t : okTermR 549755813888 w t) (hsm : smTerm 1048576 t.dat) :
    Calls Tryz.prog 36 #[.agg #[i64 t.P.State, .bool t.P.Mark, .slice t.P.Args.A t.P.Args.n t.P.Args.c, .slice t.P.Part.A t.P.Part.n t.P.Part.c, i64 t.S.W, i64 t.S.H, i64 t.S.Main.W, i64 t.S.Main.H, .slice t.S.Main.Cells.A t.S.Main.Cells.n t.S.Main.Cells.c, i64 t.S.Alt.W, i64 t.S.Alt.H, .slice t.S.Alt.Cells.A t.S.Alt.Cells.n t.S.Alt.Cells.c, .bool t.S.OnAlt, i64 t.S.X, i64 t.S.Y, .bool t.S.Wrap, i64 t.S.A.Fg, i64 t.S.A.Bg, .bool t.S.A.Bold, .bool t.S.A.Under, .bool t.S.A.Turn, i64 t.S.Top, i64 t.S.Bot, .bool t.S.NoWrap, .bool t.S.Hide, i64 t.S.SaveX, i64 t.S.SaveY, i64 t.S.SaveA.Fg, i64 t.S.SaveA.Bg, .bool t.S.SaveA.Bold, .bool t.S.SaveA.Under, .bool t.S.SaveA.Turn, .slice t.S.Tabs.A t.S.Tabs.n t.S.Tabs.c, i64 t.S.Limit, .slice t.S.Back.A t.S.Back.n t.S.Back.c]] w fun e w' => ∃ A c L1, e = .returned (.tuple #[.slice A (termOut t.dat).length c, .bool (termFine t.dat)]) ∧ St w [] L1 w' ∧ OwnF encB 5 (.slice A (termOut t.dat).length c) (termOut t.dat) L1 := by
 have nb_t_P_Args := f_t.P.Args_n
 have nl_t_P_Args := f_t.P.Args.len
 have nb_t_P_Part := f_t.P.Part_n
 have nl_t_P_Part := f_t.P.Part.len
 have nb_t_S_Main_Cells := f_t.S.Main.Cells_n
 have nl_t_S_Main_Cells := f_t.S.Main.Cells.len
 have nb_t_S_Alt_Cells := f_t.S.Alt.Cells_n
 have nl_t_S_Alt_Cells := f_t.S.Alt.Cells.len
 have nb_t_S_Tabs := f_t.S.Tabs_n
 have nl_t_S_Tabs := f_t.S.Tabs.len
 have nb_t_S_Back := f_t.S.Back_n
 have nl_t_S_Back := f_t.S.Back.sl.len
 refine enter 14 Tryz.func36 rfl Tryz.ntmps36 rfl rfl ?_
 have hs1 := St.init w
 refine WC.sr (WL.bx hs1 rfl (fun b2 _ hs3 => WL.r 2 hs3 [] rfl (WL.nil (WC.seq (fun K4 hK4 => WC.sr (WL.r 1 hs3 [0] rfl (WL.cl Tryz.call107 rfl (k87_ t _ (okTermR.st0 f_t hs3)) ?_)))))))
 rintro _ whs5 ⟨rfl, hs5⟩
 replace hs5 := hs3.call0 hs5
 refine ⟨_, rfl, WL.r 1 hs5 [] rfl (WL.nil (WC.cq rfl (fun h6 qh6 => ?_) (fun h6 qh6 => ?_)))⟩
 ·have hf : termFine t.dat = false := by unfold termFine; rw [show termOk t.dat = false from by have h9 := h6; simpa using h9]; rfl
  refine WC.r1 hs5 [] rfl (WC.ret (tkR ?_))
  clear hK4
  refine retV2 rfl (resV.tmp rfl) (resV.tmp rfl) ?_
  rw [hf]
  have hx_ := OwnF.eqOf (xs := termOut t.dat) (OwnF.nil encB 5) (by simp [termOut, hf])
  rw [← hx_]
  exact ⟨_, _, _, rfl, hs5.nil, (OwnF.nil encB 5)⟩
 have hok : termOk t.dat = true := by have h9 := h6; simpa using h9
 refine WC.skip (hK4 _ _ (WC.sr (WL.r 1 hs5 [0] rfl ?_)))
 refine WL.cl Tryz.call108 rfl (k112_ t _ (okTermR.st0 f_t hs5) ?_ ?_) ?_
 iterate 2 first | assumption | rfl | omega
 rintro _ whs7 ⟨A8, c9, L1_10, rfl, hs7, ho11⟩
 replace hs7 := hs5.callF hs7
 refine ⟨_, rfl, ?_⟩
 replace hs7 := St.back [_] hs7
 refine WL.r 1 hs7 [] rfl (WL.nil (WC.seq (fun K12 hK12 => WC.r1 hs7 [] rfl ?_)))
 refine WC.cq rfl (fun h13 qh13 => ?_) (fun h13 qh13 => ?_)
 ·have hf : termFine t.dat = false := by unfold termFine; rw [hok, Bool.true_and, decide_eq_false_iff_not]; have h9 := qh13; omega
  refine WC.r1 hs7 [] rfl (WC.ret (tkR ?_))
  clear hK12
  refine retV2 rfl (resV.tmp rfl) (resV.tmp rfl) ?_
  rw [hf]
  have hx_ := OwnF.eqOf (xs := termOut t.dat) (OwnF.nil encB 5) (by simp [termOut, hf])
  rw [← hx_]
  exact ⟨_, _, _, rfl, hs7.nil, (OwnF.nil encB 5)⟩
 have hf : termFine t.dat = true := by unfold termFine; rw [hok, Bool.true_and, decide_eq_true_eq]; have h9 := qh13; omega
 refine WC.skip (hK12 _ _ (WC.r1 hs7 [] rfl (WC.ret (retV2 rfl (resV.tmp rfl) (resV.tmp rfl) ?_))))
 rw [hf]
 have hx_ := OwnF.eqOf (xs := termOut t.dat) ho11 (by unfold termOut; rw [hf]; rfl)
 rw [← hx_]
 first | exact ⟨_, _, _, rfl, (St.keep1 (hs7.fr L1_10)), ho11⟩ | exact ⟨A8, c9, _, by rw [OwnF.len_ ho11], (St.keep1 (hs7.fr L1_10)), by rw [OwnF.len_ ho11]; exact ho11⟩
theorem built_101_0 (x0 : Option Addr) (x1 : Nat) (x2 : Nat) : Tryz.prog.built 101 [(0, .slice x0 x1 x2)] = some (List.toArray [.slice x0 x1 x2, .int .i64 0, .bool false]) := by kernel_rfl
theorem k114_ (A_s : Option Addr) (n_s c_s : Nat) (s : List UInt8) (w : World) (f_s : SlF encB w A_s n_s s) (hc : n_s ≤ c_s) (hn : n_s ≤ 1048576) :
    Calls Tryz.prog 13 #[.slice A_s n_s c_s] w fun e w' => ∃ r L1, e = .returned (.tuple #[.agg #[i64 r.P.State, .bool r.P.Mark, .slice r.P.Args.A r.P.Args.n r.P.Args.c, .slice r.P.Part.A r.P.Part.n r.P.Part.c, i64 r.S.W, i64 r.S.H, i64 r.S.Main.W, i64 r.S.Main.H, .slice r.S.Main.Cells.A r.S.Main.Cells.n r.S.Main.Cells.c, i64 r.S.Alt.W, i64 r.S.Alt.H, .slice r.S.Alt.Cells.A r.S.Alt.Cells.n r.S.Alt.Cells.c, .bool r.S.OnAlt, i64 r.S.X, i64 r.S.Y, .bool r.S.Wrap, i64 r.S.A.Fg, i64 r.S.A.Bg, .bool r.S.A.Bold, .bool r.S.A.Under, .bool r.S.A.Turn, i64 r.S.Top, i64 r.S.Bot, .bool r.S.NoWrap, .bool r.S.Hide, i64 r.S.SaveX, i64 r.S.SaveY, i64 r.S.SaveA.Fg, i64 r.S.SaveA.Bg, .bool r.S.SaveA.Bold, .bool r.S.SaveA.Under, .bool r.S.SaveA.Turn, .slice r.S.Tabs.A r.S.Tabs.n r.S.Tabs.c, i64 r.S.Limit, .slice r.S.Back.A r.S.Back.n r.S.Back.c], .bool (readOkI s)]) ∧ St w [] L1 w' ∧ ownTermR r L1 ∧ r.dat = readRes s := by
 have hl := f_s.len
 refine enter 34 Tryz.func13 rfl Tryz.ntmps13 rfl rfl ?_
 have hs1 := St.init w
 refine WC.sr (WL.al hs1 Tryz.zeroValue35 rfl rfl (fun b2 _ hs3 => WL.r 1 hs3 [] rfl (WL.nil (WC.sr (WL.r 1 hs3 [] rfl ?_)))))
 refine WL.val rfl rfl rfl (Run.build rfl rfl rfl rfl (built_101_0 _ _ _)) (WL.bx hs3 rfl (fun b4 _ hs5 => WL.r 1 hs5 [] rfl (WL.nil (WC.sr (WL.r 1 hs5 [] rfl ?_)))))
 have hF6 : St _ _ ([(b4, _)] ++ _) _ := hs5
 refine WL.call rfl rfl rfl (Run.call Tryz.call55 rfl rfl rfl) (k110_ _ _ _ _ _ _ _ _ (hF6.own _ List.mem_cons_self).1 (SlF.st0 f_s hs5) (St.sep hF6 f_s) ?_ ?_ ?_ ?_ rfl) ?_
 · omega
 · first | assumption | omega
 · omega
 · omega
 rintro _ whs15 ⟨q7, bad8, r9, L10, rfl, hs15, ho11, hd12, hk13, hq14⟩
 replace hs15 := St.lend hF6 hs15
 refine ⟨_, rfl, ?_⟩
 replace hs15 := St.assoc (L1 := [_]) hs15
 have hs16 := ((hs15.fb b2).fb b4)
 have hsmB : smTerm 549755813888 (termT s) := termT_sm (by omega) (by decide)
 have hsmM : smTerm 1048576 r9.dat := by rw [hd12]; exact termT_sm (by omega) (by decide)
 have hkk := readOk_is hk13
 rw [← hd12] at hkk
 have hol := termOut_len r9.dat
 refine WL.al hs16 Tryz.zeroValue35 rfl rfl (fun b17 _ hs18 => WL.st tbk hs18 0 rfl rfl (fun _ hs19 => WL.nil (WC.seq (fun K20 hK20 => WC.sr (WL.r 1 hs19 [0] rfl ?_)))))
 refine WL.cl Tryz.call36 rfl (k113_ r9 _ (ownTermR.ok (B := 549755813888) ho11 (hs19.ow L10) (by rw [hd12]; assumption)) ?_) ?_
 · first | assumption | rfl | omega
 rintro _ whs21 ⟨A22, c23, L1_24, rfl, hs21, ho25⟩
 replace hs21 := hs19.callF hs21
 refine ⟨_, rfl, ?_⟩
 replace hs21 := St.back [_, _, _] hs21
 refine WL.r 5 hs21 [] rfl (WL.nil (WC.sr (WL.r 5 hs21 [1] rfl (WL.pO tbk 2 Acts.nil hs21 [] rfl rfl rfl rfl (fun g_ => trivial) (WL.r 1 hs21 [] rfl ?_)))))
 apply WL.gO 4 Acts.nil hs21 rfl
 ·intro g26 J27
  have qg26 := g26
  try simp only [bf, within_iff, within_not] at qg26
  refine WL.runA tbk 2 (Acts.nil.cons (j := 8) rfl g26) hs21 [] rfl trivial (WL.call (wantF rfl g26) rfl rfl (Run.call Tryz.call56 rfl rfl rfl) (k13_ _ _ _ _ _ _ _ _ _ (SlF.ofOwn ho25 (hs21.ow L1_24)) (SlF.st0 f_s hs21) ?_) ?_)
  · first | assumption | rfl | omega
  rintro _ whs28 ⟨rfl, hs28⟩
  replace hs28 := hs21.call0 hs28
  refine ⟨_, rfl, WL.runA tbk 1 (Acts.nil.cons (j := 8) rfl g26) hs28 [] rfl trivial (WL.eO 4 Acts.nil J27 hs28 g26 rfl rfl)⟩
 intro _ hs29
 refine WL.nil (WC.cq rfl (fun h30 qh30 => ?_) (fun h30 qh30 => ?_))
 ·have hg : readOkI s = false := hkk.trans (by have h9 := h30; rw [h9]; rfl)
  refine WC.sr ?_
  refine WL.val rfl rfl rfl (Run.build rfl rfl rfl rfl (built_35)) (WL.st tbk hs29 2 rfl rfl (fun _ hs31 => WL.r 1 hs31 [] rfl (WL.nil (WC.ret (tkR ?_)))))
  clear hK20
  refine retV2 rfl (resV.cellA tbk hs31 2 rfl rfl rfl rfl) (resV.tmp rfl) ?_
  rw [hg]
  obtain ⟨L39, hs38, ho40⟩ := ownTermR.fl hs31 (OwnF.nil _ _) (OwnF.nil _ _) (OwnF.nil _ _) (OwnF.nil _ _) (OwnF.nil _ _) (OwnN.nil _ _ _)
  have hs41 := (((hs38.fb b2).fb b4).fb b17)
  refine ⟨⟨⟨0, false, ⟨none, 0, 0, []⟩, ⟨none, 0, 0, []⟩⟩, ⟨0, 0, ⟨0, 0, ⟨none, 0, 0, []⟩⟩, ⟨0, 0, ⟨none, 0, 0, []⟩⟩, false, 0, 0, false, ⟨0, 0, false, false, false⟩, 0, 0, false, false, 0, 0, ⟨0, 0, false, false, false⟩, ⟨none, 0, 0, []⟩, 0, ⟨none, 0, 0, []⟩⟩⟩, _, rfl, (St.keep1 (hs41.fr L39)), ?_, ?_⟩
  · exact (by exact ho40)
  · unfold readRes; rw [hg]; rfl
 have hg : readOkI s = true := hkk.trans (by have h9 := h30; rw [h9]; rfl)
 refine WC.skip (hK20 _ _ (WC.sr (WL.r 1 hs29 [0] rfl (WL.st tbk hs29 2 rfl rfl (fun _ hs42 => WL.r 1 hs42 [] rfl (WL.nil (WC.ret ?_)))))))
 refine retV2 rfl (resV.cellA tbk hs42 2 rfl rfl rfl rfl) (resV.tmp rfl) ?_
 rw [hg]
 refine ⟨r9, _, rfl, (St.keep1 (hs42.fr L10)), ?_, ?_⟩
 · exact ho11
 · exact hd12.trans ((if_pos (readOkI_ok hg)).trans (if_pos hg).symm)
theorem termOut_read {t : TermD} (h : termFine t = true) : readOkI (termOut t) = true ∧ readRes (termOut t) = t := by
 have e : termOut t = termL t := if_pos h
 have hok : termOk t = true := by unfold termFine at h; rw [Bool.and_eq_true] at h; exact h.1
 obtain ⟨h1, h2, h3⟩ := decI_back hok
 have hr : readOkI (termL t) = true := by
  unfold readOkI
  rw [h1, h2, h3, h]; simp
 rw [e]
 exact ⟨hr, by unfold readRes; rw [if_pos hr, h2]⟩
theorem termOut_more {t : TermD} (h : termFine t = true) : readOkI (termOut t ++ [0]) = false := by
 have e : termOut t = termL t := if_pos h
 have hok : termOk t = true := by unfold termFine at h; rw [Bool.and_eq_true] at h; exact h.1
 obtain ⟨h1, h2, h3⟩ := decI_backX hok [0]
 rw [e]
 unfold readOkI
 rw [h2]
 have hn : decide (termL t = termL t ++ [0]) = false := by
  rw [decide_eq_false_iff_not]
  intro hh
  have := congrArg List.length hh
  simp at this
 rw [hn, Bool.and_false, Bool.and_false]
theorem cells_again {l : List CellD} (h4 : l.length ≤ 4000) (hc : cellsOk l = true) : cellsFine l = true ∧ cellsRd ([5] ++ cellsOut l) 1 (l.length : Int) = some (l, ((1 + (cellsOut l).length : Nat) : Int)) := by
 have hf : cellsFine l = true := by unfold cellsFine; rw [hc]; simp; try omega
 have e : cellsOut l = cellsB l := cellsOut_ok h4 hc
 refine ⟨hf, ?_⟩
 rw [e]
 exact cellsRd_back (b := [5] ++ cellsB l) (X := []) (p := 1) (by rw [List.append_nil]; rfl) (by rw [List.length_append, List.length_singleton]; omega) hc h4
theorem k115_ (a_Fg : Int) (a_Bg : Int) (a_Bold : Bool) (a_Under : Bool) (a_Turn : Bool) (w : World) :
    Calls Tryz.prog 125 #[.agg #[i64 a_Fg, i64 a_Bg, .bool a_Bold, .bool a_Under, .bool a_Turn]] w fun e w' => e = .returned (.int .i64 (attrNum ⟨a_Fg, a_Bg, a_Bold, a_Under, a_Turn⟩)) ∧ St w [] [] w' := by
 refine enter 27 Tryz.func125 rfl Tryz.ntmps125 rfl rfl ?_
 have hs1 := St.init w
 refine WC.sr (WL.bx hs1 rfl (fun b2 _ hs3 => WL.r 1 hs3 [] rfl (WL.nil (WC.seq (fun K4 hK4 => WC.sr (WL.r 1 hs3 [0] rfl (WL.cl Tryz.call139 rfl (k4_ _ _ _ _ _ _) ?_)))))))
 rintro _ whs5 ⟨rfl, hs5⟩
 replace hs5 := hs3.call0 hs5
 refine ⟨_, rfl, WL.r 1 hs5 [] rfl (WL.nil (WC.cq rfl (fun h6 qh6 => ?_) (fun h6 qh6 => ?_)))⟩
 ·have hok : attrOk a_Fg a_Bg = false := by simpa using qh6
  refine WC.r1 hs5 [] rfl (WC.ret (tkR ?_))
  clear hK4
  refine rtv rfl rfl hs5 ?_
  simp [attrNum, hok]
 have hok : attrOk a_Fg a_Bg = true := by simpa using qh6
 have hok2 := hok
 simp [attrOk, within] at hok2
 refine WC.skip (hK4 _ _ (WC.r1 hs5 [0, 0] rfl (WC.seq (fun K7 hK7 => WC.r1 hs5 [0] rfl ?_))))
 refine WC.cq rfl (fun h8 qh8 => ?_) (fun h8 qh8 => ?_)
 ·refine WC.region (WL.r 3 hs5 [] rfl (WL.nil (hK7 _ _ (WC.seq (fun K9 hK9 => WC.r1 hs5 [0] rfl ?_)))))
  refine WC.cq rfl (fun h10 qh10 => ?_) (fun h10 qh10 => ?_)
  ·refine WC.region (WL.r 3 hs5 [] rfl (WL.nil (hK9 _ _ (WC.seq (fun K11 hK11 => WC.r1 hs5 [0] rfl ?_)))))
   refine WC.cq rfl (fun h12 qh12 => ?_) (fun h12 qh12 => ?_)
   ·refine WC.region (WL.r 3 hs5 [] rfl (WL.nil (hK11 _ _ (WC.r1 hs5 [] rfl (WC.ret (rtv rfl rfl hs5 ?_))))))
    simp_all [attrNum]; omega
   refine WC.skip (hK11 _ _ (WC.r1 hs5 [] rfl (WC.ret (rtv rfl rfl hs5 ?_))))
   simp_all [attrNum]; omega
  refine WC.skip (hK9 _ _ (WC.seq (fun K13 hK13 => WC.r1 hs5 [0] rfl ?_)))
  refine WC.cq rfl (fun h14 qh14 => ?_) (fun h14 qh14 => ?_)
  ·refine WC.region (WL.r 3 hs5 [] rfl (WL.nil (hK13 _ _ (WC.r1 hs5 [] rfl (WC.ret (rtv rfl rfl hs5 ?_))))))
   simp_all [attrNum]; omega
  refine WC.skip (hK13 _ _ (WC.r1 hs5 [] rfl (WC.ret (rtv rfl rfl hs5 ?_))))
  simp_all [attrNum]; omega
 refine WC.skip (hK7 _ _ (WC.seq (fun K15 hK15 => WC.r1 hs5 [0] rfl ?_)))
 refine WC.cq rfl (fun h16 qh16 => ?_) (fun h16 qh16 => ?_)
 ·refine WC.region (WL.r 3 hs5 [] rfl (WL.nil (hK15 _ _ (WC.seq (fun K17 hK17 => WC.r1 hs5 [0] rfl ?_)))))
  refine WC.cq rfl (fun h18 qh18 => ?_) (fun h18 qh18 => ?_)
  ·refine WC.region (WL.r 3 hs5 [] rfl (WL.nil (hK17 _ _ (WC.r1 hs5 [] rfl (WC.ret (rtv rfl rfl hs5 ?_))))))
   simp_all [attrNum]; omega
  refine WC.skip (hK17 _ _ (WC.r1 hs5 [] rfl (WC.ret (rtv rfl rfl hs5 ?_))))
  simp_all [attrNum]; omega
 refine WC.skip (hK15 _ _ (WC.seq (fun K19 hK19 => WC.r1 hs5 [0] rfl ?_)))
 refine WC.cq rfl (fun h20 qh20 => ?_) (fun h20 qh20 => ?_)
 ·refine WC.region (WL.r 3 hs5 [] rfl (WL.nil (hK19 _ _ (WC.r1 hs5 [] rfl (WC.ret (rtv rfl rfl hs5 ?_))))))
  simp_all [attrNum]; omega
 refine WC.skip (hK19 _ _ (WC.r1 hs5 [] rfl (WC.ret (rtv rfl rfl hs5 ?_))))
 simp_all [attrNum]; omega
theorem k116_ (A_l : Option Addr) (n_l c_l : Nat) (l : List CellD) (w : World) (f_l : SlF encCell w A_l n_l l) (hn : n_l ≤ 1099511627776) :
    Calls Tryz.prog 127 #[.slice A_l n_l c_l] w fun e w' => ∃ A c L1, e = .returned (.tuple #[.slice A (cellsOut l).length c, .bool (cellsFine l)]) ∧ St w [] L1 w' ∧ OwnF encB 5 (.slice A (cellsOut l).length c) (cellsOut l) L1 := by
 have hll := f_l.len
 refine enter 61 Tryz.func127 rfl Tryz.ntmps127 rfl rfl ?_
 have hs1 := St.init w
 refine WC.r1 hs1 [] rfl (WC.seq (fun K2 hK2 => WC.r1 hs1 [] rfl ?_))
 refine WC.cD rfl (fun qh3 => ?_) (fun qh3 => ?_)
 ·have hf : cellsFine l = false := by simp [cellsFine]; omega
  refine WC.r1 hs1 [] rfl (WC.ret (tkR ?_))
  clear hK2
  refine retV2 rfl (resV.tmp rfl) (resV.tmp rfl) ?_
  rw [hf]
  have hx_ := OwnF.eqOf (xs := cellsOut l) (OwnF.nil encB 5) (by simp [cellsOut, hf])
  rw [← hx_]
  exact ⟨_, _, _, rfl, hs1.nil, (OwnF.nil encB 5)⟩
 refine WC.skip (hK2 _ _ (WC.sr (WL.buildF (F := encB) hs1 ([]) Tryz.runUnderlying22 Tryz.sizeOf5 Tryz.zeroValue5 rfl rfl rfl rfl rfl rfl rfl rfl rfl rfl rfl rfl (fun A7 c8 L4 whs5 hs5 ho6 => WL.r 1 hs5 [] rfl (WL.nil (WC.r1 hs5 [] rfl (WC.seq (fun K9 hK9 => ?_))))))))
 refine WC.r1 hs5 [] rfl (WC.block (WC.lO [0, 10, 12, 13] rfl hs5 (fun k_ f L_ => ∃ (zs : List UInt8) (i m : Nat) (A10 : Option Addr) (c11 : Nat), k_ = n_l - i ∧ (i ≤ n_l) ∧ (m ≤ i) ∧ (zs.length ≤ 15 * i) ∧ (cellsB l = zs ++ cellsGo m (l.drop i)) ∧ (∀ k, k < i → cellOk (gat encCell l k) = true) ∧ OwnF encB 5 (.slice A10 (zs.length) c11) (zs) L_ ∧ Sub [(4, .slice A10 (zs.length) c11), (14, .int .i64 i), (5, .int .i64 m)] f) (((fun (zs : List UInt8) (i m : Nat) => n_l - i) ([]) (0) (0))) ?_ ?_))
 ·refine ⟨[], 0, 0, _, _, rfl, ?_, ?_, ?_, ?_, ?_, ho6, ⟨rfl, rfl, rfl, trivial⟩⟩
  · exact Nat.zero_le _
  · exact Nat.le_refl _
  · simp
  · rfl
  · exact fun k hk => absurd hk (by omega)
 clear hs5
 rintro _ f w L12 ⟨zs, i, m, A10, c11, rfl, p0, p1, p2, p3, p4, ho13, hG⟩ hF hs14
 refine WC.sub _ (hG.app hF) ?_
 clear hG hF
 refine WC.r1 hs14 [] rfl (WC.seq (fun K15 hK15 => ?_))
 refine WC.cD rfl (fun qh16 => ?_) (fun qh16 => ?_)
 ·refine WC.skip (hK15 _ _ (WC.seq (fun K17 hK17 => WC.block (WC.sr (WL.r 1 hs14 [] rfl ?_)))))
  refine WL.val rfl rfl rfl (Run.idxN Tryz.runUnderlying26 Tryz.sizeOf75 rfl rfl rfl ?_ ?_ ?_) ?_
  · exact SlF.some_ (SlF.st0 f_l hs14)
  · omega
  · omega
  refine WL.val rfl rfl rfl (Run.loadA Tryz.isAgg75 Tryz.sizeOf75 rfl rfl (SlF.whole (SlF.st0 f_l hs14) ?_)) ?_
  · omega
  refine WL.al hs14 Tryz.zeroValue75 rfl rfl (fun b18 _ hs19 => WL.r 1 hs19 [] rfl (WL.st tbk hs19 0 rfl rfl (fun _ hs20 => WL.nil (WC.seq (fun K21 hK21 => WC.sr (WL.r 1 hs20 [0] rfl (WL.cl Tryz.call203 rfl (k6_ _ _ _ _ _ _ _) ?_)))))))
  rintro _ whs22 ⟨rfl, hs22⟩
  replace hs22 := hs20.call0 hs22
  refine ⟨_, rfl, WL.r 1 hs22 [] rfl (WL.nil (WC.cq rfl (fun h23 qh23 => ?_) (fun h23 qh23 => ?_)))⟩
  ·have hf : cellsFine l = false := by simp [cellsFine, cellsOk_not (l := l) (i := i) (by omega) qh23]
   refine WC.r1 hs22 [] rfl (WC.ret (tkR (ibR (tkR (tkR (ibR (tkR ?_)))))))
   clear hK21 hK17 hK9
   refine retV2 rfl (resV.tmp rfl) (resV.tmp rfl) ?_
   rw [hf]
   have hx_ := OwnF.eqOf (xs := cellsOut l) (OwnF.nil encB 5) (by simp [cellsOut, hf])
   rw [← hx_]
   exact ⟨_, _, _, rfl, hs22.nil, (OwnF.nil encB 5)⟩
  have hci : cellOk (gat encCell l i) = true := qh23
  have hcb := cellOk_bounds hci
  have hcx : 0 ≤ attrNum ⟨(gat encCell l i).A.Fg, (gat encCell l i).A.Bg, (gat encCell l i).A.Bold, (gat encCell l i).A.Under, (gat encCell l i).A.Turn⟩ ∧ attrNum ⟨(gat encCell l i).A.Fg, (gat encCell l i).A.Bg, (gat encCell l i).A.Bold, (gat encCell l i).A.Under, (gat encCell l i).A.Turn⟩ ≤ 647 := hcb.2.2.2
  have hvx := varL_len (attrNum ⟨(gat encCell l i).A.Fg, (gat encCell l i).A.Bg, (gat encCell l i).A.Bold, (gat encCell l i).A.Under, (gat encCell l i).A.Turn⟩).toNat (by omega)
  refine WC.skip (hK21 _ _ (WC.r1 hs22 [] rfl (WC.seq (fun K24 hK24 => WC.sq1 hs22 (WQ.r 6 [] rfl ?_)))))
  apply WQ.gA 7 Acts.nil rfl
  ·intro g25 J26
   have qg25 := g25
   try simp only [bf, within_iff, within_not] at qg25
   refine WQ.runA tbk 3 (Acts.nil.cons (j := 5) rfl g25) [] rfl ⟨by omega, trivial⟩ ?_
   refine WQ.val (wantT rfl g25) rfl rfl (fun w_ hs_ => (Run.idxK (i + 1) Tryz.runUnderlying26 Tryz.sizeOf75 rfl rfl rfl ?_ ?_ ?_)) ?_
   · exact SlF.some_ (SlF.st0 f_l (hs_ : St _ _ _ _))
   · omega
   · omega
   refine WQ.val (wantT rfl g25) rfl rfl (fun w_ hs_ => (Run.loadA Tryz.isAgg75 Tryz.sizeOf75 rfl rfl (SlF.whole (SlF.st0 f_l (hs_ : St _ _ _ _)) ?_))) ?_
   · omega
   refine WQ.runA tbk 1 (Acts.nil.cons (j := 5) rfl g25) [0] rfl ⟨rfl, trivial⟩ ?_
   refine WQ.val (wantT rfl g25) rfl rfl (fun w_ hs_ => (Run.eqlA (eq_75 _ _) (by kernel_rfl) rfl rfl rfl)) ?_
   exact WQ.eA 7 Acts.nil J26 g25 rfl rfl
  refine WQ.nil (fun _ (hs27 : St _ _ _ _) => ?_)
  refine WC.cq rfl (fun h28 qh28 => ?_) (fun h28 qh28 => ?_)
  ·have hnx : i + 1 < l.length ∧ gat encCell l (i + 1) = gat encCell l i := by
     try simp only [Bool.and_eq_true, decide_eq_true_eq] at qh28
     exact ⟨by omega, qh28.2⟩
   refine WC.exit (hK17 _ _ (WC.region (WL.r 2 hs27 [] rfl (WL.nil (tkN ?_)))))
   replace hs27 := hs27.d1
   refine ⟨sbF rfl, _, hs27, _, ?_, _, i + 1, (m + 1), _, _, rfl, ?_, ?_, ?_, ?_, ?_, ho13, ⟨rfl, rfl, rfl, trivial⟩⟩
   · omega
   · omega
   · omega
   · first | omega | (simp only [List.length_append]; omega)
   · first | (rw [p3, cellsGo_step (by omega), if_pos hnx]) | (rw [p3, cellsGo_step (by omega), if_neg hnx, runB]; simp only [List.append_assoc]; rfl)
   · intro k hk; rcases Nat.lt_or_ge k i with h_ | h_
     · exact p4 k h_
     · obtain rfl : k = i := by omega
       exact hci
  have hnx : ¬ (i + 1 < l.length ∧ gat encCell l (i + 1) = gat encCell l i) := by
    rintro ⟨ha_, hb_⟩; try simp only [Bool.and_eq_false_imp, decide_eq_true_eq, decide_eq_false_iff_not] at qh28
    exact qh28 (by omega) hb_
  have hv1 := varL_len ((m : Int) + 1).toNat (by omega)
  have hv2 := varL_len (gat encCell l i).R.toNat (by omega)
  have hv3 := varL_len (attrNum (gat encCell l i).A).toNat (by omega)
  refine WC.skip (hK24 _ _ (WC.sr (WL.r 2 hs27 [] rfl ?_)))
  refine WL.cl Tryz.call128 rfl (k98_ _ _ _ _ _ _ (SlF.ofOwn ho13 (hs27.ow L12)) ?_ ?_ ?_) ?_
  · first | omega | exact hcb.1 | exact hcx.1
  · omega
  · first | omega | (simp only [List.length_append]; omega)
  rintro _ whs29 ⟨A30, c31, L1_32, rfl, hs29, ho33⟩
  replace hs29 := hs27.callF hs29
  refine ⟨_, rfl, ?_⟩
  replace hs29 := St.back [_] hs29
  refine WL.r 4 hs29 [] rfl (WL.nil (WC.sr (WL.r 3 hs29 [0] rfl (WL.cl Tryz.call128 rfl (k98_ _ _ _ _ _ _ (SlF.ofOwn ho33 (hs29.ow L1_32)) ?_ ?_ ?_) ?_))))
  · first | omega | exact hcb.1 | exact hcx.1
  · omega
  · first | omega | (simp only [List.length_append]; omega)
  rintro _ whs34 ⟨A35, c36, L1_37, rfl, hs34, ho38⟩
  replace hs34 := hs29.callF hs34
  refine ⟨_, rfl, ?_⟩
  replace hs34 := St.back [_] hs34
  refine WL.r 4 hs34 [] rfl (WL.nil (WC.sr (WL.r 3 hs34 [0] rfl (WL.cl Tryz.call125 rfl (k115_ _ _ _ _ _ _) ?_))))
  rintro _ whs39 ⟨rfl, hs39⟩
  replace hs39 := hs34.call0 hs39
  refine ⟨_, rfl, WL.cl Tryz.call128 rfl (k98_ _ _ _ _ _ _ (SlF.ofOwn ho38 (hs39.ow L1_37)) ?_ ?_ ?_) ?_⟩
  · first | omega | exact hcb.1 | exact hcx.1
  · omega
  · first | omega | (simp only [List.length_append]; omega)
  rintro _ whs40 ⟨A41, c42, L1_43, rfl, hs40, ho44⟩
  replace hs40 := hs39.callF hs40
  refine ⟨_, rfl, ?_⟩
  replace hs40 := St.back [_] hs40
  refine WL.r 4 hs40 [] rfl (WL.nil (WC.region (WL.r 1 hs40 [] rfl (WL.nil (hK17 _ _ (WC.region (WL.r 2 hs40 [] rfl ?_)))))))
  refine WL.nil (tkN ?_)
  replace hs40 := (((hs40.d1.rm L1_37).rm L1_32).rm L12)
  refine ⟨sbF rfl, _, hs40, _, ?_, _, i + 1, 0, _, _, rfl, ?_, ?_, ?_, ?_, ?_, ho44, ⟨rfl, rfl, rfl, trivial⟩⟩
  · omega
  · omega
  · omega
  · first | omega | (simp only [List.length_append]; omega)
  · first | (rw [p3, cellsGo_step (by omega), if_pos hnx]) | (rw [p3, cellsGo_step (by omega), if_neg hnx, runB]; simp only [List.append_assoc]; rfl)
  · intro k hk; rcases Nat.lt_or_ge k i with h_ | h_
    · exact p4 k h_
    · obtain rfl : k = i := by omega
      exact hci
 have hok : cellsOk l = true := cellsOk_all (fun k hk => p4 k (by omega))
 have hf : cellsFine l = true := by simp [cellsFine, hok]; omega
 refine WC.exit (hK9 _ _ (WC.r1 hs14 [] rfl (WC.ret (retV2 rfl (resV.tmp rfl) (resV.tmp rfl) ?_))))
 rw [hf]
 have hx_ := OwnF.eqOf (xs := cellsOut l) ho13 (by simp only [cellsOut, hf, if_true]; rw [p3, List.drop_eq_nil_of_le (by omega)]; simp [cellsGo])
 rw [← hx_]
 first | exact ⟨_, _, _, rfl, (St.keep1 hs14), ho13⟩ | exact ⟨A10, c11, _, by rw [OwnF.len_ ho13], (St.keep1 hs14), by rw [OwnF.len_ ho13]; exact ho13⟩
theorem k117_ (A_l : Option Addr) (n_l c_l : Nat) (l : List Bool) (w : World) (f_l : SlF encT w A_l n_l l) (hn : n_l ≤ 5) :
    Calls Tryz.prog 124 #[.slice A_l n_l c_l] w fun e w' => e = .returned (.int .i64 (flagsL l)) ∧ St w [] [] w' := by
 have hl := f_l.len
 refine enter 21 Tryz.func124 rfl Tryz.ntmps124 rfl rfl ?_
 have hs1 := St.init w
 refine WC.r1 hs1 [] rfl (WC.r1 hs1 [] rfl (WC.seq (fun K2 hK2 => WC.r1 hs1 [] rfl (WC.block ?_))))
 refine WC.lS [0, 2] rfl hs1 (fun k_ f w' => ∃ (i : Nat), k_ = i + i ∧ (i ≤ l.length) ∧ Sub [(4, .int .i64 ((i : Int) - 1)), (3, .int .i64 (flagsL (l.drop i)))] f) ((fun (i : Nat) => i + i) (l.length)) ?_ ?_
 ·refine ⟨l.length, rfl, ?_, ⟨?_, ?_, trivial⟩⟩
  · exact Nat.le_refl _
  · (refine congrArg some (congrArg (Value.int _) ?_); omega)
  · (refine congrArg some (congrArg (Value.int _) ?_); rw [List.drop_length]; rfl)
 clear hs1
 rintro _ f w ⟨i, rfl, p0, hG⟩ hF hs3
 refine WC.sub _ (hG.app hF) ?_
 clear hG hF
 have hfb := flagsL_le (l := l.drop i) (by rw [List.length_drop]; omega)
 refine WC.seq (fun K4 hK4 => WC.r1 hs3 [] rfl ?_)
 refine WC.cq rfl (fun h5 qh5 => ?_) (fun h5 qh5 => ?_)
 ·have hfd : flagsL (l.drop (i - 1)) = flagsL (l.drop i) * 2 + bitI (gat encT l (i - 1)) 1 := by have h9 := flagsL_drop (l := l) (i := i - 1) (by omega); rwa [show i - 1 + 1 = i by omega] at h9
  refine WC.skip (hK4 _ _ (WC.seq (fun K6 hK6 => WC.block (WC.r1 hs3 [] rfl (WC.sr (WL.r 2 hs3 [] rfl ?_))))))
  refine WL.val rfl rfl rfl (Run.idxK (i - 1) Tryz.runUnderlying162 Tryz.sizeOf4 rfl rfl rfl ?_ ?_ ?_) ?_
  · exact SlF.some_ (SlF.st0 f_l hs3)
  · omega
  · omega
  refine WL.val rfl rfl rfl (Run.load Tryz.isAgg4 rfl rfl (SlF.one1 (SlF.st0 f_l hs3) ?_ rfl)) ?_
  · omega
  refine WL.nil (WC.cq rfl (fun h7 qh7 => ?_) (fun h7 qh7 => ?_))
  ·have hb1 : bitI (gat encT l (i - 1)) 1 = 1 := by unfold bitI; rw [h7]; rfl
   refine WC.region (WL.r 3 hs3 [] rfl (WL.nil (hK6 _ _ (WC.region (WL.r 3 hs3 [] rfl (WL.nil (tkN ?_)))))))
   refine ⟨sbF rfl, hs3, _, ?_, i - 1, rfl, ?_, ⟨?_, ?_, trivial⟩⟩
   · omega
   · omega
   · (refine congrArg some (congrArg (Value.int _) ?_); omega)
   · (refine congrArg some (congrArg (Value.int _) ?_); rw [hfd, hb1]; try omega)
  have hb1 : bitI (gat encT l (i - 1)) 1 = 0 := by unfold bitI; rw [h7]; rfl
  refine WC.skip (hK6 _ _ (WC.region (WL.r 3 hs3 [] rfl (WL.nil (tkN ?_)))))
  refine ⟨sbF rfl, hs3, _, ?_, i - 1, rfl, ?_, ⟨?_, ?_, trivial⟩⟩
  · omega
  · omega
  · (refine congrArg some (congrArg (Value.int _) ?_); omega)
  · (refine congrArg some (congrArg (Value.int _) ?_); rw [hfd, hb1]; try omega)
 refine WC.exit (hK2 _ _ (WC.r1 hs3 [] rfl (WC.ret (rtv rfl rfl hs3 ?_))))
 rw [show i = 0 by omega, List.drop_zero]
theorem k118_ (v_b : Value) (b : List UInt8) (L_b : Hp) (A_l : Option Addr) (n_l c_l : Nat) (l : List Int) (w : World) (o_b : OwnF encB 5 v_b b L_b) (h_b : Hh w L_b) (f_l : SlF encI w A_l n_l l) (s_l : 0 < n_l → (adr A_l).block ∉ L_b.map (·.1)) (hl : ∀ x, x ∈ l → 0 ≤ x ∧ x ≤ 4294967295) (hx : b.length + 5 * n_l ≤ 268435400) :
    Calls Tryz.prog 126 #[v_b, .slice A_l n_l c_l] w fun e w' => ∃ A c L1, e = .returned (.slice A (b ++ varL l.length ++ numsL l).length c) ∧ St w (L_b.map (·.1)) L1 w' ∧ OwnF encB 5 (.slice A (b ++ varL l.length ++ numsL l).length c) (b ++ varL l.length ++ numsL l) L1 := by
 obtain ⟨A_b, c_b, rfl⟩ := o_b.shape
 have hll := f_l.len
 have hvl := varL_len ((n_l : Int)).toNat (by omega)
 refine enter 15 Tryz.func126 rfl Tryz.ntmps126 rfl rfl ?_
 have hs1 := St.lent1 w L_b o_b h_b
 refine WC.r1 hs1 [] rfl (WC.sr (WL.r 3 hs1 [] rfl (WL.cl Tryz.call128 rfl (k98_ _ _ _ _ _ _ (SlF.ofOwn o_b (hs1.ow L_b)) ?_ ?_ ?_) ?_)))
 iterate 3 omega
 rintro _ whs2 ⟨A3, c4, L1_5, rfl, hs2, ho6⟩
 replace hs2 := hs1.callF hs2
 refine ⟨_, rfl, WL.r 4 hs2 [] rfl (WL.nil (WC.sr (WL.r 2 hs2 [] rfl (WL.cl Tryz.call123 rfl (k99_ _ _ _ _ _ _ _ _ ho6 (hs2.ow L1_5) (SlF.st f_l hs2 s_l) (St.sepT hs2 f_l s_l) ?_ ?_) ?_))))⟩
 · exact hl
 · (simp only [List.length_append]; omega)
 rintro _ whs7 ⟨A8, c9, L1_10, rfl, hs7, ho11⟩
 replace hs7 := St.lend hs2 hs7
 refine ⟨_, rfl, WL.r 1 hs7 [] rfl (WL.nil (WC.ret (retV1 rfl (resV.tmp rfl) ?_)))⟩
 have hx_ := OwnF.eqOf (xs := b ++ varL l.length ++ numsL l) ho11 (by rw [← hll] at *; first | rfl | simp)
 rw [← hx_]
 first | exact ⟨_, _, _, rfl, (St.keep1 hs7), ho11⟩ | exact ⟨A8, c9, _, by rw [OwnF.len_ ho11], (St.keep1 hs7), by rw [OwnF.len_ ho11]; exact ho11⟩
theorem k119_ (t : TermR) (w : World) (f_t : okTermR 549755813888 w t) (hsm : smTerm 1048576 t.dat) :
    Calls Tryz.prog 54 #[.agg #[i64 t.P.State, .bool t.P.Mark, .slice t.P.Args.A t.P.Args.n t.P.Args.c, .slice t.P.Part.A t.P.Part.n t.P.Part.c, i64 t.S.W, i64 t.S.H, i64 t.S.Main.W, i64 t.S.Main.H, .slice t.S.Main.Cells.A t.S.Main.Cells.n t.S.Main.Cells.c, i64 t.S.Alt.W, i64 t.S.Alt.H, .slice t.S.Alt.Cells.A t.S.Alt.Cells.n t.S.Alt.Cells.c, .bool t.S.OnAlt, i64 t.S.X, i64 t.S.Y, .bool t.S.Wrap, i64 t.S.A.Fg, i64 t.S.A.Bg, .bool t.S.A.Bold, .bool t.S.A.Under, .bool t.S.A.Turn, i64 t.S.Top, i64 t.S.Bot, .bool t.S.NoWrap, .bool t.S.Hide, i64 t.S.SaveX, i64 t.S.SaveY, i64 t.S.SaveA.Fg, i64 t.S.SaveA.Bg, .bool t.S.SaveA.Bold, .bool t.S.SaveA.Under, .bool t.S.SaveA.Turn, .slice t.S.Tabs.A t.S.Tabs.n t.S.Tabs.c, i64 t.S.Limit, .slice t.S.Back.A t.S.Back.n t.S.Back.c]] w fun e w' => ∃ A c L1, e = .returned (.tuple #[.slice A (termOut t.dat).length c, .bool (termFine t.dat)]) ∧ St w [] L1 w' ∧ OwnF encB 5 (.slice A (termOut t.dat).length c) (termOut t.dat) L1 := by
 have nb_t_P_Args := f_t.P.Args_n
 have nl_t_P_Args := f_t.P.Args.len
 have nb_t_P_Part := f_t.P.Part_n
 have nl_t_P_Part := f_t.P.Part.len
 have nb_t_S_Main_Cells := f_t.S.Main.Cells_n
 have nl_t_S_Main_Cells := f_t.S.Main.Cells.len
 have nb_t_S_Alt_Cells := f_t.S.Alt.Cells_n
 have nl_t_S_Alt_Cells := f_t.S.Alt.Cells.len
 have nb_t_S_Tabs := f_t.S.Tabs_n
 have nl_t_S_Tabs := f_t.S.Tabs.len
 have nb_t_S_Back := f_t.S.Back_n
 have nl_t_S_Back := f_t.S.Back.sl.len
 refine enter 147 Tryz.func54 rfl Tryz.ntmps54 rfl rfl ?_
 have hs1 := St.init w
 refine WC.sr (WL.bx hs1 rfl (fun b2 _ hs3 => WL.r 2 hs3 [] rfl (WL.nil (WC.seq (fun K4 hK4 => WC.sr (WL.r 1 hs3 [0] rfl (WL.cl Tryz.call105 rfl (k88_ t _ (okTermR.st0 f_t hs3)) ?_)))))))
 rintro _ whs5 ⟨rfl, hs5⟩
 replace hs5 := hs3.call0 hs5
 refine ⟨_, rfl, WL.r 1 hs5 [] rfl (WL.nil (WC.cq rfl (fun h6 qh6 => ?_) (fun h6 qh6 => ?_)))⟩
 ·have hf : termFine t.dat = false := by unfold termFine; rw [show termOk t.dat = false from by have h9 := h6; simpa using h9]; rfl
  refine WC.r1 hs5 [] rfl (WC.ret (tkR ?_))
  clear hK4
  refine retV2 rfl (resV.tmp rfl) (resV.tmp rfl) ?_
  rw [hf]
  have hx_ := OwnF.eqOf (xs := termOut t.dat) (OwnF.nil encB 5) (by simp [termOut, hf])
  rw [← hx_]
  exact ⟨_, _, _, rfl, hs5.nil, (OwnF.nil encB 5)⟩
 have hok : termOk t.dat = true := by have h9 := h6; simpa using h9
 have hT0 := termOk_P hok
 obtain ⟨hv1, hv2, hv3⟩ := vpOk_bnd hT0.1
 obtain ⟨hgm, hga⟩ := scrOk_main hT0.2
 obtain ⟨hm1, hm2⟩ := gridOk_cells hgm
 obtain ⟨ha1, ha2⟩ := gridOk_cells hga
 have hh := headL_bnd hok
 have htb := scrOk_tabs hT0.2
 have hrw := scrOk_rows hT0.2
 obtain ⟨_, _, _, _, hb5, hb6⟩ := scrOk_bnd hT0.2
 have hp1 : t.P.Part.xs.length ≤ 1048576 := hsm.1.2
 have hp2 : t.S.Tabs.xs.length ≤ 1048576 := hsm.2.2.2.1
 have hp3 : t.P.Args.xs.length ≤ 8 := hv2
 have hp4 : t.S.Main.Cells.xs.length ≤ 4000 := hm1
 have hp5 : t.S.Alt.Cells.xs.length ≤ 4000 := ha1
 have hp6 : t.S.Back.xs.length ≤ 100 := by have h9 : ((t.S.Back.xs.map RowR.dat).length : Int) ≤ t.S.Limit := hb6; have h8 : t.S.Limit ≤ 100 := hb5.2; rw [List.length_map] at h9; omega
 have q1 := numsL_len (l := headL t.dat) (fun x hx => by have := (hh x hx).2; omega)
 have q2 := numsL_len (l := t.P.Args.xs) (fun x hx => by have := (hv3 x hx).2; omega)
 have q3 := numsL_len (l := partI t.P.Part.xs) (fun x hx => by have := (partI_bnd x hx).2; omega)
 rw [partI_len] at q3
 have q4 := numsL_len (l := t.S.Tabs.xs) (fun x hx => by have := (htb x hx).2; omega)
 have q5 : (cellsB t.S.Main.Cells.xs).length ≤ 15 * t.S.Main.Cells.xs.length := cellsB_len hm1 hm2
 have q6 : (cellsB t.S.Alt.Cells.xs).length ≤ 15 * t.S.Alt.Cells.xs.length := cellsB_len ha1 ha2
 have w4 := varL_len ((t.S.Back.n : Int)).toNat (by omega)
 have hhl : (headL t.dat).length = 13 := rfl
 have hhe : [t.S.W, t.S.H, flagsL [t.S.OnAlt, t.S.Wrap, t.S.NoWrap, t.S.Hide, t.P.Mark], t.S.X, t.S.Y, attrNum ⟨t.S.A.Fg, t.S.A.Bg, t.S.A.Bold, t.S.A.Under, t.S.A.Turn⟩, t.S.Top, t.S.Bot, t.S.SaveX, t.S.SaveY, attrNum ⟨t.S.SaveA.Fg, t.S.SaveA.Bg, t.S.SaveA.Bold, t.S.SaveA.Under, t.S.SaveA.Turn⟩, t.S.Limit, t.P.State] = headL t.dat := by rw [flagsL_5]; rfl
 have w1 := varL_len t.P.Args.xs.length (by omega)
 have w2 := varL_len t.P.Part.xs.length (by omega)
 have w3 := varL_len t.S.Tabs.xs.length (by omega)
 have z1 := cellsOut_len t.S.Main.Cells.xs
 have z2 := cellsOut_len t.S.Alt.Cells.xs
 have z5 : (numsL ([t.S.W, t.S.H, flagsL [t.S.OnAlt, t.S.Wrap, t.S.NoWrap, t.S.Hide, t.P.Mark], t.S.X, t.S.Y, attrNum ⟨t.S.A.Fg, t.S.A.Bg, t.S.A.Bold, t.S.A.Under, t.S.A.Turn⟩, t.S.Top, t.S.Bot, t.S.SaveX, t.S.SaveY, attrNum ⟨t.S.SaveA.Fg, t.S.SaveA.Bg, t.S.SaveA.Bold, t.S.SaveA.Under, t.S.SaveA.Turn⟩, t.S.Limit, t.P.State])).length ≤ 65 := by rw [hhe]; omega
 have hcm : cellsOut t.S.Main.Cells.xs = cellsB t.S.Main.Cells.xs := cellsOut_ok hm1 hm2
 have hca : cellsOut t.S.Alt.Cells.xs = cellsB t.S.Alt.Cells.xs := cellsOut_ok ha1 ha2
 refine WC.skip (hK4 _ _ (WC.sr (WL.r 2 hs5 [0] rfl (WL.al hs5 Tryz.zeroValue33 rfl rfl (fun b7 _ hs8 => WL.st tbk hs8 0 rfl rfl (fun _ hs9 => WL.nil (WC.sr ?_)))))))
 refine WL.buildF (F := encI) hs9 ([]) Tryz.runUnderlying23 Tryz.sizeOf3 Tryz.zeroValue3 rfl rfl rfl rfl rfl rfl rfl rfl rfl rfl rfl rfl (fun A13 c14 L10 whs11 hs11 ho12 => ?_)
 replace hs11 := St.back [_, _] hs11
 refine WL.r 1 hs11 [] rfl (WL.nil (WC.seq (fun K15 hK15 => WC.r1 hs11 [1] rfl (WC.block ?_))))
 refine WC.lO [1, 2, 3, 4, 19, 25, 26] rfl (hs11.fr L10) (fun k_ f L_ => ∃ (zs : List Int) (i : Nat) (A16 : Option Addr) (c17 : Nat), k_ = t.P.Part.n - i ∧ (i ≤ t.P.Part.n) ∧ (zs = partI (t.P.Part.xs.take i)) ∧ OwnF encI 3 (.slice A16 (zs.length) c17) (zs) L_ ∧ Sub [(5, .slice A16 (zs.length) c17), (27, .int .i64 i)] f) (t.P.Part.n) ?_ ?_
 ·refine ⟨[], 0, _, _, rfl, ?_, ?_, ho12, ⟨rfl, rfl, trivial⟩⟩
  · exact Nat.zero_le _
  · rfl
 clear hs11
 rintro _ f w L18 ⟨zs, i, A16, c17, rfl, p0, p1, ho19, hG⟩ hF hs20
 refine WC.sub _ (hG.app hF) ?_
 clear hG hF
 replace hs20 := St.back [_, _] hs20
 have hz1 : zs.length ≤ 1048576 := by rw [p1, partI_len, List.length_take]; omega
 refine WC.r1 hs20 [] rfl (WC.seq (fun K21 hK21 => ?_))
 refine WC.cq rfl (fun h22 qh22 => ?_) (fun h22 qh22 => ?_)
 ·refine WC.skip (hK21 _ _ (WC.seq (fun K23 hK23 => WC.block (WC.sr ?_))))
  refine WL.val rfl rfl rfl (Run.idxN Tryz.runUnderlying22 Tryz.sizeOf5 rfl rfl rfl ?_ ?_ ?_) ?_
  · exact SlF.some_ (SlF.st0 f_t.P.Part hs20)
  · omega
  · omega
  refine WL.val rfl rfl rfl (Run.load Tryz.isAgg5 rfl rfl (SlF.one1 (SlF.st0 f_t.P.Part hs20) ?_ rfl)) ?_
  · omega
  refine WL.r 1 hs20 [] rfl (WL.nil (WC.region (WL.r 3 hs20 [] rfl (WL.buildSlice hs20 Tryz.runUnderlying23 Tryz.sizeOf3 Tryz.zeroValue3 rfl rfl rfl rfl rfl rfl rfl rfl rfl rfl (fun b24 whs25 hs25 => ?_)))))
  refine WL.appendG (hs25.fr L18) ho19 (srcI1 Tryz.underlying23 (hs25.own _ (nthL_mem (i := 0) rfl)).1) Tryz.underlying23 inf3 rfl rfl rfl rfl rfl rfl rfl rfl rfl rfl ?_ (fun A29 c30 L26 whs27 hs27 ho28 => ?_)
  · first | omega | (simp only [List.length_append, List.length_nil, List.length_singleton, partI_len]; omega)
  replace hs27 := St.back [_, _, _] hs27
  refine WL.r 1 hs27 [] rfl (WL.nil (hK23 _ _ (WC.region (WL.r 2 hs27 [] rfl (WL.nil (tkN ?_))))))
  replace hs27 := hs27.d1
  refine ⟨sbF rfl, _, (hs27.fr L26), _, ?_, _, i + 1, _, _, rfl, ?_, ?_, ho28, ⟨rfl, rfl, trivial⟩⟩
  · omega
  · omega
  · rw [p1, partI_take (by omega)]
 have hin : i = t.P.Part.n := by omega
 have hz3 : zs = partI t.P.Part.xs := by rw [p1, hin, List.take_of_length_le (by omega)]
 subst hz3
 refine WC.exit (hK15 _ _ (WC.seq (fun K31 hK31 => WC.rH hs20 hs20 (fun _ hs32 => ?_))))
 refine WH.rn [0, 1, 2, 3, 4, 5, 6, 7, 8, 9, 10, 11, 12, 13, 14, 17, 18, 19, 20, 21, 22, 24, 25, 26, 27, 28, 29, 30, 31, 32, 33, 35, 36, 37, 38, 39] hs32 [0, 0, 0, 0, 0, 0, 1, 0, 0, 0, 0, 0, 0, 0, 0, 0, 1] rfl rfl (WH.o1 15 rfl (WL.buildF (F := encT) hs32 ([t.S.OnAlt, t.S.Wrap, t.S.NoWrap, t.S.Hide, t.P.Mark]) Tryz.runUnderlying162 Tryz.sizeOf4 Tryz.zeroValue4 rfl rfl rfl rfl rfl rfl rfl rfl rfl rfl rfl rfl (fun A36 c37 L33 whs34 hs34 ho35 => ?_)))
 replace hs34 := St.back [_, _] hs34
 refine WL.nil ⟨(hs34.rm L33), WH.o1 16 rfl (WL.cl Tryz.call124 rfl (k117_ _ _ _ _ _ (SlF.ofOwn ho35 (hs34.ow L33)) ?_) ?_)⟩
 · first | assumption | rfl | omega | exact Nat.le_refl 5
 rintro _ whs38 ⟨rfl, hs38⟩
 replace hs38 := hs34.call0 hs38
 refine ⟨_, rfl, WL.nil ⟨(hs38.rm L33), WH.o1 23 rfl (WL.cl Tryz.call125 rfl (k115_ _ _ _ _ _ _) ?_)⟩⟩
 rintro _ whs39 ⟨rfl, hs39⟩
 replace hs39 := hs38.call0 hs39
 refine ⟨_, rfl, WL.nil ⟨(hs39.rm L33), WH.o1 34 rfl (WL.cl Tryz.call125 rfl (k115_ _ _ _ _ _ _) ?_)⟩⟩
 rintro _ whs40 ⟨rfl, hs40⟩
 replace hs40 := hs39.call0 hs40
 refine ⟨_, rfl, WL.nil ⟨(hs40.rm L33), WH.o1 40 rfl (WL.buildF (F := encI) hs40 (([t.S.W, t.S.H, flagsL [t.S.OnAlt, t.S.Wrap, t.S.NoWrap, t.S.Hide, t.P.Mark], t.S.X, t.S.Y, attrNum ⟨t.S.A.Fg, t.S.A.Bg, t.S.A.Bold, t.S.A.Under, t.S.A.Turn⟩, t.S.Top, t.S.Bot, t.S.SaveX, t.S.SaveY, attrNum ⟨t.S.SaveA.Fg, t.S.SaveA.Bg, t.S.SaveA.Bold, t.S.SaveA.Under, t.S.SaveA.Turn⟩, t.S.Limit, t.P.State])) Tryz.runUnderlying23 Tryz.sizeOf3 Tryz.zeroValue3 rfl rfl rfl rfl rfl rfl rfl rfl rfl rfl rfl rfl (fun A44 c45 L41 whs42 hs42 ho43 => ?_))⟩⟩
 replace hs42 := St.back [_, _] hs42
 refine WL.nil ⟨((hs42.rm L41).rm L33), WH.o1 41 rfl (WL.cl Tryz.call123 rfl (k99_ _ _ _ _ _ _ _ _ (OwnF.nil _ _) (by simp) (SlF.ofOwn ho43 (hs42.ow L41)) sep_nil ?_ ?_) ?_)⟩
 · first | (exact fun x hx => (by have := hh x (hhe ▸ hx); omega)) | assumption | omega | exact Nat.le_refl 5
 · first | (simp only [List.length_cons, List.length_nil]; omega) | assumption | omega | exact Nat.le_refl 5
 rintro _ whs46 ⟨A47, c48, L1_49, rfl, hs46, ho50⟩
 replace hs46 := St.lend (A := []) hs42 hs46
 refine ⟨_, rfl, ?_⟩
 replace hs46 := St.back [_, _] hs46
 refine WL.nil ⟨(((hs46.rm L1_49).rm L41).rm L33), WH.rn [42] (((hs46.rm L1_49).rm L41).rm L33) [] rfl rfl (WH.dn (hK31 _ _ (WC.sr (WL.r 4 hs46 [1] rfl ?_))))⟩
 refine WL.cl Tryz.call126 rfl (k118_ _ _ _ _ _ _ _ _ ho50 (hs46.ow L1_49) (SlF.st0 f_t.P.Args hs46) (St.sep (hs46.fr L1_49) f_t.P.Args) ?_ ?_) ?_
 · first | exact fun x hx => (by have := hv3 x hx; omega) | exact fun x hx => (by have := partI_bnd x hx; omega) | exact fun x hx => (by have := htb x hx; omega) | assumption | omega | exact Nat.le_refl 5
 · first | omega | (simp only [List.length_append, List.length_nil, partI_len]; omega) | assumption | exact Nat.le_refl 5
 rintro _ whs51 ⟨A52, c53, L1_54, rfl, hs51, ho55⟩
 replace hs51 := St.lend (hs46.fr L1_49) hs51
 refine ⟨_, rfl, ?_⟩
 replace hs51 := St.back [_, _] hs51
 refine WL.r 1 hs51 [] rfl (WL.nil (WC.sr (WL.r 2 hs51 [] rfl (WL.cl Tryz.call126 rfl (k118_ _ _ _ _ _ _ _ _ ho55 (hs51.ow L1_54) (SlF.ofOwn ho19 (hs51.ow L18)) (OwnF.sep (hs51.fr L1_54) (fun p_ hp_ => (List.mem_append_right [_, _] (List.mem_append_right _ (List.mem_append_right _ (List.mem_append_left _ hp_))))) ho19) ?_ ?_) ?_))))
 · first | exact fun x hx => (by have := hv3 x hx; omega) | exact fun x hx => (by have := partI_bnd x hx; omega) | exact fun x hx => (by have := htb x hx; omega) | assumption | omega | exact Nat.le_refl 5
 · first | omega | (simp only [List.length_append, List.length_nil, partI_len]; omega) | assumption | exact Nat.le_refl 5
 rintro _ whs56 ⟨A57, c58, L1_59, rfl, hs56, ho60⟩
 replace hs56 := St.lend (hs51.fr L1_54) hs56
 refine ⟨_, rfl, ?_⟩
 replace hs56 := St.back [_, _] hs56
 refine WL.r 1 hs56 [] rfl (WL.nil (WC.sr (WL.r 3 hs56 [0] rfl (WL.cl Tryz.call126 rfl (k118_ _ _ _ _ _ _ _ _ ho60 (hs56.ow L1_59) (SlF.st0 f_t.S.Tabs hs56) (St.sep (hs56.fr L1_59) f_t.S.Tabs) ?_ ?_) ?_))))
 · first | exact fun x hx => (by have := hv3 x hx; omega) | exact fun x hx => (by have := partI_bnd x hx; omega) | exact fun x hx => (by have := htb x hx; omega) | assumption | omega | exact Nat.le_refl 5
 · first | omega | (simp only [List.length_append, List.length_nil, partI_len]; omega) | assumption | exact Nat.le_refl 5
 rintro _ whs61 ⟨A62, c63, L1_64, rfl, hs61, ho65⟩
 replace hs61 := St.lend (hs56.fr L1_59) hs61
 refine ⟨_, rfl, ?_⟩
 replace hs61 := St.back [_, _] hs61
 refine WL.r 1 hs61 [] rfl (WL.nil (WC.sr (WL.r 3 hs61 [0] rfl (WL.cl Tryz.call127 rfl (k116_ _ _ _ _ _ (SlF.st0 f_t.S.Main.Cells hs61) ?_) ?_))))
 · first | assumption | rfl | omega | exact Nat.le_refl 5
 rintro _ whs66 ⟨A67, c68, L1_69, rfl, hs66, ho70⟩
 replace hs66 := hs61.callF hs66
 refine ⟨_, rfl, ?_⟩
 replace hs66 := St.back [_, _] hs66
 refine WL.r 5 hs66 [] rfl (WL.nil (WC.sr (WL.r 3 hs66 [0] rfl (WL.cl Tryz.call127 rfl (k116_ _ _ _ _ _ (SlF.st0 f_t.S.Alt.Cells hs66) ?_) ?_))))
 · first | assumption | rfl | omega | exact Nat.le_refl 5
 rintro _ whs71 ⟨A72, c73, L1_74, rfl, hs71, ho75⟩
 replace hs71 := hs66.callF hs71
 refine ⟨_, rfl, ?_⟩
 replace hs71 := St.back [_, _] hs71
 refine WL.r 5 hs71 [] rfl (WL.nil (WC.sr (WL.r 2 hs71 [] rfl (WL.appendG (hs71.fr L1_64) ho65 (SlF.src (SlF.ofOwn ho70 (hs71.ow L1_69)) Tryz.underlying22) Tryz.underlying22 inf5 rfl rfl rfl rfl rfl rfl rfl rfl rfl rfl ?_ (fun A79 c80 L76 whs77 hs77 ho78 => ?_)))))
 · first | omega | (simp only [List.length_append, List.length_nil, List.length_singleton, partI_len]; omega)
 replace hs77 := St.back [_, _] hs77
 refine WL.r 1 hs77 [] rfl (WL.appendG (hs77.fr L76) ho78 (SlF.src (SlF.ofOwn ho75 (hs77.ow L1_74)) Tryz.underlying22) Tryz.underlying22 inf5 rfl rfl rfl rfl rfl rfl rfl rfl rfl rfl ?_ (fun A84 c85 L81 whs82 hs82 ho83 => ?_))
 · first | omega | (simp only [List.length_append, List.length_nil, List.length_singleton, partI_len]; omega)
 replace hs82 := St.back [_, _] hs82
 refine WL.r 1 hs82 [] rfl (WL.nil (WC.sr (WL.r 4 hs82 [0] rfl (WL.cl Tryz.call128 rfl (k98_ _ _ _ _ _ _ (SlF.ofOwn ho83 (hs82.ow L81)) ?_ ?_ ?_) ?_))))
 iterate 2 first | omega | assumption | exact Nat.le_refl 5
 · first | omega | (simp only [List.length_append, List.length_nil, partI_len, List.length_take]; omega) | assumption | exact Nat.le_refl 5
 rintro _ whs86 ⟨A87, c88, L1_89, rfl, hs86, ho90⟩
 replace hs86 := hs82.callF hs86
 refine ⟨_, rfl, ?_⟩
 replace hs86 := St.back [_, _] hs86
 refine WL.r 4 hs86 [] rfl (WL.nil (WC.seq (fun K91 hK91 => WC.r1 hs86 [0] rfl (WC.block ?_))))
 refine WC.lO [2, 3, 19, 28, 119, 120] rfl (hs86.fr L1_89) (fun k_ f L_ => ∃ (zs : List UInt8) (i : Nat) (A92 : Option Addr) (c93 : Nat), k_ = t.S.Back.n - i ∧ (i ≤ t.S.Back.n) ∧ (zs = [] ++ numsL ([t.S.W, t.S.H, flagsL [t.S.OnAlt, t.S.Wrap, t.S.NoWrap, t.S.Hide, t.P.Mark], t.S.X, t.S.Y, attrNum ⟨t.S.A.Fg, t.S.A.Bg, t.S.A.Bold, t.S.A.Under, t.S.A.Turn⟩, t.S.Top, t.S.Bot, t.S.SaveX, t.S.SaveY, attrNum ⟨t.S.SaveA.Fg, t.S.SaveA.Bg, t.S.SaveA.Bold, t.S.SaveA.Under, t.S.SaveA.Turn⟩, t.S.Limit, t.P.State]) ++ varL t.P.Args.xs.length ++ numsL t.P.Args.xs ++ varL (partI t.P.Part.xs).length ++ numsL (partI t.P.Part.xs) ++ varL t.S.Tabs.xs.length ++ numsL t.S.Tabs.xs ++ cellsOut t.S.Main.Cells.xs ++ cellsOut t.S.Alt.Cells.xs ++ varL ((t.S.Back.n : Int)).toNat ++ rowsL ((t.S.Back.xs.take i).map RowR.dat)) ∧ OwnF encB 5 (.slice A92 (zs.length) c93) (zs) L_ ∧ Sub [(8, .slice A92 (zs.length) c93), (121, .int .i64 i)] f) (t.S.Back.n) ?_ ?_
 ·refine ⟨[] ++ numsL ([t.S.W, t.S.H, flagsL [t.S.OnAlt, t.S.Wrap, t.S.NoWrap, t.S.Hide, t.P.Mark], t.S.X, t.S.Y, attrNum ⟨t.S.A.Fg, t.S.A.Bg, t.S.A.Bold, t.S.A.Under, t.S.A.Turn⟩, t.S.Top, t.S.Bot, t.S.SaveX, t.S.SaveY, attrNum ⟨t.S.SaveA.Fg, t.S.SaveA.Bg, t.S.SaveA.Bold, t.S.SaveA.Under, t.S.SaveA.Turn⟩, t.S.Limit, t.P.State]) ++ varL t.P.Args.xs.length ++ numsL t.P.Args.xs ++ varL (partI t.P.Part.xs).length ++ numsL (partI t.P.Part.xs) ++ varL t.S.Tabs.xs.length ++ numsL t.S.Tabs.xs ++ cellsOut t.S.Main.Cells.xs ++ cellsOut t.S.Alt.Cells.xs ++ varL ((t.S.Back.n : Int)).toNat, 0, _, _, rfl, ?_, ?_, ho90, ⟨rfl, rfl, trivial⟩⟩
  · exact Nat.zero_le _
  · simp [rowsL]
 clear hs86
 rintro _ f w L94 ⟨zs, i, A92, c93, rfl, r0, r1, ho95, hG⟩ hF hs96
 refine WC.sub _ (hG.app hF) ?_
 clear hG hF
 replace hs96 := St.back [_, _] hs96
 have hz2 : zs.length ≤ 20000000 := by rw [r1]; have q8 := rowsL_len (b := (t.S.Back.xs.take i).map RowR.dat) (fun r hr => hrw r (by obtain ⟨y, hy, rfl⟩ := List.mem_map.1 hr; exact List.mem_map_of_mem (List.mem_of_mem_take hy))); rw [List.length_map, List.length_take] at q8; rw [hhe]; simp only [List.length_append, List.length_nil, partI_len]; omega
 refine WC.r1 hs96 [] rfl (WC.seq (fun K97 hK97 => ?_))
 refine WC.cq rfl (fun h98 qh98 => ?_) (fun h98 qh98 => ?_)
 ·have hrk := rowOk_cells (hrw (RowR.dat (gat encRowR t.S.Back.xs i)) (List.mem_map_of_mem (gat_mem (by omega))))
  have hrc1 : (gat encRowR t.S.Back.xs i).Cells.xs.length ≤ 120 := hrk.1
  have hrn := (SlN.nth f_t.S.Back (show i < t.S.Back.n by omega)).Cells.len
  have hco : cellsOut (gat encRowR t.S.Back.xs i).Cells.xs = cellsB (gat encRowR t.S.Back.xs i).Cells.xs := cellsOut_ok (by omega) hrk.2
  have w5 := varL_len (((gat encRowR t.S.Back.xs i).Cells.n : Int)).toNat (by omega)
  have z6 := cellsOut_len (gat encRowR t.S.Back.xs i).Cells.xs
  refine WC.skip (hK97 _ _ (WC.seq (fun K99 hK99 => WC.block (WC.sr ?_))))
  refine WL.val rfl rfl rfl (Run.idxN Tryz.runUnderlying31 Tryz.sizeOf98 rfl rfl rfl ?_ ?_ ?_) ?_
  · exact SlF.some_ (SlF.st0 f_t.S.Back.sl hs96)
  · omega
  · omega
  refine WL.val rfl rfl rfl (Run.loadA Tryz.isAgg98 Tryz.sizeOf98 rfl rfl (SlF.whole (SlF.st0 f_t.S.Back.sl hs96) ?_)) ?_
  · omega
  refine WL.al hs96 Tryz.zeroValue98 rfl rfl (fun b100 _ hs101 => WL.st tbk hs101 0 rfl rfl (fun _ hs102 => WL.nil (WC.sr (WL.r 2 hs102 [0] rfl ?_))))
  refine WL.cl Tryz.call127 rfl (k116_ _ _ _ _ _ (SlF.st0 (SlN.nth f_t.S.Back (by omega)).Cells hs102) ?_) ?_
  · first | assumption | rfl | omega | exact Nat.le_refl 5
  rintro _ whs103 ⟨A104, c105, L1_106, rfl, hs103, ho107⟩
  replace hs103 := hs102.callF hs103
  refine ⟨_, rfl, ?_⟩
  replace hs103 := St.back [_, _, _] hs103
  refine WL.r 5 hs103 [] rfl (WL.nil (WC.sr (WL.r 4 hs103 [0] rfl (WL.cl Tryz.call128 rfl (k98_ _ _ _ _ _ _ (SlF.ofOwn ho95 (hs103.ow L94)) ?_ ?_ ?_) ?_))))
  iterate 2 first | omega | assumption | exact Nat.le_refl 5
  · first | omega | (simp only [List.length_append, List.length_nil, partI_len, List.length_take]; omega) | assumption | exact Nat.le_refl 5
  rintro _ whs108 ⟨A109, c110, L1_111, rfl, hs108, ho112⟩
  replace hs108 := hs103.callF hs108
  refine ⟨_, rfl, ?_⟩
  replace hs108 := St.back [_, _, _] hs108
  refine WL.r 4 hs108 [] rfl (WL.nil (WC.region (WL.r 2 hs108 [] rfl (WL.appendG (hs108.fr L1_111) ho112 (SlF.src (SlF.ofOwn ho107 (hs108.ow L1_106)) Tryz.underlying22) Tryz.underlying22 inf5 rfl rfl rfl rfl rfl rfl rfl rfl rfl rfl ?_ (fun A116 c117 L113 whs114 hs114 ho115 => ?_)))))
  · first | omega | (simp only [List.length_append, List.length_nil, List.length_singleton, partI_len]; omega)
  replace hs114 := St.back [_, _, _] hs114
  refine WL.r 1 hs114 [] rfl (WL.nil (hK99 _ _ (WC.region (WL.r 2 hs114 [] rfl (WL.nil (tkN ?_))))))
  replace hs114 := ((hs114.d1.rm L1_106).rm L94)
  refine ⟨sbF rfl, _, (hs114.fr L113), _, ?_, _, i + 1, _, _, rfl, ?_, ?_, ho115, ⟨rfl, rfl, trivial⟩⟩
  · omega
  · omega
  · rw [r1, rowsL_take (by omega), hco, hrn]; simp only [List.append_assoc, Int.toNat_natCast, List.nil_append]; try rfl
 have hzl : zs = termL t.dat := by rw [r1, List.take_of_length_le (by omega), hhe, hcm, hca]; unfold termL; simp only [Int.toNat_natCast, List.append_assoc, List.nil_append, partI_len]; have e_ : t.dat.S.Back.length = t.S.Back.n := (List.length_map _).trans nl_t_S_Back; rw [e_]; rfl
 refine WC.exit (hK91 _ _ (WC.seq (fun K118 hK118 => WC.r1 hs96 [] rfl ?_)))
 refine WC.cq rfl (fun h119 qh119 => ?_) (fun h119 qh119 => ?_)
 ·have hf : termFine t.dat = false := by unfold termFine; rw [hok, Bool.true_and, decide_eq_false_iff_not]; rw [← hzl]; have h9 := qh119; omega
  refine WC.r1 hs96 [] rfl (WC.ret (tkR ?_))
  clear hK118
  refine retV2 rfl (resV.tmp rfl) (resV.tmp rfl) ?_
  rw [hf]
  have hx_ := OwnF.eqOf (xs := termOut t.dat) (OwnF.nil encB 5) (by simp [termOut, hf])
  rw [← hx_]
  exact ⟨_, _, _, rfl, hs96.nil, (OwnF.nil encB 5)⟩
 have hf : termFine t.dat = true := by unfold termFine; rw [hok, Bool.true_and, decide_eq_true_eq]; rw [← hzl]; have h9 := qh119; omega
 refine WC.skip (hK118 _ _ (WC.r1 hs96 [] rfl (WC.ret (retV2 rfl (resV.tmp rfl) (resV.tmp rfl) ?_))))
 rw [hf]
 have hx_ := OwnF.eqOf (xs := termOut t.dat) ho95 (by unfold termOut; rw [hf, hzl]; rfl)
 rw [← hx_]
 first | exact ⟨_, _, _, rfl, (St.keep1 (hs96.fr L94)), ho95⟩ | exact ⟨A92, c93, _, by rw [OwnF.len_ ho95], (St.keep1 (hs96.fr L94)), by rw [OwnF.len_ ho95]; exact ho95⟩
set_option maxHeartbeats 4000000 in
theorem k120_ (a : ScrR) (b : ScrR) (w : World) (f_a : okScrR 549755813888 w a) (f_b : okScrR 549755813888 w b) (hT : SmallT (⟨vp0, a.dat⟩ : TermD)) (hab : a.dat = b.dat) :
    Calls Tryz.prog 39 #[.agg (cScr a).toArray, .agg (cScr b).toArray] w fun e w' => e = .returned (.bool true) ∧ St w [] [] w' := by
 have nb_a_Main_Cells := f_a.Main.Cells_n
 have nl_a_Main_Cells := f_a.Main.Cells.len
 have nb_a_Alt_Cells := f_a.Alt.Cells_n
 have nl_a_Alt_Cells := f_a.Alt.Cells.len
 have nb_a_Tabs := f_a.Tabs_n
 have nl_a_Tabs := f_a.Tabs.len
 have nb_a_Back := f_a.Back_n
 have nl_a_Back := f_a.Back.sl.len
 have nb_b_Main_Cells := f_b.Main.Cells_n
 have nl_b_Main_Cells := f_b.Main.Cells.len
 have nb_b_Alt_Cells := f_b.Alt.Cells_n
 have nl_b_Alt_Cells := f_b.Alt.Cells.len
 have nb_b_Tabs := f_b.Tabs_n
 have nl_b_Tabs := f_b.Tabs.len
 have nb_b_Back := f_b.Back_n
 have nl_b_Back := f_b.Back.sl.len
 have hfA : termFine (⟨vp0, a.dat⟩ : TermD) = true := hT.fine
 have hMA : smTerm 1048576 (⟨vp0, a.dat⟩ : TermD) := hT.sm (by decide)
 have hMB : smTerm 1048576 (⟨vp0, b.dat⟩ : TermD) := hab ▸ hMA
 refine enter 32 Tryz.func39 rfl Tryz.ntmps39 rfl rfl ?_
 have hs1 := St.init w
 refine WC.sr (WL.bx hs1 rfl (fun b2 _ hs3 => WL.bx hs3 rfl (fun b4 _ hs5 => WL.r 1 hs5 [] rfl (WL.nil (WC.sr (WL.r 1 hs5 [1] rfl ?_))))))
 refine WL.val rfl rfl rfl (Run.build rfl rfl rfl rfl (built_35_1 _ _ _ _ _ _ _ _ _ _ _ _ _ _ _ _ _ _ _ _ _ _ _ _ _ _ _ _ _ _ _)) ?_
 refine WL.cl Tryz.call54 rfl (k119_ ⟨⟨_, _, ⟨_, _, _, _⟩, ⟨_, _, _, _⟩⟩, ⟨_, _, ⟨_, _, ⟨_, _, _, _⟩⟩, ⟨_, _, ⟨_, _, _, _⟩⟩, _, _, _, _, ⟨_, _, _, _, _⟩, _, _, _, _, _, _, ⟨_, _, _, _, _⟩, ⟨_, _, _, _⟩, _, ⟨_, _, _, _⟩⟩⟩ _ ⟨⟨(SlF.nil _ _), (by first | assumption | omega | simp), (by first | assumption | omega | (simp; omega) | simp), (SlF.nil _ _), (by first | assumption | omega | simp), (by first | assumption | omega | (simp; omega) | simp)⟩, ⟨⟨(SlF.st0 f_a.Main.Cells hs5), f_a.Main.Cells_c, f_a.Main.Cells_n⟩, ⟨(SlF.st0 f_a.Alt.Cells hs5), f_a.Alt.Cells_c, f_a.Alt.Cells_n⟩, (SlF.st0 f_a.Tabs hs5), f_a.Tabs_c, f_a.Tabs_n, (SlN.st0 okRowR.st0 f_a.Back hs5), f_a.Back_c, f_a.Back_n⟩⟩ ?_) ?_
 · first | assumption | rfl | omega | exact hMA | exact hMB
 rintro _ whs6 ⟨A7, c8, L1_9, rfl, hs6, ho10⟩
 replace hs6 := hs5.callF hs6
 refine ⟨_, rfl, ?_⟩
 replace hs6 := St.back [_, _] hs6
 refine WL.r 5 hs6 [] rfl (WL.nil (WC.sr (WL.r 1 hs6 [0] rfl ?_)))
 refine WL.val rfl rfl rfl (Run.build rfl rfl rfl rfl (built_35_1 _ _ _ _ _ _ _ _ _ _ _ _ _ _ _ _ _ _ _ _ _ _ _ _ _ _ _ _ _ _ _)) ?_
 refine WL.cl Tryz.call54 rfl (k119_ ⟨⟨_, _, ⟨_, _, _, _⟩, ⟨_, _, _, _⟩⟩, ⟨_, _, ⟨_, _, ⟨_, _, _, _⟩⟩, ⟨_, _, ⟨_, _, _, _⟩⟩, _, _, _, _, ⟨_, _, _, _, _⟩, _, _, _, _, _, _, ⟨_, _, _, _, _⟩, ⟨_, _, _, _⟩, _, ⟨_, _, _, _⟩⟩⟩ _ ⟨⟨(SlF.nil _ _), (by first | assumption | omega | simp), (by first | assumption | omega | (simp; omega) | simp), (SlF.nil _ _), (by first | assumption | omega | simp), (by first | assumption | omega | (simp; omega) | simp)⟩, ⟨⟨(SlF.st0 f_b.Main.Cells hs6), f_b.Main.Cells_c, f_b.Main.Cells_n⟩, ⟨(SlF.st0 f_b.Alt.Cells hs6), f_b.Alt.Cells_c, f_b.Alt.Cells_n⟩, (SlF.st0 f_b.Tabs hs6), f_b.Tabs_c, f_b.Tabs_n, (SlN.st0 okRowR.st0 f_b.Back hs6), f_b.Back_c, f_b.Back_n⟩⟩ ?_) ?_
 · first | assumption | rfl | omega | exact hMA | exact hMB
 rintro _ whs11 ⟨A12, c13, L1_14, rfl, hs11, ho15⟩
 replace hs11 := hs6.callF hs11
 refine ⟨_, rfl, ?_⟩
 replace hs11 := St.back [_, _] hs11
 refine WL.r 5 hs11 [] rfl (WL.nil (WC.sr (WL.r 2 hs11 [] rfl (WL.pA tbk 1 Acts.nil hs11 [] rfl rfl rfl rfl (fun g_ => trivial) (WL.r 1 hs11 [] rfl ?_)))))
 apply WL.gA 5 Acts.nil hs11 rfl
 ·intro g16 J17
  have qg16 := g16
  try simp only [bf, within_iff, within_not] at qg16
  refine WL.runA tbk 1 (Acts.nil.cons (j := 4) rfl g16) hs11 [] rfl trivial (WL.val (wantT rfl g16) rfl rfl (Run.strOf (SlF.ofOwn ho10 (hs11.ow L1_9)) Tryz.underlying22 Tryz.underlying5 Tryz.underlying9 rfl rfl) (WL.runA tbk 1 (Acts.nil.cons (j := 4) rfl g16) hs11 [] rfl trivial (WL.val (wantT rfl g16) rfl rfl (Run.strOf (SlF.ofOwn ho15 (hs11.ow L1_14)) Tryz.underlying22 Tryz.underlying5 Tryz.underlying9 rfl rfl) (WL.runA tbk 1 (Acts.nil.cons (j := 4) rfl g16) hs11 [] rfl trivial (WL.eA 5 Acts.nil J17 hs11 g16 rfl rfl)))))
 intro _ hs18
 refine WL.r 1 hs18 [] rfl (WL.nil (WC.ret (retV1 rfl (resV.tmp rfl) (⟨congrArg Ending.returned (congrArg Value.bool ?_), hs18.nil⟩))))
 have q2 : (⟨vp0, b.dat⟩ : TermD) = ⟨vp0, a.dat⟩ := by rw [hab]
 show ((termFine (⟨vp0, a.dat⟩ : TermD) && termFine (⟨vp0, b.dat⟩ : TermD)) && decide ((⟨(termOut (⟨vp0, a.dat⟩ : TermD)).toArray⟩ : ByteArray) = ⟨(termOut (⟨vp0, b.dat⟩ : TermD)).toArray⟩)) = true
 rw [q2, hfA]; simp
set_option maxHeartbeats 8000000 in
theorem k121_ (A_s : Option Addr) (n_s c_s : Nat) (s : List UInt8) (w : World) (f_s : SlF encB w A_s n_s s) :
    Calls Tryz.prog 7 #[.slice A_s n_s c_s] w fun e w' => e = .returned (.bool true) ∧ St w [] [] w' := by
 have hbl := f_s.len
 refine enter 142 Tryz.func7 rfl Tryz.ntmps7 rfl rfl ?_
 have hs1 := St.init w
 refine WC.r1 hs1 [] rfl (WC.seq (fun K2 hK2 => WC.r1 hs1 [] rfl ?_))
 refine WC.cq rfl (fun h3 qh3 => ?_) (fun h3 qh3 => ?_)
 ·refine WC.r1 hs1 [] rfl (WC.ret (tkR ?_))
  clear hK2
  refine retV1 rfl (resV.tmp rfl) (⟨rfl, hs1.nil⟩)
 have hn : n_s ≤ 1048576 := by have h9 := h3; simp at h9; omega
 refine WC.skip (hK2 _ _ (WC.sr (WL.r 1 hs1 [] rfl ?_)))
 refine WL.cl Tryz.call35 rfl (k91_ _ _ _ _ _ (SlF.st0 f_s hs1) ?_) ?_
 · first | assumption | rfl | omega | (simp; omega)
 rintro _ whs4 ⟨r5, L1_6, rfl, hs4, ho7, hm8⟩
 replace hs4 := hs1.callF hs4
 refine ⟨_, rfl, ?_⟩
 have hT0 := hm8
 have hok0 := hT0.ok
 have hf0 := hT0.fine
 have hBT : smTerm 549755813888 r5.dat := SmallT.sm hT0 (by decide)
 have hMT : smTerm 1048576 r5.dat := SmallT.sm hT0 (by decide)
 have hol0 := termOut_len r5.dat
 have hrd := termOut_read hf0
 have hmore := termOut_more hf0
 have hMm := hMT.2.1
 have hgc := gridOk_cells (scrOk_main (termOk_P hok0).2).1
 have hX4 : r5.S.Main.Cells.xs.length ≤ 4000 := hgc.1
 obtain ⟨hcf, hcr⟩ := cells_again (l := r5.S.Main.Cells.xs) hgc.1 hgc.2
 have hol1 := cellsOut_len r5.S.Main.Cells.xs
 have hnl9 : r5.S.Main.Cells.xs.length = r5.S.Main.Cells.n := (ownTermR.len ho7).2.2.1
 refine WL.al hs4 Tryz.zeroValue35 rfl rfl (fun b9 _ hs10 => WL.st tbk hs10 0 rfl rfl (fun _ hs11 => WL.nil (WC.sr (WL.r 1 hs11 [0] rfl ?_))))
 refine WL.cl Tryz.call36 rfl (k113_ r5 _ (ownTermR.ok (B := 549755813888) ho7 (hs11.ow L1_6) (by assumption)) ?_) ?_
 · first | assumption | rfl | omega | (simp; omega)
 rintro _ whs12 ⟨A13, c14, L1_15, rfl, hs12, ho16⟩
 replace hs12 := hs11.callF hs12
 refine ⟨_, rfl, ?_⟩
 replace hs12 := St.back [_] hs12
 refine WL.r 5 hs12 [] rfl (WL.nil (WC.sr (WL.r 1 hs12 [] rfl (WL.cl Tryz.call13 rfl (k114_ _ _ _ _ _ (SlF.ofOwn ho16 (hs12.ow L1_15)) (OwnF.cap ho16) ?_) ?_))))
 · first | assumption | rfl | omega | (simp; omega)
 rintro _ whs17 ⟨r18, L1_19, rfl, hs17, ho20, hd21⟩
 replace hs17 := hs12.callF hs17
 refine ⟨_, rfl, ?_⟩
 replace hs17 := St.back [_] hs17
 have hdr : r18.dat = r5.dat := hd21.trans hrd.2
 have hBr : smTerm 549755813888 r18.dat := by rw [hdr]; exact hBT
 have hMr : smTerm 1048576 r18.dat := by rw [hdr]; exact hMT
 have hBrr := hBr
 rw [hd21] at hBrr
 have hab : r18.S.dat = r5.S.dat := congrArg TermD.S hdr
 have hTs : SmallT (⟨vp0, r18.S.dat⟩ : TermD) := ⟨show vpOk vp0 = true by decide, by rw [hab]; exact hT0.s⟩
 refine WL.r 3 hs17 [] rfl (WL.al hs17 Tryz.zeroValue35 rfl rfl (fun b22 _ hs23 => WL.st tbk hs23 0 rfl rfl (fun _ hs24 => WL.r 1 hs24 [] rfl (WL.nil (WC.sr (WL.r 1 hs24 [0] rfl ?_))))))
 refine WL.cl Tryz.call36 rfl (k113_ r18 _ (ownTermR.ok (B := 549755813888) ho20 (hs24.ow L1_19) (by rw [hd21]; assumption)) ?_) ?_
 · first | assumption | rfl | omega | (simp; omega)
 rintro _ whs25 ⟨A26, c27, L1_28, rfl, hs25, ho29⟩
 replace hs25 := hs24.callF hs25
 refine ⟨_, rfl, ?_⟩
 replace hs25 := St.back [_, _] hs25
 refine WL.r 5 hs25 [] rfl (WL.nil (WC.sr (WL.r 4 hs25 [1] rfl (WL.cl Tryz.call37 rfl (k96_ _ _ _ _ _ (ownTermR.ok (B := 549755813888) ho7 (hs25.ow L1_6) (by assumption)).S.Main.Cells ?_) ?_))))
 · first | assumption | rfl | omega | (simp; omega)
 rintro _ whs30 ⟨A31, c32, L1_33, rfl, hs30, ho34⟩
 replace hs30 := hs25.callF hs30
 refine ⟨_, rfl, ?_⟩
 replace hs30 := St.back [_, _] hs30
 refine WL.r 5 hs30 [] rfl (WL.nil (WC.seq (fun K35 hK35 => WC.rH hs30 hs30 (fun _ hs36 => ?_))))
 refine WH.rn [1, 3, 4, 5, 6, 7] hs36 [1] rfl rfl (WH.o1 0 rfl (WL.buildF (F := encB) hs36 ([5]) Tryz.runUnderlying22 Tryz.sizeOf5 Tryz.zeroValue5 rfl rfl rfl rfl rfl rfl rfl rfl rfl rfl rfl rfl (fun A40 c41 L37 whs38 hs38 ho39 => ?_)))
 replace hs38 := St.back [_, _] hs38
 refine WL.nil ⟨(hs38.rm L37), WH.o1 2 rfl (WL.appendG (hs38.fr L37) ho39 (SlF.src (SlF.ofOwn ho34 (hs38.ow L1_33)) Tryz.underlying22) Tryz.underlying22 inf5 rfl rfl rfl rfl rfl rfl rfl rfl rfl rfl ?_ (fun A45 c46 L42 whs43 hs43 ho44 => ?_))⟩
 · first | omega | (simp; omega)
 replace hs43 := St.back [_, _] hs43
 refine WL.nil ⟨(hs43.rm L42), WH.o1 8 rfl (WL.cl Tryz.call38 rfl (k107_ _ _ _ _ _ _ _ (SlF.ofOwn ho44 (hs43.ow L42)) (OwnF.cap ho44) ?_) ?_)⟩
 · first | assumption | rfl | omega | (simp; omega)
 rintro _ whs47 ⟨A48, c49, L1_50, rfl, hs47, ho51⟩
 replace hs47 := hs43.callF hs47
 refine ⟨_, rfl, ?_⟩
 replace hs47 := St.back [_, _] hs47
 have hlc : (rdC (cellsRd ([5] ++ cellsOut r5.S.Main.Cells.xs) 1 (r5.S.Main.Cells.n : Int))) = r5.S.Main.Cells.xs := by rw [← hnl9, hcr]; rfl
 have hlcl : (rdC (cellsRd ([5] ++ cellsOut r5.S.Main.Cells.xs) 1 (r5.S.Main.Cells.n : Int))).length = r5.S.Main.Cells.xs.length := by rw [hlc]
 refine WL.nil ⟨((hs47.rm L1_50).rm L42), WH.rn [9, 10, 11, 12, 13, 14, 15] ((hs47.rm L1_50).rm L42) [] rfl rfl (WH.dn (hK35 _ _ (WC.seq (fun K52 hK52 => WC.sr (WL.r 3 hs47 [] rfl (WL.pO tbk 2 Acts.nil hs47 [] rfl rfl rfl rfl (fun g_ => trivial) ?_))))))⟩
 refine WL.r 1 hs47 [] rfl (WL.pO tbk 2 Acts.nil hs47 [] rfl rfl rfl rfl (fun g_ => trivial) (WL.r 1 hs47 [] rfl (WL.pO tbk 2 Acts.nil hs47 [] rfl rfl rfl rfl (fun g_ => trivial) (WL.r 1 hs47 [] rfl ?_))))
 refine WL.pO tbk 5 Acts.nil hs47 [] rfl rfl rfl rfl (fun g_ => by (try simp only [bf, within_iff, within_not] at g_); exact ⟨by omega, trivial⟩) (WL.r 1 hs47 [] rfl ?_)
 apply WL.gO 5 Acts.nil hs47 rfl
 ·intro g53 J54
  have qg53 := g53
  try simp only [bf, within_iff, within_not] at qg53
  refine WL.runA tbk 1 (Acts.nil.cons (j := 21) rfl g53) hs47 [] rfl trivial (WL.val (wantF rfl g53) rfl rfl (Run.strOf (SlF.ofOwn ho16 (hs47.ow L1_15)) Tryz.underlying22 Tryz.underlying5 Tryz.underlying9 rfl rfl) (WL.runA tbk 1 (Acts.nil.cons (j := 21) rfl g53) hs47 [] rfl trivial (WL.val (wantF rfl g53) rfl rfl (Run.strOf (SlF.ofOwn ho29 (hs47.ow L1_28)) Tryz.underlying22 Tryz.underlying5 Tryz.underlying9 rfl rfl) (WL.runA tbk 1 (Acts.nil.cons (j := 21) rfl g53) hs47 [] rfl trivial (WL.eO 5 Acts.nil J54 hs47 g53 rfl rfl)))))
 intro _ hs55
 refine WL.r 1 hs55 [] rfl (WL.pO tbk 8 Acts.nil hs55 [1] rfl rfl rfl rfl (fun g_ => ⟨rfl, trivial⟩) (WL.nil (WC.cq rfl (fun h56 qh56 => ?_) (fun h56 qh56 => ?_))))
 ·exfalso; have h9 := h56
  simp only [← hnl9, hcr, hdr, hf0, hrd.1, hcf] at h9
  simp [rdC, rdE] at h9
  first | omega | exact absurd (of_decide_eq_false h9) (by omega)
 refine WC.skip (hK52 _ _ (WC.seq (fun K57 hK57 => WC.r1 hs55 [] rfl (WC.block ?_))))
 refine WC.lS [3, 4, 6, 12, 20, 96, 98] rfl hs55 (fun k_ f w' => ∃ (i : Nat), k_ = r5.S.Main.Cells.xs.length - i ∧ (i ≤ r5.S.Main.Cells.xs.length) ∧ Sub [(99, .int .i64 i)] f) ((fun (i : Nat) => r5.S.Main.Cells.xs.length - i) (0)) ?_ ?_
 ·refine ⟨0, rfl, ?_, ⟨rfl, trivial⟩⟩
  · exact Nat.zero_le _
 clear hs55
 rintro _ f w ⟨i, rfl, p0, hG⟩ hF hs58
 refine WC.sub _ (hG.app hF) ?_
 clear hG hF
 refine WC.r1 hs58 [] rfl (WC.seq (fun K59 hK59 => ?_))
 refine WC.cq rfl (fun h60 qh60 => ?_) (fun h60 qh60 => ?_)
 ·refine WC.skip (hK59 _ _ (WC.seq (fun K61 hK61 => WC.block (WC.r1 hs58 [] rfl (WC.sq1 hs58 (WQ.r 2 [] rfl ?_))))))
  refine WQ.val rfl rfl rfl (fun w_ hs_ => (Run.idxN Tryz.runUnderlying26 Tryz.sizeOf75 rfl rfl rfl ?_ ?_ ?_)) ?_
  · exact SlF.some_ (SlF.ofOwn ho51 ((hs_ : St _ _ _ _).ow L1_50))
  · first | omega | (rw [← hnl9, hcr]; exact (by assumption))
  · first | omega | (rw [← hnl9, hcr]; exact (by assumption))
  refine WQ.val rfl rfl rfl (fun w_ hs_ => (Run.loadA Tryz.isAgg75 Tryz.sizeOf75 rfl rfl (SlF.whole (SlF.ofOwn ho51 ((hs_ : St _ _ _ _).ow L1_50)) ?_))) ?_
  · first | omega | (rw [← hnl9, hcr]; exact (by assumption))
  refine WQ.r 5 [1] rfl ?_
  refine WQ.val rfl rfl rfl (fun w_ hs_ => (Run.idxN Tryz.runUnderlying26 Tryz.sizeOf75 rfl rfl rfl ?_ ?_ ?_)) ?_
  · exact SlF.some_ (ownTermR.ok (B := 549755813888) ho7 ((hs_ : St _ _ _ _).ow L1_6) (by assumption)).S.Main.Cells
  · first | omega | (rw [← hnl9, hcr]; exact (by assumption))
  · first | omega | (rw [← hnl9, hcr]; exact (by assumption))
  refine WQ.val rfl rfl rfl (fun w_ hs_ => (Run.loadA Tryz.isAgg75 Tryz.sizeOf75 rfl rfl (SlF.whole (ownTermR.ok (B := 549755813888) ho7 ((hs_ : St _ _ _ _).ow L1_6) (by assumption)).S.Main.Cells ?_))) ?_
  · first | omega | (rw [← hnl9, hcr]; exact (by assumption))
  refine WQ.val rfl rfl rfl (fun w_ hs_ => (Run.neqA (eq_75 _ _) (by kernel_rfl) rfl rfl rfl)) ?_
  refine WQ.nil (fun _ (hs62 : St _ _ _ _) => ?_)
  refine WC.cq rfl (fun h63 qh63 => ?_) (fun h63 qh63 => ?_)
  ·exfalso; have h9 := h63; rw [hlc] at h9; simp at h9
  refine WC.skip (hK61 _ _ (WC.region (WL.r 2 hs62 [] rfl (WL.nil (tkN ?_)))))
  refine ⟨sbF rfl, hs62, _, ?_, i + 1, rfl, ?_, ⟨rfl, trivial⟩⟩
  · omega
  · omega
 refine WC.exit (hK57 _ _ (WC.sr (WL.buildF (F := encB) hs58 ([]) Tryz.runUnderlying22 Tryz.sizeOf5 Tryz.zeroValue5 rfl rfl rfl rfl rfl rfl rfl rfl rfl rfl rfl rfl (fun A67 c68 L64 whs65 hs65 ho66 => ?_))))
 replace hs65 := St.back [_, _] hs65
 refine WL.r 1 hs65 [] rfl (WL.appendG (hs65.fr L64) ho66 (SlF.src (SlF.ofOwn ho16 (hs65.ow L1_15)) Tryz.underlying22) Tryz.underlying22 inf5 rfl rfl rfl rfl rfl rfl rfl rfl rfl rfl ?_ (fun A72 c73 L69 whs70 hs70 ho71 => ?_))
 · first | omega | (simp; omega)
 replace hs70 := St.back [_, _] hs70
 refine WL.buildSlice hs70 Tryz.runUnderlying22 Tryz.sizeOf5 Tryz.zeroValue5 rfl rfl rfl rfl rfl rfl rfl rfl rfl rfl (fun b74 whs75 hs75 => ?_)
 refine WL.appendG (hs75.fr L69) ho71 (srcF (F := encB) (ys := [0]) Tryz.underlying22 rfl rfl (hs75.own _ (nthL_mem (i := 0) rfl)).1) Tryz.underlying22 inf5 rfl rfl rfl rfl rfl rfl rfl rfl rfl rfl ?_ (fun A79 c80 L76 whs77 hs77 ho78 => ?_)
 · first | omega | (simp; omega)
 replace hs77 := St.back [_, _, _] hs77
 refine WL.cl Tryz.call13 rfl (k114_ _ _ _ _ _ (SlF.ofOwn ho78 (hs77.ow L76)) (OwnF.cap ho78) ?_) ?_
 · first | assumption | rfl | omega | (simp; omega)
 rintro _ whs81 ⟨r82, L1_83, rfl, hs81, ho84, hd85⟩
 replace hs81 := hs77.callF hs81
 refine ⟨_, rfl, ?_⟩
 replace hs81 := St.back [_, _, _] hs81
 refine WL.r 3 hs81 [] rfl (WL.al hs81 Tryz.zeroValue35 rfl rfl (fun b86 _ hs87 => WL.st tbk hs87 0 rfl rfl (fun _ hs88 => WL.r 1 hs88 [] rfl (WL.nil (WC.sr (WL.r 3 hs88 [] rfl ?_))))))
 apply WL.gA 5 Acts.nil hs88 rfl
 ·intro g89 J90
  have qg89 := g89
  try simp only [bf, within_iff, within_not] at qg89
  refine WL.runA tbk 4 (Acts.nil.cons (j := 2) rfl g89) hs88 [2, 3] rfl ⟨rfl, rfl, trivial⟩ ?_
  refine WL.call (wantT rfl g89) rfl rfl (Run.call Tryz.call39 rfl rfl rfl) (k120_ r18.S r5.S _ (ownTermR.ok (B := 549755813888) ho20 (hs88.ow L1_19) (by rw [hd21]; assumption)).S (ownTermR.ok (B := 549755813888) ho7 (hs88.ow L1_6) (by assumption)).S ?_ ?_) ?_
  iterate 2 first | assumption | omega | (simp; omega)
  rintro _ whs91 ⟨rfl, hs91⟩
  replace hs91 := hs88.call0 hs91
  refine ⟨_, rfl, WL.eA 5 Acts.nil J90 hs91 g89 rfl rfl⟩
 intro _ hs92
 refine WL.r 1 hs92 [] rfl (WL.pA tbk 7 Acts.nil hs92 [2, 3] rfl rfl rfl rfl (fun g_ => ⟨rfl, rfl, trivial⟩) (WL.r 1 hs92 [] rfl (WL.nil (WC.ret (retV1 rfl (resV.tmp rfl) (⟨congrArg Ending.returned (congrArg Value.bool ?_), hs92.nil⟩))))))
 have q1 : r18.P.State = r5.P.State := congrArg (fun d => d.P.State) hdr
 simp only [List.nil_append, hmore, q1]; simp
open Go Go.RowKit Go.ChangeShapes Go.WideShapes Go.ChangeAt Go.Deep
section
variable {H : Type} {enc : TypeId × Value → H} {P : Program} {w : World} {base : Nat} {spare : Nat → Bool} {held : Bool} {fuel : Nat} {t e : TypeId} {cs : List Value} {x : DataW H × List MemPlace}
theorem open_SlB (ht : P.underlying t = some (.slice e)) (he : P.underlying e = some (.int .u8)) (hc : P.cellsOf e = 1) (h : DataW.trod enc P w base spare held fuel t cs = some x) :
  ∃ A n c xs, cs = [.slice A n c] ∧ SlB w A n xs ∧ n ≤ 9223372036854775807 := by
 rcases open_ints ht he hc h with ⟨rfl, _⟩ | ⟨a, l, c, zs, rfl, _, hl, hm, hz, _, hcell, hwz⟩
 ·exact ⟨none, 0, 0, [], rfl, ⟨rfl, SlR.nil _ _ _⟩, by omega⟩
 ·have hlz : l ≤ zs.length := by rw [hz]; split <;> omega
  refine ⟨some a, l, c, (zs.take l).map (fun z => UInt8.ofNat z.toNat), rfl, ⟨by simp; omega, ⟨by rw [rows_len]; simp [encB]; omega, fun _ => rfl, fun j v hv => ?_⟩⟩, by simp only [maxLen] at hm; omega⟩
  have hj : j < l := by
   have := (List.getElem?_eq_some_iff.1 hv).1
   simp [bytesV_len] at this; omega
  have hc1 := hcell j (by omega)
  have hw := hwz (zs.getD j 0) (by rw [List.getD_eq_getElem?_getD, List.getElem?_eq_getElem (show j < zs.length by omega)]; exact List.getElem_mem _)
  simp [Lit.wf, IntKind.min, IntKind.max, IntKind.signed, IntKind.bits] at hw
  show w.cell? (a.add j) = some v
  rw [hc1, ← hv]
  have hlt : j < zs.length := by omega
  have e1 : zs.getD j 0 = zs[j] := by rw [List.getD_eq_getElem?_getD, List.getElem?_eq_getElem hlt]; rfl
  rw [e1]
  simp only [List.getElem?_eq_getElem hlt, Option.getD_some] at hw
  simp [bytesV_map, hj, List.getElem?_eq_getElem hlt, UInt8.toNat_ofNat']
  omega
end
namespace fnTerm
open Go.ChangeShapes Go.WideShapes Go.ChangeAt Go.RowKit
theorem own : ownKnob Tryz.prog.godebug = none := by kernel_rfl
theorem laidOut : laidOutB Tryz.prog = true := by kernel_rfl
set_option maxRecDepth 100000 in
set_option maxHeartbeats 1000000 in
theorem lifted (os : Os) (started : os.Started) (H : Type) (enc : TypeId × Value → H) :
    ReturnsInHanded {} Tryz.checked os 7 .any (Rows.fnTermSpec.pre6 enc Tryz.prog Tryz.f7 Rows.fnTermRow.domain false) (Rows.fnTermSpec.post enc Tryz.prog Tryz.f7 false true false false) := by
  refine returnsInHanded_of_change (C := Tryz.checked) own started (by kernel_rfl) Tryz.func7
    (ChangeSpec.witness6 (enc := enc) (C := Tryz.checked) false ⟨#[], #[.slice none 0 0], []⟩ 8 (by kernel_rfl) (by kernel_rfl) (by kernel_rfl) (by kernel_rfl)) ?_
  intro W base args ds gs before hval0 hW hcnd _
  have hval : ∀ (j : Nat) t v, Tryz.f7.params[j]? = some t → args[j]? = some v → Value.okWide Tryz.prog W .any base t v := hval0
  have hW' := hW
  obtain ⟨p, q, hA0, hV, rfl, hfz, hnd⟩ := hW
  have hA : DataW.TrodAll enc Tryz.prog W 0 (fun _ => true) true Tryz.f7.params.toList args.toList ds p := hA0
  rw [Tryz.params7] at hA hval
  obtain ⟨v0, vs0, d0, ds0, p0, q0, hargs, rfl, rfl, h0, r0⟩ := trodAll_cons hA
  obtain ⟨rfl, rfl, rfl⟩ := trodAll_nil r0
  obtain rfl : args = #[v0] := by cases args; simp_all
  obtain ⟨rfl, rfl⟩ := trodVars_none hV
  have k0 := h0
  have lt0 : ∀ x ∈ p0, x.block < W.heap.size := by obtain ⟨m, hm⟩ := k0; exact DataW.trod_lt m _ _ _ hm
  obtain ⟨a0, l0, q0, rfl⟩ := okWide_slice Tryz.underlying22 (hval 0 22 v0 rfl rfl)
  obtain ⟨fuel0, hf0⟩ := h0
  replace hf0 : DataW.trod _ _ _ _ _ _ _ 22 [.slice a0 l0 q0] = _ := hf0
  obtain ⟨A_aS, n_aS, c_aS, aS, e0, f_aS, w_aS⟩ := open_SlB Tryz.underlying22 Tryz.underlying5 (by kernel_rfl) hf0
  obtain ⟨rfl, rfl, rfl⟩ : A_aS = a0 ∧ n_aS = l0 ∧ c_aS = q0 := by cases e0; exact ⟨rfl, rfl, rfl⟩
  clear hA0 hval0
  refine (k121_ A_aS n_aS c_aS aS W f_aS).mono fun e W' ⟨he, hst⟩ => ?_
  have bel := hst.toBelow
  subst he
  exact ⟨_, rfl, _, _, _, [], _, [], hW', trodAll_mk1 (shut_bool Tryz.underlying4 _), (trodAll_cons_mk (Below.trod laidOut (by kernel_rfl) (of_decide_eq_true (by kernel_rfl)) k0 bel lt0) trodAll_mk0), rfl, bel.frame _, fun h => by cases h⟩
theorem over : Rows.fnTermRow.holds Tryz.pinned (OpenSpec.ofChange Rows.fnTermSpec) :=
  OpenClaim.holds_of_wide 7 Tryz.f7 rfl rfl rfl rfl rfl rfl rfl ⟨rfl, rfl, rfl, rfl, rfl⟩ rfl rfl rfl rfl rfl (by kernel_rfl) Tryz.func7 (by kernel_rfl)
    (of_decide_eq_true (by kernel_rfl)) (by unfold Func.isWrapper; first | (rw [if_pos (by decide +kernel)]; kernel_rfl) | (rw [if_neg (by decide +kernel)]; exact ⟨rfl, rfl⟩))
    (fun os started H enc _ => lifted os started H enc)
end fnTerm
theorem fnTerm_holds : Rows.FnTermSaid := fnTerm.over
end Go.Proofs.YtjmegoiclgancaaGreat
