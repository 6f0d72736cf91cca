/- Walks of Go functions, printed by a program (wip/gen). -/
import Derived.Test.YtlmcekfdlgkffaaGreatV2
namespace Go.Proofs.YtlmcekfdlgkffaaGreat
open Go Go.RowKit
set_option linter.unusedVariables false
set_option linter.unusedSimpArgs false
theorem built_111_0 (x0 : Option Addr) (x1 : Nat) (x2 : Nat) : Tryz.prog.built 111 [(0, .slice x0 x1 x2)] = some (List.toArray [.slice x0 x1 x2]) := by kernel_rfl
theorem c_slices_Clone_impl_Cell_impl_Cell (A_s : Option Addr) (n_s c_s : Nat) (s : List CellD) (w : World) (f_s : SlF encCell w A_s n_s s) (hn : n_s ≤ 268435456) :
    Calls Tryz.prog 222 #[.slice A_s n_s c_s] w fun e w' => ∃ A c L1, e = .returned (.slice A (s).length c) ∧ St w [] L1 w' ∧ OwnF encCell 65 (.slice A (s).length c) (s) L1 := by
 have hl := f_s.len
 refine enter (vs := [.slice A_s n_s c_s]) 8 Tryz.func222 rfl Tryz.ntmps222 rfl rfl ?_
 have hs1 := St.init w
 refine WC.rr tbk hs1 [] rfl trivial ?_
 refine WC.seq (fun K2 hK2 => ?_)
 refine WC.sr ?_
 refine WL.run tbk 1 hs1 [] rfl trivial ?_
 refine WL.val rfl rfl rfl (Run.eqlNil Tryz.underlying38 rfl rfl rfl) ?_
 refine WL.nil ?_
 refine WC.cond rfl (fun h3 => ?_) (fun h3 => ?_)
 ·have qh3 := h3
  try simp only [bf, within_iff, within_not] at qh3
  obtain rfl : A_s = none := by simpa using qh3
  have h0 : n_s = 0 := SlF.none_ f_s
  have hs : s = [] := List.eq_nil_of_length_eq_zero (by omega)
  refine WC.rr tbk hs1 [] rfl trivial ?_
  refine WC.ret ?_
  refine tkR ?_
  clear hK2
  refine retV1 rfl (resV.tmp rfl) ?_
  have hx_ := OwnF.eqOf (xs := s) (OwnF.nil encCell 65) (by rw [hs])
  rw [← hx_]
  exact ⟨_, _, _, rfl, hs1.nil, (OwnF.nil encCell 65)⟩
 ·have qh3 := h3
  try simp only [bf, within_iff, within_not] at qh3
  refine WC.skip ?_
  refine hK2 _ _ ?_
  refine WC.sr ?_
  refine WL.buildF (F := encCell) hs1 ([]) Tryz.runUnderlying38 Tryz.sizeOf65 Tryz.zeroValue65 rfl rfl rfl rfl rfl rfl rfl rfl rfl rfl rfl rfl (fun A7 c8 L4 whs5 hs5 ho6 => ?_)
  refine WL.run tbk 1 hs5 [] rfl trivial ?_
  refine WL.appendG hs5 ho6 (SlF.src (SlF.st0 f_s hs5) Tryz.underlying38) Tryz.underlying38 info_65 rfl rfl rfl rfl rfl rfl rfl rfl rfl rfl ?_ (fun A12 c13 L9 whs10 hs10 ho11 => ?_)
  · simp; omega
  refine WL.run tbk 1 hs10 [] rfl trivial ?_
  refine WL.nil ?_
  refine WC.ret ?_
  refine retV1 rfl (resV.tmp rfl) ?_
  have hx_ := OwnF.eqOf (xs := s) ho11 (by simp)
  rw [← hx_]
  first | exact ⟨_, _, _, rfl, (St.keep1 hs10), ho11⟩ | exact ⟨A12, c13, _, by rw [OwnF.len_ ho11], (St.keep1 hs10), by rw [OwnF.len_ ho11]; exact ho11⟩
theorem c_impl_copyGrid (g : GridR) (w : World) (f_g : okGridR 549755813888 w g) (hsm : smGrid 1048576 g.dat) :
    Calls Tryz.prog 221 #[.agg #[i64 g.W, i64 g.H, .slice g.Cells.A g.Cells.n g.Cells.c]] w fun e w' => ∃ r L1, e = .returned (.agg #[i64 r.W, i64 r.H, .slice r.Cells.A r.Cells.n r.Cells.c]) ∧ St w [] L1 w' ∧ ownGridR r L1 ∧ r.dat = g.dat := by
 have nb_g_Cells := f_g.Cells_n
 have nl_g_Cells := f_g.Cells.len
 have hl9 : g.Cells.xs.length ≤ 1048576 := hsm
 refine enter (vs := [.agg #[i64 g.W, i64 g.H, .slice g.Cells.A g.Cells.n g.Cells.c]]) 11 Tryz.func221 rfl Tryz.ntmps221 rfl rfl ?_
 have hs1 := St.init w
 refine WC.sr ?_
 refine WL.bx hs1 rfl (fun b2 _ hs3 => ?_)
 refine WL.al hs3 Tryz.zeroValue40 rfl rfl (fun b4 _ hs5 => ?_)
 refine WL.nil ?_
 refine WC.seq (fun K6 hK6 => ?_)
 refine WC.regionH2 (fun w' => St _ _ _ w') (fun w' => St _ _ _ w') mixed (St.drew (St.drop hs5 (List.sublist_append_right [_] _))) (St.drew hs5) (fun whs7 hs7 => ?_)
 replace hs7 : St _ _ _ _ := hs7
 refine WH.take 0 rfl (by kernel_rfl) rfl rfl rfl (St.drop hs7 (List.sublist_append_right [_] _)) (fun w_ hs_ => (Run.field Tryz.runUnderlying40 rfl rfl rfl Tryz.sizeOf3 rfl)) ?_
 refine WH.take 1 rfl (by kernel_rfl) rfl rfl rfl (St.drop hs7 (List.sublist_append_right [_] _)) (fun w_ hs_ => (Run.loadL (hs_ : St _ _ _ _) 0 Tryz.isAgg3 rfl rfl rfl rfl)) ?_
 refine WH.take 2 rfl (by kernel_rfl) rfl rfl rfl (St.drop hs7 (List.sublist_append_right [_] _)) (fun w_ hs_ => (Run.field Tryz.runUnderlying40 rfl rfl rfl Tryz.sizeOf3 rfl)) ?_
 refine WH.take 3 rfl (by kernel_rfl) rfl rfl rfl (St.drop hs7 (List.sublist_append_right [_] _)) (fun w_ hs_ => (Run.loadL (hs_ : St _ _ _ _) 0 Tryz.isAgg3 rfl rfl rfl rfl)) ?_
 refine WH.take 4 rfl (by kernel_rfl) rfl rfl rfl (St.drop hs7 (List.sublist_append_right [_] _)) (fun w_ hs_ => (Run.field Tryz.runUnderlying40 rfl rfl rfl Tryz.sizeOf38 rfl)) ?_
 refine WH.take 5 rfl (by kernel_rfl) rfl rfl rfl (St.drop hs7 (List.sublist_append_right [_] _)) (fun w_ hs_ => (Run.loadL (hs_ : St _ _ _ _) 0 Tryz.isAgg38 rfl rfl rfl rfl)) ?_
 refine WH.all [6] (by kernel_rfl) rfl (WHs.cons (i := 6) rfl ?_ WHs.nil)
 refine WL.call rfl rfl rfl (Run.call Tryz.call222 rfl rfl rfl) (c_slices_Clone_impl_Cell_impl_Cell _ _ _ _ _ (SlF.st0 f_g.Cells hs7) ?_) ?_
 · first | assumption | rfl | omega
 rintro _ whs8 ⟨A9, c10, L1_11, rfl, hs8, ho12⟩
 replace hs8 := hs7.callF hs8
 refine ⟨_, rfl, ?_⟩
 replace hs8 := St.back [_, _] hs8
 refine WL.nil ⟨(St.drop (St.perm (St.drop hs8 (List.sublist_append_right [_] _)) (L' := L1_11 ++ _) (perm_front (A := [_]) (List.Perm.refl _))) (List.sublist_append_right L1_11 _)), ?_⟩
 refine WH.take 7 rfl (by kernel_rfl) rfl rfl rfl (St.drop (St.perm (St.drop hs8 (List.sublist_append_right [_] _)) (L' := L1_11 ++ _) (perm_front (A := [_]) (List.Perm.refl _))) (List.sublist_append_right L1_11 _)) (fun w_ hs_ => (Run.build rfl rfl rfl rfl (built_40_0_1_2 _ _ _ _ _))) ?_
 refine WH.all [8] (by kernel_rfl) rfl (WHs.cons (i := 8) rfl ?_ WHs.nil)
 refine WL.st tbk hs8 0 rfl rfl (fun _ hs13 => ?_)
 refine WL.nil ⟨(St.drop (St.perm (St.drop hs13 (List.sublist_append_right [_] _)) (L' := L1_11 ++ _) (perm_front (A := [_]) (List.Perm.refl _))) (List.sublist_append_right L1_11 _)), ?_⟩
 refine WH.done (by kernel_rfl) ?_
 refine hK6 _ _ ?_
 refine WC.ret ?_
 refine retV1 rfl (resV.cellA tbk hs13 0 rfl rfl rfl rfl) ?_
 refine ⟨⟨g.W, g.H, SlD.of ho12⟩, _, rfl, (St.keep1 (St.perm hs13 (L' := L1_11 ++ _) (perm_front (A := [_, _]) (List.Perm.refl _)))), ?_, ?_⟩
 · exact ho12
 · rfl
theorem c_impl_copyScr (s : ScrR) (w : World) (f_s : okScrR 549755813888 w s) (hsm : smScr 1048576 s.dat) :
    Calls Tryz.prog 137 #[.agg #[i64 s.W, i64 s.H, i64 s.Main.W, i64 s.Main.H, .slice s.Main.Cells.A s.Main.Cells.n s.Main.Cells.c, i64 s.Alt.W, i64 s.Alt.H, .slice s.Alt.Cells.A s.Alt.Cells.n s.Alt.Cells.c, .bool s.OnAlt, i64 s.X, i64 s.Y, .bool s.Wrap, i64 s.A.Fg, i64 s.A.Bg, .bool s.A.Bold, .bool s.A.Under, .bool s.A.Turn, i64 s.Top, i64 s.Bot, .bool s.NoWrap, .bool s.Hide, i64 s.SaveX, i64 s.SaveY, i64 s.SaveA.Fg, i64 s.SaveA.Bg, .bool s.SaveA.Bold, .bool s.SaveA.Under, .bool s.SaveA.Turn, .slice s.Tabs.A s.Tabs.n s.Tabs.c, i64 s.Limit, .slice s.Back.A s.Back.n s.Back.c]] w fun e w' => ∃ r L1, e = .returned (.agg #[i64 r.W, i64 r.H, i64 r.Main.W, i64 r.Main.H, .slice r.Main.Cells.A r.Main.Cells.n r.Main.Cells.c, i64 r.Alt.W, i64 r.Alt.H, .slice r.Alt.Cells.A r.Alt.Cells.n r.Alt.Cells.c, .bool r.OnAlt, i64 r.X, i64 r.Y, .bool r.Wrap, i64 r.A.Fg, i64 r.A.Bg, .bool r.A.Bold, .bool r.A.Under, .bool r.A.Turn, i64 r.Top, i64 r.Bot, .bool r.NoWrap, .bool r.Hide, i64 r.SaveX, i64 r.SaveY, i64 r.SaveA.Fg, i64 r.SaveA.Bg, .bool r.SaveA.Bold, .bool r.SaveA.Under, .bool r.SaveA.Turn, .slice r.Tabs.A r.Tabs.n r.Tabs.c, i64 r.Limit, .slice r.Back.A r.Back.n r.Back.c]) ∧ St w [] L1 w' ∧ ownScrR r L1 ∧ r.dat = s.dat := by
 have nb_s_Main_Cells := f_s.Main.Cells_n
 have nl_s_Main_Cells := f_s.Main.Cells.len
 have nb_s_Alt_Cells := f_s.Alt.Cells_n
 have nl_s_Alt_Cells := f_s.Alt.Cells.len
 have nb_s_Tabs := f_s.Tabs_n
 have nl_s_Tabs := f_s.Tabs.len
 have nb_s_Back := f_s.Back_n
 have nl_s_Back := f_s.Back.sl.len
 have hM : s.Main.Cells.xs.length ≤ 1048576 := hsm.1
 have hA : s.Alt.Cells.xs.length ≤ 1048576 := hsm.2.1
 have hT : s.Tabs.xs.length ≤ 1048576 := hsm.2.2.1
 have hB : s.Back.xs.length ≤ 1048576 := by have h_ := hsm.2.2.2.1; simpa [ScrR.dat] using h_
 have hR : ∀ y, y ∈ s.Back.xs → y.Cells.xs.length ≤ 1048576 := fun y hy => hsm.2.2.2.2 _ (List.mem_map_of_mem hy)
 refine enter (vs := [.agg #[i64 s.W, i64 s.H, i64 s.Main.W, i64 s.Main.H, .slice s.Main.Cells.A s.Main.Cells.n s.Main.Cells.c, i64 s.Alt.W, i64 s.Alt.H, .slice s.Alt.Cells.A s.Alt.Cells.n s.Alt.Cells.c, .bool s.OnAlt, i64 s.X, i64 s.Y, .bool s.Wrap, i64 s.A.Fg, i64 s.A.Bg, .bool s.A.Bold, .bool s.A.Under, .bool s.A.Turn, i64 s.Top, i64 s.Bot, .bool s.NoWrap, .bool s.Hide, i64 s.SaveX, i64 s.SaveY, i64 s.SaveA.Fg, i64 s.SaveA.Bg, .bool s.SaveA.Bold, .bool s.SaveA.Under, .bool s.SaveA.Turn, .slice s.Tabs.A s.Tabs.n s.Tabs.c, i64 s.Limit, .slice s.Back.A s.Back.n s.Back.c]]) 37 Tryz.func137 rfl Tryz.ntmps137 rfl rfl ?_
 have hs1 := St.init w
 refine WC.sr ?_
 refine WL.bx hs1 rfl (fun b2 _ hs3 => ?_)
 refine WL.al hs3 Tryz.zeroValue44 rfl rfl (fun b4 _ hs5 => ?_)
 refine WL.nil ?_
 refine WC.seq (fun K6 hK6 => ?_)
 refine WC.regionG 10 (fun w' => St _ _ _ w') (fun w' => St _ _ _ w') (fun w' => St _ _ _ w') mixed (St.drew (St.drop hs5 (List.Sublist.cons_cons _ (List.Sublist.cons _ (List.Sublist.refl _))))) (St.drew hs5) (St.drew hs5) (fun whs7 hs7 => ?_)
 replace hs7 : St _ _ _ _ := hs7
 refine WG.take 0 rfl (by kernel_rfl) (by kernel_rfl) rfl rfl rfl hs7 (fun w_ hs_ => (Run.field Tryz.runUnderlying44 rfl rfl rfl Tryz.sizeOf40 rfl)) ?_
 refine WG.take 1 rfl (by kernel_rfl) (by kernel_rfl) rfl rfl rfl hs7 (fun w_ hs_ => (Run.loadLA (hs_ : St _ _ _ _) 1 Tryz.isAgg40 Tryz.sizeOf40 rfl rfl rfl rfl rfl)) ?_
 refine WG.take 3 rfl (by kernel_rfl) (by kernel_rfl) rfl rfl rfl hs7 (fun w_ hs_ => (Run.field Tryz.runUnderlying44 rfl rfl rfl Tryz.sizeOf40 rfl)) ?_
 refine WG.take 4 rfl (by kernel_rfl) (by kernel_rfl) rfl rfl rfl hs7 (fun w_ hs_ => (Run.loadLA (hs_ : St _ _ _ _) 1 Tryz.isAgg40 Tryz.sizeOf40 rfl rfl rfl rfl rfl)) ?_
 refine WG.take 6 rfl (by kernel_rfl) (by kernel_rfl) rfl rfl rfl hs7 (fun w_ hs_ => (Run.field Tryz.runUnderlying44 rfl rfl rfl Tryz.sizeOf22 rfl)) ?_
 refine WG.take 7 rfl (by kernel_rfl) (by kernel_rfl) rfl rfl rfl hs7 (fun w_ hs_ => (Run.loadL (hs_ : St _ _ _ _) 1 Tryz.isAgg22 rfl rfl rfl rfl)) ?_
 refine WG.all [2] (by kernel_rfl) rfl (WGs.cons (i := 2) rfl rfl ?_ WGs.nil)
 refine WL.call rfl rfl rfl (Run.call Tryz.call221 rfl rfl rfl) (c_impl_copyGrid s.Main _ (okGridR.st0 f_s.Main hs7) ?_) ?_
 · first | (first | assumption | rfl | omega) | (first | omega | exact hsm.1 | exact hsm.2.1 | (exact Nat.le_trans hsm.1 (by decide)) | (exact Nat.le_trans hsm.2.1 (by decide)) | (have := hR _ (gat_mem (F := encRowR) (show i < s.Back.xs.length by omega)); omega))
 rintro _ whs9 ⟨r10, L1_11, rfl, hs9, ho12, hd13⟩
 replace hs9 := hs7.callF hs9
 refine ⟨_, rfl, ?_⟩
 replace hs9 := St.back [_, _] hs9
 refine WL.nil ⟨(St.drop (St.perm hs9 (L' := L1_11 ++ _) (perm_front (A := [_, _]) (List.Perm.refl _))) (List.sublist_append_right L1_11 _)), ?_⟩
 refine WG.take 9 rfl (by kernel_rfl) (by kernel_rfl) rfl rfl rfl (St.drop (St.perm hs9 (L' := L1_11 ++ _) (perm_front (A := [_, _]) (List.Perm.refl _))) (List.sublist_append_right L1_11 _)) (fun w_ hs_ => (Run.field Tryz.runUnderlying44 rfl rfl rfl Tryz.sizeOf40 rfl)) ?_
 refine WG.all [5] (by kernel_rfl) rfl (WGs.cons (i := 5) rfl rfl ?_ WGs.nil)
 refine WL.call rfl rfl rfl (Run.call Tryz.call221 rfl rfl rfl) (c_impl_copyGrid s.Alt _ (okGridR.st0 f_s.Alt hs9) ?_) ?_
 · first | (first | assumption | rfl | omega) | (first | omega | exact hsm.1 | exact hsm.2.1 | (exact Nat.le_trans hsm.1 (by decide)) | (exact Nat.le_trans hsm.2.1 (by decide)) | (have := hR _ (gat_mem (F := encRowR) (show i < s.Back.xs.length by omega)); omega))
 rintro _ whs14 ⟨r15, L1_16, rfl, hs14, ho17, hd18⟩
 replace hs14 := hs9.callF hs14
 refine ⟨_, rfl, ?_⟩
 replace hs14 := St.back [_, _] hs14
 refine WL.nil ⟨(St.drop (St.perm (St.drop (St.perm hs14 (L' := L1_16 ++ _) (perm_front (A := [_, _]) (List.Perm.refl _))) (List.sublist_append_right L1_16 _)) (L' := L1_11 ++ _) (perm_front (A := [_, _]) (List.Perm.refl _))) (List.sublist_append_right L1_11 _)), ?_⟩
 refine WG.all [8] (by kernel_rfl) rfl (WGs.cons (i := 8) rfl rfl ?_ WGs.nil)
 refine WL.call rfl rfl rfl (Run.call Tryz.call219 rfl rfl rfl) (c_slices_Clone_int_int _ _ _ _ _ (SlF.st0 f_s.Tabs hs14) ?_) ?_
 · first | (first | assumption | rfl | omega) | (first | omega | exact hsm.1 | exact hsm.2.1 | (exact Nat.le_trans hsm.1 (by decide)) | (exact Nat.le_trans hsm.2.1 (by decide)) | (have := hR _ (gat_mem (F := encRowR) (show i < s.Back.xs.length by omega)); omega))
 rintro _ whs19 ⟨A20, c21, L1_22, rfl, hs19, ho23⟩
 replace hs19 := hs14.callF hs19
 refine ⟨_, rfl, ?_⟩
 replace hs19 := St.back [_, _] hs19
 refine WL.nil ⟨(St.drop (St.perm (St.drop (St.perm (St.drop (St.perm hs19 (L' := L1_22 ++ _) (perm_front (A := [_, _]) (List.Perm.refl _))) (List.sublist_append_right L1_22 _)) (L' := L1_16 ++ _) (perm_front (A := [_, _]) (List.Perm.refl _))) (List.sublist_append_right L1_16 _)) (L' := L1_11 ++ _) (perm_front (A := [_, _]) (List.Perm.refl _))) (List.sublist_append_right L1_11 _)), ?_⟩
 refine WG.all [10] (by kernel_rfl) rfl (WGs.consK rfl ?_ WGs.nil)
 refine WL.st tbk hs19 1 rfl rfl (fun _ hs24 => ?_)
 refine WL.nil ⟨(St.drop (St.perm (St.drop (St.perm (St.drop (St.perm (St.drop hs24 (List.Sublist.cons_cons _ (List.Sublist.cons _ (List.Sublist.refl _)))) (L' := L1_22 ++ _) (perm_front (A := [_]) (List.Perm.refl _))) (List.sublist_append_right L1_22 _)) (L' := L1_16 ++ _) (perm_front (A := [_]) (List.Perm.refl _))) (List.sublist_append_right L1_16 _)) (L' := L1_11 ++ _) (perm_front (A := [_]) (List.Perm.refl _))) (List.sublist_append_right L1_11 _)), ?_⟩
 refine WH.take 11 rfl (by kernel_rfl) rfl rfl rfl (St.drop (St.perm (St.drop (St.perm (St.drop (St.perm (St.drop hs24 (List.Sublist.cons_cons _ (List.Sublist.cons _ (List.Sublist.refl _)))) (L' := L1_22 ++ _) (perm_front (A := [_]) (List.Perm.refl _))) (List.sublist_append_right L1_22 _)) (L' := L1_16 ++ _) (perm_front (A := [_]) (List.Perm.refl _))) (List.sublist_append_right L1_16 _)) (L' := L1_11 ++ _) (perm_front (A := [_]) (List.Perm.refl _))) (List.sublist_append_right L1_11 _)) (fun w_ hs_ => (Run.field Tryz.runUnderlying44 rfl rfl rfl Tryz.sizeOf40 rfl)) ?_
 refine WH.all [12] (by kernel_rfl) rfl (WHs.cons (i := 12) rfl ?_ WHs.nil)
 refine WL.st tbk hs24 1 rfl rfl (fun _ hs25 => ?_)
 refine WL.nil ⟨(St.drop (St.perm (St.drop (St.perm (St.drop (St.perm (St.drop hs25 (List.Sublist.cons_cons _ (List.Sublist.cons _ (List.Sublist.refl _)))) (L' := L1_22 ++ _) (perm_front (A := [_]) (List.Perm.refl _))) (List.sublist_append_right L1_22 _)) (L' := L1_16 ++ _) (perm_front (A := [_]) (List.Perm.refl _))) (List.sublist_append_right L1_16 _)) (L' := L1_11 ++ _) (perm_front (A := [_]) (List.Perm.refl _))) (List.sublist_append_right L1_11 _)), ?_⟩
 refine WH.take 13 rfl (by kernel_rfl) rfl rfl rfl (St.drop (St.perm (St.drop (St.perm (St.drop (St.perm (St.drop hs25 (List.Sublist.cons_cons _ (List.Sublist.cons _ (List.Sublist.refl _)))) (L' := L1_22 ++ _) (perm_front (A := [_]) (List.Perm.refl _))) (List.sublist_append_right L1_22 _)) (L' := L1_16 ++ _) (perm_front (A := [_]) (List.Perm.refl _))) (List.sublist_append_right L1_16 _)) (L' := L1_11 ++ _) (perm_front (A := [_]) (List.Perm.refl _))) (List.sublist_append_right L1_11 _)) (fun w_ hs_ => (Run.field Tryz.runUnderlying44 rfl rfl rfl Tryz.sizeOf22 rfl)) ?_
 refine WH.all [14] (by kernel_rfl) rfl (WHs.cons (i := 14) rfl ?_ WHs.nil)
 refine WL.st tbk hs25 1 rfl rfl (fun _ hs26 => ?_)
 refine WL.nil ⟨(St.drop (St.perm (St.drop (St.perm (St.drop (St.perm (St.drop hs26 (List.Sublist.cons_cons _ (List.Sublist.cons _ (List.Sublist.refl _)))) (L' := L1_22 ++ _) (perm_front (A := [_]) (List.Perm.refl _))) (List.sublist_append_right L1_22 _)) (L' := L1_16 ++ _) (perm_front (A := [_]) (List.Perm.refl _))) (List.sublist_append_right L1_16 _)) (L' := L1_11 ++ _) (perm_front (A := [_]) (List.Perm.refl _))) (List.sublist_append_right L1_11 _)), ?_⟩
 refine WH.done (by kernel_rfl) ?_
 refine hK6 _ _ ?_
 refine WC.sr ?_
 refine WL.buildF (F := encRowR) hs26 ([]) Tryz.runUnderlying42 Tryz.sizeOf111 Tryz.zeroValue111 rfl rfl rfl rfl rfl rfl rfl rfl rfl rfl rfl rfl (fun A30 c31 L27 whs28 hs28 ho29 => ?_)
 replace hs28 := St.back [_, _] hs28
 obtain ⟨L32, hs33, ho34⟩ := OwnN.fresh (own := ownRowR) (St.perm hs28 (L' := L27 ++ _) (perm_front (A := [_, _]) (List.Perm.refl _))) ho29 Bag.nil
 have hs35 := (St.perm (St.perm hs33 (L' := [_] ++ _) (perm_front (A := L32) (perm_front (A := [_]) (List.Perm.refl _)))) (L' := [_] ++ _) (perm_front (A := [_]) (perm_front (A := L32) (List.Perm.refl _))))
 refine WL.run tbk 1 hs35 [] rfl trivial ?_
 refine WL.nil ?_
 refine WC.seq (fun K36 hK36 => ?_)
 refine WC.rr tbk hs35 [1] rfl ⟨rfl, trivial⟩ ?_
 refine WC.block ?_
 have hM41 := (St.grp1 (L1 := L32) [] (St.perm (St.perm (St.perm (St.perm (St.perm (St.perm hs35 (L' := L1_11 ++ _) (perm_front (A := [_, _]) (perm_front (A := L32) (perm_front (A := L1_22) (perm_front (A := L1_16) (List.Perm.refl _)))))) (L' := L1_16 ++ _) (perm_front (A := L1_11) (perm_front (A := [_, _]) (perm_front (A := L32) (perm_front (A := L1_22) (List.Perm.refl _)))))) (L' := L1_22 ++ _) (perm_front (A := L1_16) (perm_front (A := L1_11) (perm_front (A := [_, _]) (perm_front (A := L32) (List.Perm.refl _)))))) (L' := [_] ++ _) (perm_front (A := L1_22) (perm_front (A := L1_16) (perm_front (A := L1_11) (perm_front (A := [_]) (List.Perm.refl _)))))) (L' := [_] ++ _) (perm_front (A := [_]) (perm_front (A := L1_22) (perm_front (A := L1_16) (perm_front (A := L1_11) (List.Perm.refl _)))))) (L' := L32 ++ _) (perm_front (A := [_, _]) (perm_front (A := L1_22) (perm_front (A := L1_16) (perm_front (A := L1_11) (List.Perm.refl _)))))))
 refine WC.loopV (α := Hp) [(0, _), (1, _), (2, _), (6, _), (7, _), (8, _), (9, _), (10, _), (11, _), (12, _), (13, _), (14, _), (15, _), (16, _), (17, _), (18, _), (19, _), (20, _), (21, _)] ⟨rfl, rfl, rfl, rfl, rfl, rfl, rfl, rfl, rfl, rfl, rfl, rfl, rfl, rfl, rfl, rfl, rfl, rfl, rfl, trivial⟩ (fun a_ => a_) _ hM41 (fun k_ (a_ : Hp) f => ∃ (i : Nat) (rows_ : List RowR) (A37 : Option Addr) (c38 : Nat) (L39 : Hp), k_ = s.Back.n - i ∧ a_ = L39 ∧ (i ≤ s.Back.n) ∧ (rows_.map RowR.dat = (s.Back.xs.take i).map RowR.dat) ∧ (rows_.length = i) ∧ OwnN encRowR ownRowR 111 (.slice A37 (rows_).length c38) (rows_) L39 ∧ Sub [(3, .slice A37 (rows_).length c38), (22, .int .i64 i)] f) (((fun (i : Nat) (rows_ : List RowR) => s.Back.n - i) (0) ([]))) ?_ ?_
 ·refine ⟨0, [], A30, c31, L32, rfl, rfl, ?_, ?_, ?_, ho34, ⟨rfl, rfl, trivial⟩⟩
  · exact Nat.zero_le _
  · rfl
  · rfl
 ·rintro _ L39 f w ⟨i, rows_, A37, c38, _, rfl, rfl, p0, p1, p2, ho40, hG⟩ hF hs42
  refine WC.sub _ (hG.app hF) ?_
  clear hG hF
  replace hs42 := St.ungrp1 [] hs42
  have hs43 := (St.perm (St.perm hs42 (L' := [_] ++ _) (perm_front (A := L39) (perm_front (A := [_]) (List.Perm.refl _)))) (L' := [_] ++ _) (perm_front (A := [_]) (perm_front (A := L39) (List.Perm.refl _))))
  refine WC.rr tbk hs43 [] rfl trivial ?_
  refine WC.seq (fun K44 hK44 => ?_)
  refine WC.cD rfl (fun qh45 => ?_) (fun qh45 => ?_)
  ·have hnl := (SlN.nth f_s.Back (show i < s.Back.n by omega)).Cells.len
   refine WC.skip ?_
   refine hK44 _ _ ?_
   refine WC.seq (fun K46 hK46 => ?_)
   refine WC.block ?_
   refine WC.sr ?_
   refine WL.val rfl rfl rfl (Run.idxN Tryz.runUnderlying42 Tryz.sizeOf111 rfl rfl rfl ?_ ?_ ?_) ?_
   · exact SlF.some_ (SlF.st0 f_s.Back.sl hs43)
   · omega
   · omega
   refine WL.val rfl rfl rfl (Run.loadA Tryz.isAgg111 Tryz.sizeOf111 rfl rfl (SlF.whole (SlF.st0 f_s.Back.sl hs43) ?_)) ?_
   · omega
   refine WL.al hs43 Tryz.zeroValue111 rfl rfl (fun b47 _ hs48 => ?_)
   refine WL.st tbk hs48 0 rfl rfl (fun _ hs49 => ?_)
   refine WL.nil ?_
   refine WC.region ?_
   refine WL.run tbk 3 hs49 [0] rfl ⟨rfl, trivial⟩ ?_
   refine WL.call rfl rfl rfl (Run.call Tryz.call222 rfl rfl rfl) (c_slices_Clone_impl_Cell_impl_Cell _ _ _ _ _ (SlF.st0 (SlN.nth f_s.Back (by omega)).Cells hs49) ?_) ?_
   · first | (first | assumption | rfl | omega) | (first | omega | exact hsm.1 | exact hsm.2.1 | (exact Nat.le_trans hsm.1 (by decide)) | (exact Nat.le_trans hsm.2.1 (by decide)) | (have := hR _ (gat_mem (F := encRowR) (show i < s.Back.xs.length by omega)); omega))
   rintro _ whs50 ⟨A51, c52, L1_53, rfl, hs50, ho54⟩
   replace hs50 := hs49.callF hs50
   refine ⟨_, rfl, ?_⟩
   replace hs50 := St.back [_, _, _] hs50
   refine WL.val rfl rfl rfl (Run.build rfl rfl rfl rfl (built_111_0 _ _ _)) ?_
   refine WL.buildSlice hs50 Tryz.runUnderlying42 Tryz.sizeOf111 Tryz.zeroValue111 rfl rfl rfl rfl rfl rfl rfl rfl rfl rfl (fun b55 whs56 hs56 => ?_)
   obtain ⟨L57, L58, hs61, ho59, ho60⟩ := OwnN.open_ (St.perm hs56 (L' := L39 ++ _) (perm_front (A := [_, _, _, _]) (perm_front (A := L1_53) (List.Perm.refl _)))) ho40
   have hs62 := (St.perm (St.perm (St.perm (St.perm hs61 (L' := [_] ++ _) (perm_front (A := L57) (perm_front (A := L58) (perm_front (A := [_, _, _]) (List.Perm.refl _))))) (L' := [_] ++ _) (perm_front (A := [_]) (perm_front (A := L57) (perm_front (A := L58) (perm_front (A := [_, _]) (List.Perm.refl _)))))) (L' := [_] ++ _) (perm_front (A := [_, _]) (perm_front (A := L57) (perm_front (A := L58) (perm_front (A := [_]) (List.Perm.refl _)))))) (L' := [_] ++ _) (perm_front (A := [_, _, _]) (perm_front (A := L57) (perm_front (A := L58) (List.Perm.refl _)))))
   refine WL.appendG (St.perm hs62 (L' := L57 ++ _) (perm_front (A := [_, _, _, _]) (List.Perm.refl _))) ho59 (srcF (F := encRowR) (ys := [(⟨SlD.of ho54⟩ : RowR)]) Tryz.underlying42 rfl rfl (hs62.own _ (nthL_mem (i := 0) rfl)).1) Tryz.underlying42 info_111 rfl rfl rfl rfl rfl rfl rfl rfl rfl rfl ?_ (fun A66 c67 L63 whs64 hs64 ho65 => ?_)
   · (try simp only [List.length_append, List.length_singleton, List.nil_append, List.length_nil]); first | omega | (have := hR _ (gat_mem (F := encRowR) (show i < s.Back.xs.length by omega)); omega)
   replace hs64 := St.back [_, _, _, _] hs64
   obtain ⟨L68, hs69, hb70⟩ := Bag.put (x := (⟨SlD.of ho54⟩ : RowR)) (St.perm (St.perm hs64 (L' := L1_53 ++ _) (perm_front (A := [_, _, _, _]) (perm_front (A := L63) (perm_front (A := L58) (List.Perm.refl _))))) (L' := L58 ++ _) (perm_front (A := L1_53) (perm_front (A := [_, _, _, _]) (perm_front (A := L63) (List.Perm.refl _))))) ho60 ho54
   have hs71 := (St.perm (St.perm (St.perm (St.perm hs69 (L' := [_] ++ _) (perm_front (A := L68) (perm_front (A := [_, _, _]) (List.Perm.refl _)))) (L' := [_] ++ _) (perm_front (A := [_]) (perm_front (A := L68) (perm_front (A := [_, _]) (List.Perm.refl _))))) (L' := [_] ++ _) (perm_front (A := [_, _]) (perm_front (A := L68) (perm_front (A := [_]) (List.Perm.refl _))))) (L' := [_] ++ _) (perm_front (A := [_, _, _]) (perm_front (A := L68) (List.Perm.refl _))))
   obtain ⟨L73, hs72, ho74⟩ := OwnN.fold (St.perm (St.perm hs71 (L' := L68 ++ _) (perm_front (A := [_, _, _, _]) (List.Perm.refl _))) (L' := L63 ++ _) (perm_front (A := L68) (perm_front (A := [_, _, _, _]) (List.Perm.refl _)))) ho65 hb70
   have hs75 := (St.perm (St.perm (St.perm (St.perm hs72 (L' := [_] ++ _) (perm_front (A := L73) (perm_front (A := [_, _, _]) (List.Perm.refl _)))) (L' := [_] ++ _) (perm_front (A := [_]) (perm_front (A := L73) (perm_front (A := [_, _]) (List.Perm.refl _))))) (L' := [_] ++ _) (perm_front (A := [_, _]) (perm_front (A := L73) (perm_front (A := [_]) (List.Perm.refl _))))) (L' := [_] ++ _) (perm_front (A := [_, _, _]) (perm_front (A := L73) (List.Perm.refl _))))
   refine WL.run tbk 1 hs75 [] rfl trivial ?_
   refine WL.nil ?_
   refine hK46 _ _ ?_
   refine WC.region ?_
   refine WL.run tbk 2 hs75 [] rfl ⟨by omega, trivial⟩ ?_
   refine WL.nil ?_
   refine tkN ?_
   replace hs75 := St.drop hs75 (List.sublist_append_right [_, _] _)
   have hF76 := (St.grp1 (L1 := L73) [] (St.perm (St.perm (St.perm (St.perm (St.perm (St.perm hs75 (L' := L1_11 ++ _) (perm_front (A := [_, _]) (perm_front (A := L73) (perm_front (A := L1_22) (perm_front (A := L1_16) (List.Perm.refl _)))))) (L' := L1_16 ++ _) (perm_front (A := L1_11) (perm_front (A := [_, _]) (perm_front (A := L73) (perm_front (A := L1_22) (List.Perm.refl _)))))) (L' := L1_22 ++ _) (perm_front (A := L1_16) (perm_front (A := L1_11) (perm_front (A := [_, _]) (perm_front (A := L73) (List.Perm.refl _)))))) (L' := [_] ++ _) (perm_front (A := L1_22) (perm_front (A := L1_16) (perm_front (A := L1_11) (perm_front (A := [_]) (List.Perm.refl _)))))) (L' := [_] ++ _) (perm_front (A := [_]) (perm_front (A := L1_22) (perm_front (A := L1_16) (perm_front (A := L1_11) (List.Perm.refl _)))))) (L' := L73 ++ _) (perm_front (A := [_, _]) (perm_front (A := L1_22) (perm_front (A := L1_16) (perm_front (A := L1_11) (List.Perm.refl _)))))))
   refine ⟨⟨rfl, rfl, rfl, rfl, rfl, rfl, rfl, rfl, rfl, rfl, rfl, rfl, rfl, rfl, rfl, rfl, rfl, rfl, rfl, trivial⟩, _, hF76, _, ?_, i + 1, ((rows_) ++ [(⟨SlD.of ho54⟩ : RowR)]), A66, c67, L73, rfl, rfl, ?_, ?_, ?_, ho74, ⟨rfl, rfl, trivial⟩⟩
   · omega
   · omega
   · rw [List.map_append, p1, map_take_succ (F := encRowR) (by omega)]; congr 1
   · simp only [List.length_append, List.length_singleton]; omega
  ·refine WC.exit ?_
   refine hK36 _ _ ?_
   refine WC.sr ?_
   refine WL.run tbk 2 hs43 [] rfl trivial ?_
   refine WL.st tbk hs43 1 rfl rfl (fun _ hs77 => ?_)
   refine WL.nil ?_
   refine WC.sr ?_
   refine WL.run tbk 1 hs77 [1] rfl ⟨rfl, trivial⟩ ?_
   refine WL.st tbk hs77 0 rfl rfl (fun _ hs78 => ?_)
   refine WL.nil ?_
   refine WC.ret ?_
   refine retV1 rfl (resV.cellA tbk hs78 0 rfl rfl rfl rfl) ?_
   have hi_ : i = s.Back.n := by omega
   have hbk : rows_.map RowR.dat = s.dat.Back := by rw [p1, List.take_of_length_le (by omega)]; rfl
   obtain ⟨L80, hs79, ho81⟩ := ownScrR.fold ⟨0, 0, ⟨0, 0, ⟨_, _, _, _⟩⟩, ⟨0, 0, ⟨_, _, _, _⟩⟩, false, 0, 0, false, ⟨0, 0, false, false, false⟩, 0, 0, false, false, 0, 0, ⟨0, 0, false, false, false⟩, ⟨_, _, _, _⟩, 0, ⟨_, _, _, _⟩⟩ (St.perm (St.perm (St.perm (St.perm hs78 (L' := L39 ++ _) (perm_front (A := [_, _]) (List.Perm.refl _))) (L' := L1_22 ++ _) (perm_front (A := L39) (perm_front (A := [_, _]) (List.Perm.refl _)))) (L' := L1_16 ++ _) (perm_front (A := L1_22) (perm_front (A := L39) (perm_front (A := [_, _]) (List.Perm.refl _))))) (L' := L1_11 ++ _) (perm_front (A := L1_16) (perm_front (A := L1_22) (perm_front (A := L39) (perm_front (A := [_, _]) (List.Perm.refl _)))))) ho12 ho17 ho23 ho40
   have hs82 := (St.perm (St.perm hs79 (L' := [_] ++ _) (perm_front (A := L80) (perm_front (A := [_]) (List.Perm.refl _)))) (L' := [_] ++ _) (perm_front (A := [_]) (perm_front (A := L80) (List.Perm.refl _))))
   refine ⟨⟨s.W, s.H, ⟨r10.W, r10.H, SlD.of ho12⟩, ⟨r15.W, r15.H, SlD.of ho17⟩, s.OnAlt, s.X, s.Y, s.Wrap, ⟨s.A.Fg, s.A.Bg, s.A.Bold, s.A.Under, s.A.Turn⟩, s.Top, s.Bot, s.NoWrap, s.Hide, s.SaveX, s.SaveY, ⟨s.SaveA.Fg, s.SaveA.Bg, s.SaveA.Bold, s.SaveA.Under, s.SaveA.Turn⟩, SlD.of ho23, s.Limit, SlD.ofN ho40⟩, _, rfl, (St.keep1 (St.perm hs82 (L' := L80 ++ _) (perm_front (A := [_, _]) (List.Perm.refl _)))), ?_, ?_⟩
   · exact (by exact ho81)
   · exact ScrD.ext' rfl rfl hd13 hd18 rfl rfl rfl rfl rfl rfl rfl rfl rfl rfl rfl rfl rfl rfl hbk
theorem c_spec_l09Copy (s : ScrR) (w : World) (f_s : okScrR 549755813888 w s) (hsm : smScr 1048576 s.dat) :
    Calls Tryz.prog 86 #[.agg #[i64 s.W, i64 s.H, i64 s.Main.W, i64 s.Main.H, .slice s.Main.Cells.A s.Main.Cells.n s.Main.Cells.c, i64 s.Alt.W, i64 s.Alt.H, .slice s.Alt.Cells.A s.Alt.Cells.n s.Alt.Cells.c, .bool s.OnAlt, i64 s.X, i64 s.Y, .bool s.Wrap, i64 s.A.Fg, i64 s.A.Bg, .bool s.A.Bold, .bool s.A.Under, .bool s.A.Turn, i64 s.Top, i64 s.Bot, .bool s.NoWrap, .bool s.Hide, i64 s.SaveX, i64 s.SaveY, i64 s.SaveA.Fg, i64 s.SaveA.Bg, .bool s.SaveA.Bold, .bool s.SaveA.Under, .bool s.SaveA.Turn, .slice s.Tabs.A s.Tabs.n s.Tabs.c, i64 s.Limit, .slice s.Back.A s.Back.n s.Back.c]] w fun e w' => ∃ r L1, e = .returned (.agg #[i64 r.W, i64 r.H, i64 r.Main.W, i64 r.Main.H, .slice r.Main.Cells.A r.Main.Cells.n r.Main.Cells.c, i64 r.Alt.W, i64 r.Alt.H, .slice r.Alt.Cells.A r.Alt.Cells.n r.Alt.Cells.c, .bool r.OnAlt, i64 r.X, i64 r.Y, .bool r.Wrap, i64 r.A.Fg, i64 r.A.Bg, .bool r.A.Bold, .bool r.A.Under, .bool r.A.Turn, i64 r.Top, i64 r.Bot, .bool r.NoWrap, .bool r.Hide, i64 r.SaveX, i64 r.SaveY, i64 r.SaveA.Fg, i64 r.SaveA.Bg, .bool r.SaveA.Bold, .bool r.SaveA.Under, .bool r.SaveA.Turn, .slice r.Tabs.A r.Tabs.n r.Tabs.c, i64 r.Limit, .slice r.Back.A r.Back.n r.Back.c]) ∧ St w [] L1 w' ∧ ownScrR r L1 ∧ r.dat = s.dat := by
 have nb_s_Main_Cells := f_s.Main.Cells_n
 have nl_s_Main_Cells := f_s.Main.Cells.len
 have nb_s_Alt_Cells := f_s.Alt.Cells_n
 have nl_s_Alt_Cells := f_s.Alt.Cells.len
 have nb_s_Tabs := f_s.Tabs_n
 have nl_s_Tabs := f_s.Tabs.len
 have nb_s_Back := f_s.Back_n
 have nl_s_Back := f_s.Back.sl.len
 have hM : s.Main.Cells.xs.length ≤ 1048576 := hsm.1
 have hA : s.Alt.Cells.xs.length ≤ 1048576 := hsm.2.1
 have hT : s.Tabs.xs.length ≤ 1048576 := hsm.2.2.1
 have hB : s.Back.xs.length ≤ 1048576 := by have h_ := hsm.2.2.2.1; simpa [ScrR.dat] using h_
 have hR : ∀ y, y ∈ s.Back.xs → y.Cells.xs.length ≤ 1048576 := fun y hy => hsm.2.2.2.2 _ (List.mem_map_of_mem hy)
 refine enter (vs := [.agg #[i64 s.W, i64 s.H, i64 s.Main.W, i64 s.Main.H, .slice s.Main.Cells.A s.Main.Cells.n s.Main.Cells.c, i64 s.Alt.W, i64 s.Alt.H, .slice s.Alt.Cells.A s.Alt.Cells.n s.Alt.Cells.c, .bool s.OnAlt, i64 s.X, i64 s.Y, .bool s.Wrap, i64 s.A.Fg, i64 s.A.Bg, .bool s.A.Bold, .bool s.A.Under, .bool s.A.Turn, i64 s.Top, i64 s.Bot, .bool s.NoWrap, .bool s.Hide, i64 s.SaveX, i64 s.SaveY, i64 s.SaveA.Fg, i64 s.SaveA.Bg, .bool s.SaveA.Bold, .bool s.SaveA.Under, .bool s.SaveA.Turn, .slice s.Tabs.A s.Tabs.n s.Tabs.c, i64 s.Limit, .slice s.Back.A s.Back.n s.Back.c]]) 39 Tryz.func86 rfl Tryz.ntmps86 rfl rfl ?_
 have hs1 := St.init w
 refine WC.sr ?_
 refine WL.bx hs1 rfl (fun b2 _ hs3 => ?_)
 refine WL.al hs3 Tryz.zeroValue44 rfl rfl (fun b4 _ hs5 => ?_)
 refine WL.nil ?_
 refine WC.sr ?_
 refine WL.run tbk 2 hs5 [1] rfl ⟨rfl, trivial⟩ ?_
 refine WL.call rfl rfl rfl (Run.call Tryz.call169 rfl rfl rfl) (c_spec_l07Copy s.Main _ (okGridR.st0 f_s.Main hs5) ?_) ?_
 · first | (first | assumption | rfl | omega) | (first | omega | exact hsm.1 | exact hsm.2.1 | (exact Nat.le_trans hsm.1 (by decide)) | (exact Nat.le_trans hsm.2.1 (by decide)) | (have := hR _ (gat_mem (F := encRowR) (show i < s.Back.xs.length by omega)); omega))
 rintro _ whs6 ⟨r7, L1_8, rfl, hs6, ho9, hd10⟩
 replace hs6 := hs5.callF hs6
 refine ⟨_, rfl, ?_⟩
 replace hs6 := St.back [_, _] hs6
 refine WL.run tbk 1 hs6 [] rfl trivial ?_
 refine WL.st tbk hs6 1 rfl rfl (fun _ hs11 => ?_)
 refine WL.nil ?_
 refine WC.sr ?_
 refine WL.run tbk 2 hs11 [1] rfl ⟨rfl, trivial⟩ ?_
 refine WL.call rfl rfl rfl (Run.call Tryz.call169 rfl rfl rfl) (c_spec_l07Copy s.Alt _ (okGridR.st0 f_s.Alt hs11) ?_) ?_
 · first | (first | assumption | rfl | omega) | (first | omega | exact hsm.1 | exact hsm.2.1 | (exact Nat.le_trans hsm.1 (by decide)) | (exact Nat.le_trans hsm.2.1 (by decide)) | (have := hR _ (gat_mem (F := encRowR) (show i < s.Back.xs.length by omega)); omega))
 rintro _ whs12 ⟨r13, L1_14, rfl, hs12, ho15, hd16⟩
 replace hs12 := hs11.callF hs12
 refine ⟨_, rfl, ?_⟩
 replace hs12 := St.back [_, _] hs12
 refine WL.run tbk 1 hs12 [] rfl trivial ?_
 refine WL.st tbk hs12 1 rfl rfl (fun _ hs17 => ?_)
 refine WL.nil ?_
 refine WC.sr ?_
 refine WL.buildF (F := encI) hs17 ([]) Tryz.runUnderlying22 Tryz.sizeOf3 Tryz.zeroValue3 rfl rfl rfl rfl rfl rfl rfl rfl rfl rfl rfl rfl (fun A21 c22 L18 whs19 hs19 ho20 => ?_)
 replace hs19 := St.back [_, _] hs19
 refine WL.run tbk 2 hs19 [1] rfl ⟨rfl, trivial⟩ ?_
 refine WL.appendG (St.perm hs19 (L' := L18 ++ _) (perm_front (A := [_, _]) (List.Perm.refl _))) ho20 (SlF.src (SlF.st0 f_s.Tabs hs19) Tryz.underlying22) Tryz.underlying22 info_3 rfl rfl rfl rfl rfl rfl rfl rfl rfl rfl ?_ (fun A26 c27 L23 whs24 hs24 ho25 => ?_)
 · (try simp only [List.length_append, List.length_singleton, List.nil_append, List.length_nil]); first | omega | (have := hR _ (gat_mem (F := encRowR) (show i < s.Back.xs.length by omega)); omega)
 replace hs24 := St.back [_, _] hs24
 refine WL.run tbk 1 hs24 [] rfl trivial ?_
 refine WL.st tbk hs24 1 rfl rfl (fun _ hs28 => ?_)
 refine WL.nil ?_
 refine WC.sr ?_
 refine WL.buildF (F := encRowR) hs28 ([]) Tryz.runUnderlying42 Tryz.sizeOf111 Tryz.zeroValue111 rfl rfl rfl rfl rfl rfl rfl rfl rfl rfl rfl rfl (fun A32 c33 L29 whs30 hs30 ho31 => ?_)
 replace hs30 := St.back [_, _] hs30
 obtain ⟨L34, hs35, ho36⟩ := OwnN.fresh (own := ownRowR) (St.perm hs30 (L' := L29 ++ _) (perm_front (A := [_, _]) (List.Perm.refl _))) ho31 Bag.nil
 have hs37 := (St.perm (St.perm hs35 (L' := [_] ++ _) (perm_front (A := L34) (perm_front (A := [_]) (List.Perm.refl _)))) (L' := [_] ++ _) (perm_front (A := [_]) (perm_front (A := L34) (List.Perm.refl _))))
 refine WL.run tbk 1 hs37 [] rfl trivial ?_
 refine WL.nil ?_
 refine WC.seq (fun K38 hK38 => ?_)
 refine WC.rr tbk hs37 [1] rfl ⟨rfl, trivial⟩ ?_
 refine WC.block ?_
 have hM43 := (St.grp1 (L1 := L34) [] (St.perm (St.perm (St.perm (St.perm (St.perm (St.perm hs37 (L' := L1_8 ++ _) (perm_front (A := [_, _]) (perm_front (A := L34) (perm_front (A := L23) (perm_front (A := L1_14) (List.Perm.refl _)))))) (L' := L1_14 ++ _) (perm_front (A := L1_8) (perm_front (A := [_, _]) (perm_front (A := L34) (perm_front (A := L23) (List.Perm.refl _)))))) (L' := L23 ++ _) (perm_front (A := L1_14) (perm_front (A := L1_8) (perm_front (A := [_, _]) (perm_front (A := L34) (List.Perm.refl _)))))) (L' := [_] ++ _) (perm_front (A := L23) (perm_front (A := L1_14) (perm_front (A := L1_8) (perm_front (A := [_]) (List.Perm.refl _)))))) (L' := [_] ++ _) (perm_front (A := [_]) (perm_front (A := L23) (perm_front (A := L1_14) (perm_front (A := L1_8) (List.Perm.refl _)))))) (L' := L34 ++ _) (perm_front (A := [_, _]) (perm_front (A := L23) (perm_front (A := L1_14) (perm_front (A := L1_8) (List.Perm.refl _)))))))
 refine WC.loopV (α := Hp) [(0, _), (1, _), (2, _), (6, _), (7, _), (8, _), (9, _), (10, _), (11, _), (12, _), (13, _), (14, _), (15, _), (16, _), (17, _), (18, _), (19, _), (20, _), (21, _), (22, _)] ⟨rfl, rfl, rfl, rfl, rfl, rfl, rfl, rfl, rfl, rfl, rfl, rfl, rfl, rfl, rfl, rfl, rfl, rfl, rfl, rfl, trivial⟩ (fun a_ => a_) _ hM43 (fun k_ (a_ : Hp) f => ∃ (i : Nat) (rows_ : List RowR) (A39 : Option Addr) (c40 : Nat) (L41 : Hp), k_ = s.Back.n - i ∧ a_ = L41 ∧ (i ≤ s.Back.n) ∧ (rows_.map RowR.dat = (s.Back.xs.take i).map RowR.dat) ∧ (rows_.length = i) ∧ OwnN encRowR ownRowR 111 (.slice A39 (rows_).length c40) (rows_) L41 ∧ Sub [(3, .slice A39 (rows_).length c40), (23, .int .i64 i)] f) (((fun (i : Nat) (rows_ : List RowR) => s.Back.n - i) (0) ([]))) ?_ ?_
 ·refine ⟨0, [], A32, c33, L34, rfl, rfl, ?_, ?_, ?_, ho36, ⟨rfl, rfl, trivial⟩⟩
  · exact Nat.zero_le _
  · rfl
  · rfl
 ·rintro _ L41 f w ⟨i, rows_, A39, c40, _, rfl, rfl, p0, p1, p2, ho42, hG⟩ hF hs44
  refine WC.sub _ (hG.app hF) ?_
  clear hG hF
  replace hs44 := St.ungrp1 [] hs44
  have hs45 := (St.perm (St.perm hs44 (L' := [_] ++ _) (perm_front (A := L41) (perm_front (A := [_]) (List.Perm.refl _)))) (L' := [_] ++ _) (perm_front (A := [_]) (perm_front (A := L41) (List.Perm.refl _))))
  refine WC.rr tbk hs45 [] rfl trivial ?_
  refine WC.seq (fun K46 hK46 => ?_)
  refine WC.cD rfl (fun qh47 => ?_) (fun qh47 => ?_)
  ·have hnl := (SlN.nth f_s.Back (show i < s.Back.n by omega)).Cells.len
   refine WC.skip ?_
   refine hK46 _ _ ?_
   refine WC.seq (fun K48 hK48 => ?_)
   refine WC.block ?_
   refine WC.sr ?_
   refine WL.val rfl rfl rfl (Run.idxN Tryz.runUnderlying42 Tryz.sizeOf111 rfl rfl rfl ?_ ?_ ?_) ?_
   · exact SlF.some_ (SlF.st0 f_s.Back.sl hs45)
   · omega
   · omega
   refine WL.val rfl rfl rfl (Run.loadA Tryz.isAgg111 Tryz.sizeOf111 rfl rfl (SlF.whole (SlF.st0 f_s.Back.sl hs45) ?_)) ?_
   · omega
   refine WL.al hs45 Tryz.zeroValue111 rfl rfl (fun b49 _ hs50 => ?_)
   refine WL.st tbk hs50 0 rfl rfl (fun _ hs51 => ?_)
   refine WL.nil ?_
   refine WC.region ?_
   refine WL.run tbk 1 hs51 [] rfl trivial ?_
   refine WL.buildF (F := encCell) hs51 ([]) Tryz.runUnderlying38 Tryz.sizeOf65 Tryz.zeroValue65 rfl rfl rfl rfl rfl rfl rfl rfl rfl rfl rfl rfl (fun A55 c56 L52 whs53 hs53 ho54 => ?_)
   replace hs53 := St.back [_, _, _] hs53
   refine WL.run tbk 2 hs53 [0] rfl ⟨rfl, trivial⟩ ?_
   refine WL.appendG (St.perm hs53 (L' := L52 ++ _) (perm_front (A := [_, _, _]) (List.Perm.refl _))) ho54 (SlF.src (SlF.st0 (SlN.nth f_s.Back (by omega)).Cells hs53) Tryz.underlying38) Tryz.underlying38 info_65 rfl rfl rfl rfl rfl rfl rfl rfl rfl rfl ?_ (fun A60 c61 L57 whs58 hs58 ho59 => ?_)
   · (try simp only [List.length_append, List.length_singleton, List.nil_append, List.length_nil]); first | omega | (have := hR _ (gat_mem (F := encRowR) (show i < s.Back.xs.length by omega)); omega)
   replace hs58 := St.back [_, _, _] hs58
   refine WL.val rfl rfl rfl (Run.build rfl rfl rfl rfl (built_111_0 _ _ _)) ?_
   refine WL.buildSlice hs58 Tryz.runUnderlying42 Tryz.sizeOf111 Tryz.zeroValue111 rfl rfl rfl rfl rfl rfl rfl rfl rfl rfl (fun b62 whs63 hs63 => ?_)
   obtain ⟨L64, L65, hs68, ho66, ho67⟩ := OwnN.open_ (St.perm hs63 (L' := L41 ++ _) (perm_front (A := [_, _, _, _]) (perm_front (A := L57) (List.Perm.refl _)))) ho42
   have hs69 := (St.perm (St.perm (St.perm (St.perm hs68 (L' := [_] ++ _) (perm_front (A := L64) (perm_front (A := L65) (perm_front (A := [_, _, _]) (List.Perm.refl _))))) (L' := [_] ++ _) (perm_front (A := [_]) (perm_front (A := L64) (perm_front (A := L65) (perm_front (A := [_, _]) (List.Perm.refl _)))))) (L' := [_] ++ _) (perm_front (A := [_, _]) (perm_front (A := L64) (perm_front (A := L65) (perm_front (A := [_]) (List.Perm.refl _)))))) (L' := [_] ++ _) (perm_front (A := [_, _, _]) (perm_front (A := L64) (perm_front (A := L65) (List.Perm.refl _)))))
   refine WL.appendG (St.perm hs69 (L' := L64 ++ _) (perm_front (A := [_, _, _, _]) (List.Perm.refl _))) ho66 (srcF (F := encRowR) (ys := [(⟨SlD.of ho59⟩ : RowR)]) Tryz.underlying42 rfl rfl (hs69.own _ (nthL_mem (i := 0) rfl)).1) Tryz.underlying42 info_111 rfl rfl rfl rfl rfl rfl rfl rfl rfl rfl ?_ (fun A73 c74 L70 whs71 hs71 ho72 => ?_)
   · (try simp only [List.length_append, List.length_singleton, List.nil_append, List.length_nil]); first | omega | (have := hR _ (gat_mem (F := encRowR) (show i < s.Back.xs.length by omega)); omega)
   replace hs71 := St.back [_, _, _, _] hs71
   obtain ⟨L75, hs76, hb77⟩ := Bag.put (x := (⟨SlD.of ho59⟩ : RowR)) (St.perm (St.perm hs71 (L' := L57 ++ _) (perm_front (A := [_, _, _, _]) (perm_front (A := L70) (perm_front (A := L65) (List.Perm.refl _))))) (L' := L65 ++ _) (perm_front (A := L57) (perm_front (A := [_, _, _, _]) (perm_front (A := L70) (List.Perm.refl _))))) ho67 ho59
   have hs78 := (St.perm (St.perm (St.perm (St.perm hs76 (L' := [_] ++ _) (perm_front (A := L75) (perm_front (A := [_, _, _]) (List.Perm.refl _)))) (L' := [_] ++ _) (perm_front (A := [_]) (perm_front (A := L75) (perm_front (A := [_, _]) (List.Perm.refl _))))) (L' := [_] ++ _) (perm_front (A := [_, _]) (perm_front (A := L75) (perm_front (A := [_]) (List.Perm.refl _))))) (L' := [_] ++ _) (perm_front (A := [_, _, _]) (perm_front (A := L75) (List.Perm.refl _))))
   obtain ⟨L80, hs79, ho81⟩ := OwnN.fold (St.perm (St.perm hs78 (L' := L75 ++ _) (perm_front (A := [_, _, _, _]) (List.Perm.refl _))) (L' := L70 ++ _) (perm_front (A := L75) (perm_front (A := [_, _, _, _]) (List.Perm.refl _)))) ho72 hb77
   have hs82 := (St.perm (St.perm (St.perm (St.perm hs79 (L' := [_] ++ _) (perm_front (A := L80) (perm_front (A := [_, _, _]) (List.Perm.refl _)))) (L' := [_] ++ _) (perm_front (A := [_]) (perm_front (A := L80) (perm_front (A := [_, _]) (List.Perm.refl _))))) (L' := [_] ++ _) (perm_front (A := [_, _]) (perm_front (A := L80) (perm_front (A := [_]) (List.Perm.refl _))))) (L' := [_] ++ _) (perm_front (A := [_, _, _]) (perm_front (A := L80) (List.Perm.refl _))))
   refine WL.run tbk 1 hs82 [] rfl trivial ?_
   refine WL.nil ?_
   refine hK48 _ _ ?_
   refine WC.region ?_
   refine WL.run tbk 2 hs82 [] rfl ⟨by omega, trivial⟩ ?_
   refine WL.nil ?_
   refine tkN ?_
   replace hs82 := St.drop hs82 (List.sublist_append_right [_, _] _)
   have hF83 := (St.grp1 (L1 := L80) [] (St.perm (St.perm (St.perm (St.perm (St.perm (St.perm hs82 (L' := L1_8 ++ _) (perm_front (A := [_, _]) (perm_front (A := L80) (perm_front (A := L23) (perm_front (A := L1_14) (List.Perm.refl _)))))) (L' := L1_14 ++ _) (perm_front (A := L1_8) (perm_front (A := [_, _]) (perm_front (A := L80) (perm_front (A := L23) (List.Perm.refl _)))))) (L' := L23 ++ _) (perm_front (A := L1_14) (perm_front (A := L1_8) (perm_front (A := [_, _]) (perm_front (A := L80) (List.Perm.refl _)))))) (L' := [_] ++ _) (perm_front (A := L23) (perm_front (A := L1_14) (perm_front (A := L1_8) (perm_front (A := [_]) (List.Perm.refl _)))))) (L' := [_] ++ _) (perm_front (A := [_]) (perm_front (A := L23) (perm_front (A := L1_14) (perm_front (A := L1_8) (List.Perm.refl _)))))) (L' := L80 ++ _) (perm_front (A := [_, _]) (perm_front (A := L23) (perm_front (A := L1_14) (perm_front (A := L1_8) (List.Perm.refl _)))))))
   refine ⟨⟨rfl, rfl, rfl, rfl, rfl, rfl, rfl, rfl, rfl, rfl, rfl, rfl, rfl, rfl, rfl, rfl, rfl, rfl, rfl, rfl, trivial⟩, _, hF83, _, ?_, i + 1, ((rows_) ++ [(⟨SlD.of ho59⟩ : RowR)]), A73, c74, L80, rfl, rfl, ?_, ?_, ?_, ho81, ⟨rfl, rfl, trivial⟩⟩
   · omega
   · omega
   · rw [List.map_append, p1, map_take_succ (F := encRowR) (by omega)]; congr 1
   · simp only [List.length_append, List.length_singleton]; omega
  ·refine WC.exit ?_
   refine hK38 _ _ ?_
   refine WC.sr ?_
   refine WL.run tbk 2 hs45 [] rfl trivial ?_
   refine WL.st tbk hs45 1 rfl rfl (fun _ hs84 => ?_)
   refine WL.nil ?_
   refine WC.sr ?_
   refine WL.run tbk 1 hs84 [1] rfl ⟨rfl, trivial⟩ ?_
   refine WL.st tbk hs84 0 rfl rfl (fun _ hs85 => ?_)
   refine WL.nil ?_
   refine WC.ret ?_
   refine retV1 rfl (resV.cellA tbk hs85 0 rfl rfl rfl rfl) ?_
   have hi_ : i = s.Back.n := by omega
   have hbk : rows_.map RowR.dat = s.dat.Back := by rw [p1, List.take_of_length_le (by omega)]; rfl
   obtain ⟨L87, hs86, ho88⟩ := ownScrR.fold ⟨0, 0, ⟨0, 0, ⟨_, _, _, _⟩⟩, ⟨0, 0, ⟨_, _, _, _⟩⟩, false, 0, 0, false, ⟨0, 0, false, false, false⟩, 0, 0, false, false, 0, 0, ⟨0, 0, false, false, false⟩, ⟨_, _, _, _⟩, 0, ⟨_, _, _, _⟩⟩ (St.perm (St.perm (St.perm (St.perm hs85 (L' := L41 ++ _) (perm_front (A := [_, _]) (List.Perm.refl _))) (L' := L23 ++ _) (perm_front (A := L41) (perm_front (A := [_, _]) (List.Perm.refl _)))) (L' := L1_14 ++ _) (perm_front (A := L23) (perm_front (A := L41) (perm_front (A := [_, _]) (List.Perm.refl _))))) (L' := L1_8 ++ _) (perm_front (A := L1_14) (perm_front (A := L23) (perm_front (A := L41) (perm_front (A := [_, _]) (List.Perm.refl _)))))) ho9 ho15 ho25 ho42
   have hs89 := (St.perm (St.perm hs86 (L' := [_] ++ _) (perm_front (A := L87) (perm_front (A := [_]) (List.Perm.refl _)))) (L' := [_] ++ _) (perm_front (A := [_]) (perm_front (A := L87) (List.Perm.refl _))))
   refine ⟨⟨s.W, s.H, ⟨r7.W, r7.H, SlD.of ho9⟩, ⟨r13.W, r13.H, SlD.of ho15⟩, s.OnAlt, s.X, s.Y, s.Wrap, ⟨s.A.Fg, s.A.Bg, s.A.Bold, s.A.Under, s.A.Turn⟩, s.Top, s.Bot, s.NoWrap, s.Hide, s.SaveX, s.SaveY, ⟨s.SaveA.Fg, s.SaveA.Bg, s.SaveA.Bold, s.SaveA.Under, s.SaveA.Turn⟩, SlD.of ho25, s.Limit, SlD.ofN ho42⟩, _, rfl, (St.keep1 (St.perm hs89 (L' := L87 ++ _) (perm_front (A := [_, _]) (List.Perm.refl _)))), ?_, ?_⟩
   · exact (by exact ho88)
   · exact ScrD.ext' rfl rfl hd10 hd16 rfl rfl rfl rfl rfl rfl rfl rfl rfl rfl rfl rfl rfl rfl hbk
end Go.Proofs.YtlmcekfdlgkffaaGreat
