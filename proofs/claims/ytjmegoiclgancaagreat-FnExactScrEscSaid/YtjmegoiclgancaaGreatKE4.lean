/-
  What the proof stands on, part 4.
-/
import Derived.Test.YtjmegoiclgancaaGreatKE3
namespace Go.Proofs.YtjmegoiclgancaaGreat
open Go Go.RowKit
set_option linter.unusedVariables false
set_option linter.unusedSimpArgs false
theorem built_98_0 (x0 : Option Addr) (x1 : Nat) (x2 : Nat) : Tryz.prog.built 98 [(0, .slice x0 x1 x2)] = some (List.toArray [.slice x0 x1 x2]) := by kernel_rfl
theorem c_slices_Clone_impl_Cell_impl_Cell (A_s : Option Addr) (n_s c_s : Nat) (s : List CellD) (w : World) (f_s : SlF encCell w A_s n_s s) (hn : n_s ≤ 268435456) :
    Calls Tryz.prog 208 #[.slice A_s n_s c_s] w fun e w' => ∃ A c L1, e = .returned (.slice A (s).length c) ∧ St w [] L1 w' ∧ OwnF encCell 75 (.slice A (s).length c) (s) L1 := by
 have hl := f_s.len
 refine enter (vs := [.slice A_s n_s c_s]) 8 Tryz.func208 rfl Tryz.ntmps208 rfl rfl ?_
 have hs1 := St.init w
 refine WC.rr tbk hs1 [] rfl trivial ?_
 refine WC.seq (fun K2 hK2 => ?_)
 refine WC.sr ?_
 refine WL.run tbk 1 hs1 [] rfl trivial ?_
 refine WL.val rfl rfl rfl (Run.eqlNil Tryz.underlying26 rfl rfl rfl) ?_
 refine WL.nil ?_
 refine WC.cond rfl (fun h3 => ?_) (fun h3 => ?_)
 ·have qh3 := h3
  try simp only [bf, within_iff, within_not] at qh3
  obtain rfl : A_s = none := by simpa using qh3
  have h0 : n_s = 0 := SlF.none_ f_s
  have hs : s = [] := List.eq_nil_of_length_eq_zero (by omega)
  refine WC.rr tbk hs1 [] rfl trivial ?_
  refine WC.ret ?_
  refine tkR ?_
  clear hK2
  refine retV1 rfl (resV.tmp rfl) ?_
  have hx_ := OwnF.eqOf (xs := s) (OwnF.nil encCell 75) (by rw [hs])
  rw [← hx_]
  exact ⟨_, _, _, rfl, hs1.nil, (OwnF.nil encCell 75)⟩
 ·have qh3 := h3
  try simp only [bf, within_iff, within_not] at qh3
  refine WC.skip ?_
  refine hK2 _ _ ?_
  refine WC.sr ?_
  refine WL.buildF (F := encCell) hs1 ([]) Tryz.runUnderlying26 Tryz.sizeOf75 Tryz.zeroValue75 rfl rfl rfl rfl rfl rfl rfl rfl rfl rfl rfl rfl (fun A7 c8 L4 whs5 hs5 ho6 => ?_)
  refine WL.run tbk 1 hs5 [] rfl trivial ?_
  refine WL.appendG hs5 ho6 (SlF.src (SlF.st0 f_s hs5) Tryz.underlying26) Tryz.underlying26 info_75 rfl rfl rfl rfl rfl rfl rfl rfl rfl rfl ?_ (fun A12 c13 L9 whs10 hs10 ho11 => ?_)
  · simp; omega
  refine WL.run tbk 1 hs10 [] rfl trivial ?_
  refine WL.nil ?_
  refine WC.ret ?_
  refine retV1 rfl (resV.tmp rfl) ?_
  have hx_ := OwnF.eqOf (xs := s) ho11 (by simp)
  rw [← hx_]
  first | exact ⟨_, _, _, rfl, (St.keep1 hs10), ho11⟩ | exact ⟨A12, c13, _, by rw [OwnF.len_ ho11], (St.keep1 hs10), by rw [OwnF.len_ ho11]; exact ho11⟩
theorem c_impl_copyGrid (g : GridR) (w : World) (f_g : okGridR 549755813888 w g) (hsm : smGrid 1048576 g.dat) :
    Calls Tryz.prog 206 #[.agg #[i64 g.W, i64 g.H, .slice g.Cells.A g.Cells.n g.Cells.c]] w fun e w' => ∃ r L1, e = .returned (.agg #[i64 r.W, i64 r.H, .slice r.Cells.A r.Cells.n r.Cells.c]) ∧ St w [] L1 w' ∧ ownGridR r L1 ∧ r.dat = g.dat := by
 have nb_g_Cells := f_g.Cells_n
 have nl_g_Cells := f_g.Cells.len
 have hl9 : g.Cells.xs.length ≤ 1048576 := hsm
 refine enter (vs := [.agg #[i64 g.W, i64 g.H, .slice g.Cells.A g.Cells.n g.Cells.c]]) 11 Tryz.func206 rfl Tryz.ntmps206 rfl rfl ?_
 have hs1 := St.init w
 refine WC.sr ?_
 refine WL.bx hs1 rfl (fun b2 _ hs3 => ?_)
 refine WL.al hs3 Tryz.zeroValue28 rfl rfl (fun b4 _ hs5 => ?_)
 refine WL.nil ?_
 refine WC.seq (fun K6 hK6 => ?_)
 refine WC.regionH2 (fun w' => St _ _ _ w') (fun w' => St _ _ _ w') mixed (St.drew (St.drop hs5 (List.sublist_append_right [_] _))) (St.drew hs5) (fun whs7 hs7 => ?_)
 replace hs7 : St _ _ _ _ := hs7
 refine WH.take 0 rfl (by kernel_rfl) rfl rfl rfl (St.drop hs7 (List.sublist_append_right [_] _)) (fun w_ hs_ => (Run.field Tryz.runUnderlying28 rfl rfl rfl Tryz.sizeOf3 rfl)) ?_
 refine WH.take 1 rfl (by kernel_rfl) rfl rfl rfl (St.drop hs7 (List.sublist_append_right [_] _)) (fun w_ hs_ => (Run.loadL (hs_ : St _ _ _ _) 0 Tryz.isAgg3 rfl rfl rfl rfl)) ?_
 refine WH.take 2 rfl (by kernel_rfl) rfl rfl rfl (St.drop hs7 (List.sublist_append_right [_] _)) (fun w_ hs_ => (Run.field Tryz.runUnderlying28 rfl rfl rfl Tryz.sizeOf3 rfl)) ?_
 refine WH.take 3 rfl (by kernel_rfl) rfl rfl rfl (St.drop hs7 (List.sublist_append_right [_] _)) (fun w_ hs_ => (Run.loadL (hs_ : St _ _ _ _) 0 Tryz.isAgg3 rfl rfl rfl rfl)) ?_
 refine WH.take 4 rfl (by kernel_rfl) rfl rfl rfl (St.drop hs7 (List.sublist_append_right [_] _)) (fun w_ hs_ => (Run.field Tryz.runUnderlying28 rfl rfl rfl Tryz.sizeOf26 rfl)) ?_
 refine WH.take 5 rfl (by kernel_rfl) rfl rfl rfl (St.drop hs7 (List.sublist_append_right [_] _)) (fun w_ hs_ => (Run.loadL (hs_ : St _ _ _ _) 0 Tryz.isAgg26 rfl rfl rfl rfl)) ?_
 refine WH.all [6] (by kernel_rfl) rfl (WHs.cons (i := 6) rfl ?_ WHs.nil)
 refine WL.call rfl rfl rfl (Run.call Tryz.call208 rfl rfl rfl) (c_slices_Clone_impl_Cell_impl_Cell _ _ _ _ _ (SlF.st0 f_g.Cells hs7) ?_) ?_
 · first | assumption | rfl | omega
 rintro _ whs8 ⟨A9, c10, L1_11, rfl, hs8, ho12⟩
 replace hs8 := hs7.callF hs8
 refine ⟨_, rfl, ?_⟩
 replace hs8 := St.back [_, _] hs8
 refine WL.nil ⟨(St.drop (St.perm (St.drop hs8 (List.sublist_append_right [_] _)) (L' := L1_11 ++ _) (perm_front (A := [_]) (List.Perm.refl _))) (List.sublist_append_right L1_11 _)), ?_⟩
 refine WH.take 7 rfl (by kernel_rfl) rfl rfl rfl (St.drop (St.perm (St.drop hs8 (List.sublist_append_right [_] _)) (L' := L1_11 ++ _) (perm_front (A := [_]) (List.Perm.refl _))) (List.sublist_append_right L1_11 _)) (fun w_ hs_ => (Run.build rfl rfl rfl rfl (built_28_0_1_2 _ _ _ _ _))) ?_
 refine WH.all [8] (by kernel_rfl) rfl (WHs.cons (i := 8) rfl ?_ WHs.nil)
 refine WL.st tbk hs8 0 rfl rfl (fun _ hs13 => ?_)
 refine WL.nil ⟨(St.drop (St.perm (St.drop hs13 (List.sublist_append_right [_] _)) (L' := L1_11 ++ _) (perm_front (A := [_]) (List.Perm.refl _))) (List.sublist_append_right L1_11 _)), ?_⟩
 refine WH.done (by kernel_rfl) ?_
 refine hK6 _ _ ?_
 refine WC.ret ?_
 refine retV1 rfl (resV.cellA tbk hs13 0 rfl rfl rfl rfl) ?_
 refine ⟨⟨g.W, g.H, SlD.of ho12⟩, _, rfl, (St.keep1 (St.perm hs13 (L' := L1_11 ++ _) (perm_front (A := [_, _]) (List.Perm.refl _)))), ?_, ?_⟩
 · exact ho12
 · rfl
theorem c_impl_copyScr (s : ScrR) (w : World) (f_s : okScrR 549755813888 w s) (hsm : smScr 1048576 s.dat) :
    Calls Tryz.prog 150 #[.agg #[i64 s.W, i64 s.H, i64 s.Main.W, i64 s.Main.H, .slice s.Main.Cells.A s.Main.Cells.n s.Main.Cells.c, i64 s.Alt.W, i64 s.Alt.H, .slice s.Alt.Cells.A s.Alt.Cells.n s.Alt.Cells.c, .bool s.OnAlt, i64 s.X, i64 s.Y, .bool s.Wrap, i64 s.A.Fg, i64 s.A.Bg, .bool s.A.Bold, .bool s.A.Under, .bool s.A.Turn, i64 s.Top, i64 s.Bot, .bool s.NoWrap, .bool s.Hide, i64 s.SaveX, i64 s.SaveY, i64 s.SaveA.Fg, i64 s.SaveA.Bg, .bool s.SaveA.Bold, .bool s.SaveA.Under, .bool s.SaveA.Turn, .slice s.Tabs.A s.Tabs.n s.Tabs.c, i64 s.Limit, .slice s.Back.A s.Back.n s.Back.c]] w fun e w' => ∃ r L1, e = .returned (.agg #[i64 r.W, i64 r.H, i64 r.Main.W, i64 r.Main.H, .slice r.Main.Cells.A r.Main.Cells.n r.Main.Cells.c, i64 r.Alt.W, i64 r.Alt.H, .slice r.Alt.Cells.A r.Alt.Cells.n r.Alt.Cells.c, .bool r.OnAlt, i64 r.X, i64 r.Y, .bool r.Wrap, i64 r.A.Fg, i64 r.A.Bg, .bool r.A.Bold, .bool r.A.Under, .bool r.A.Turn, i64 r.Top, i64 r.Bot, .bool r.NoWrap, .bool r.Hide, i64 r.SaveX, i64 r.SaveY, i64 r.SaveA.Fg, i64 r.SaveA.Bg, .bool r.SaveA.Bold, .bool r.SaveA.Under, .bool r.SaveA.Turn, .slice r.Tabs.A r.Tabs.n r.Tabs.c, i64 r.Limit, .slice r.Back.A r.Back.n r.Back.c]) ∧ St w [] L1 w' ∧ ownScrR r L1 ∧ r.dat = s.dat := by
 have nb_s_Main_Cells := f_s.Main.Cells_n
 have nl_s_Main_Cells := f_s.Main.Cells.len
 have nb_s_Alt_Cells := f_s.Alt.Cells_n
 have nl_s_Alt_Cells := f_s.Alt.Cells.len
 have nb_s_Tabs := f_s.Tabs_n
 have nl_s_Tabs := f_s.Tabs.len
 have nb_s_Back := f_s.Back_n
 have nl_s_Back := f_s.Back.sl.len
 have hM : s.Main.Cells.xs.length ≤ 1048576 := hsm.1
 have hA : s.Alt.Cells.xs.length ≤ 1048576 := hsm.2.1
 have hT : s.Tabs.xs.length ≤ 1048576 := hsm.2.2.1
 have hB : s.Back.xs.length ≤ 1048576 := by have h_ := hsm.2.2.2.1; simpa [ScrR.dat] using h_
 have hR : ∀ y, y ∈ s.Back.xs → y.Cells.xs.length ≤ 1048576 := fun y hy => hsm.2.2.2.2 _ (List.mem_map_of_mem hy)
 refine enter (vs := [.agg #[i64 s.W, i64 s.H, i64 s.Main.W, i64 s.Main.H, .slice s.Main.Cells.A s.Main.Cells.n s.Main.Cells.c, i64 s.Alt.W, i64 s.Alt.H, .slice s.Alt.Cells.A s.Alt.Cells.n s.Alt.Cells.c, .bool s.OnAlt, i64 s.X, i64 s.Y, .bool s.Wrap, i64 s.A.Fg, i64 s.A.Bg, .bool s.A.Bold, .bool s.A.Under, .bool s.A.Turn, i64 s.Top, i64 s.Bot, .bool s.NoWrap, .bool s.Hide, i64 s.SaveX, i64 s.SaveY, i64 s.SaveA.Fg, i64 s.SaveA.Bg, .bool s.SaveA.Bold, .bool s.SaveA.Under, .bool s.SaveA.Turn, .slice s.Tabs.A s.Tabs.n s.Tabs.c, i64 s.Limit, .slice s.Back.A s.Back.n s.Back.c]]) 37 Tryz.func150 rfl Tryz.ntmps150 rfl rfl ?_
 have hs1 := St.init w
 refine WC.sr ?_
 refine WL.bx hs1 rfl (fun b2 _ hs3 => ?_)
 refine WL.al hs3 Tryz.zeroValue33 rfl rfl (fun b4 _ hs5 => ?_)
 refine WL.nil ?_
 refine WC.seq (fun K6 hK6 => ?_)
 refine WC.regionG 10 (fun w' => St _ _ _ w') (fun w' => St _ _ _ w') (fun w' => St _ _ _ w') mixed (St.drew (St.drop hs5 (List.Sublist.cons_cons _ (List.Sublist.cons _ (List.Sublist.refl _))))) (St.drew hs5) (St.drew hs5) (fun whs7 hs7 => ?_)
 replace hs7 : St _ _ _ _ := hs7
 refine WG.take 0 rfl (by kernel_rfl) (by kernel_rfl) rfl rfl rfl hs7 (fun w_ hs_ => (Run.field Tryz.runUnderlying33 rfl rfl rfl Tryz.sizeOf28 rfl)) ?_
 refine WG.take 1 rfl (by kernel_rfl) (by kernel_rfl) rfl rfl rfl hs7 (fun w_ hs_ => (Run.loadLA (hs_ : St _ _ _ _) 1 Tryz.isAgg28 Tryz.sizeOf28 rfl rfl rfl rfl rfl)) ?_
 refine WG.take 3 rfl (by kernel_rfl) (by kernel_rfl) rfl rfl rfl hs7 (fun w_ hs_ => (Run.field Tryz.runUnderlying33 rfl rfl rfl Tryz.sizeOf28 rfl)) ?_
 refine WG.take 4 rfl (by kernel_rfl) (by kernel_rfl) rfl rfl rfl hs7 (fun w_ hs_ => (Run.loadLA (hs_ : St _ _ _ _) 1 Tryz.isAgg28 Tryz.sizeOf28 rfl rfl rfl rfl rfl)) ?_
 refine WG.take 6 rfl (by kernel_rfl) (by kernel_rfl) rfl rfl rfl hs7 (fun w_ hs_ => (Run.field Tryz.runUnderlying33 rfl rfl rfl Tryz.sizeOf23 rfl)) ?_
 refine WG.take 7 rfl (by kernel_rfl) (by kernel_rfl) rfl rfl rfl hs7 (fun w_ hs_ => (Run.loadL (hs_ : St _ _ _ _) 1 Tryz.isAgg23 rfl rfl rfl rfl)) ?_
 refine WG.all [2] (by kernel_rfl) rfl (WGs.cons (i := 2) rfl rfl ?_ WGs.nil)
 refine WL.call rfl rfl rfl (Run.call Tryz.call206 rfl rfl rfl) (c_impl_copyGrid s.Main _ (okGridR.st0 f_s.Main hs7) ?_) ?_
 · first | (first | assumption | rfl | omega) | (first | omega | exact hsm.1 | exact hsm.2.1 | (exact Nat.le_trans hsm.1 (by decide)) | (exact Nat.le_trans hsm.2.1 (by decide)) | (have := hR _ (gat_mem (F := encRowR) (show i < s.Back.xs.length by omega)); omega))
 rintro _ whs9 ⟨r10, L1_11, rfl, hs9, ho12, hd13⟩
 replace hs9 := hs7.callF hs9
 refine ⟨_, rfl, ?_⟩
 replace hs9 := St.back [_, _] hs9
 refine WL.nil ⟨(St.drop (St.perm hs9 (L' := L1_11 ++ _) (perm_front (A := [_, _]) (List.Perm.refl _))) (List.sublist_append_right L1_11 _)), ?_⟩
 refine WG.take 9 rfl (by kernel_rfl) (by kernel_rfl) rfl rfl rfl (St.drop (St.perm hs9 (L' := L1_11 ++ _) (perm_front (A := [_, _]) (List.Perm.refl _))) (List.sublist_append_right L1_11 _)) (fun w_ hs_ => (Run.field Tryz.runUnderlying33 rfl rfl rfl Tryz.sizeOf28 rfl)) ?_
 refine WG.all [5] (by kernel_rfl) rfl (WGs.cons (i := 5) rfl rfl ?_ WGs.nil)
 refine WL.call rfl rfl rfl (Run.call Tryz.call206 rfl rfl rfl) (c_impl_copyGrid s.Alt _ (okGridR.st0 f_s.Alt hs9) ?_) ?_
 · first | (first | assumption | rfl | omega) | (first | omega | exact hsm.1 | exact hsm.2.1 | (exact Nat.le_trans hsm.1 (by decide)) | (exact Nat.le_trans hsm.2.1 (by decide)) | (have := hR _ (gat_mem (F := encRowR) (show i < s.Back.xs.length by omega)); omega))
 rintro _ whs14 ⟨r15, L1_16, rfl, hs14, ho17, hd18⟩
 replace hs14 := hs9.callF hs14
 refine ⟨_, rfl, ?_⟩
 replace hs14 := St.back [_, _] hs14
 refine WL.nil ⟨(St.drop (St.perm (St.drop (St.perm hs14 (L' := L1_16 ++ _) (perm_front (A := [_, _]) (List.Perm.refl _))) (List.sublist_append_right L1_16 _)) (L' := L1_11 ++ _) (perm_front (A := [_, _]) (List.Perm.refl _))) (List.sublist_append_right L1_11 _)), ?_⟩
 refine WG.all [8] (by kernel_rfl) rfl (WGs.cons (i := 8) rfl rfl ?_ WGs.nil)
 refine WL.call rfl rfl rfl (Run.call Tryz.call207 rfl rfl rfl) (c_slices_Clone_int_int _ _ _ _ _ (SlF.st0 f_s.Tabs hs14) ?_) ?_
 · first | (first | assumption | rfl | omega) | (first | omega | exact hsm.1 | exact hsm.2.1 | (exact Nat.le_trans hsm.1 (by decide)) | (exact Nat.le_trans hsm.2.1 (by decide)) | (have := hR _ (gat_mem (F := encRowR) (show i < s.Back.xs.length by omega)); omega))
 rintro _ whs19 ⟨A20, c21, L1_22, rfl, hs19, ho23⟩
 replace hs19 := hs14.callF hs19
 refine ⟨_, rfl, ?_⟩
 replace hs19 := St.back [_, _] hs19
 refine WL.nil ⟨(St.drop (St.perm (St.drop (St.perm (St.drop (St.perm hs19 (L' := L1_22 ++ _) (perm_front (A := [_, _]) (List.Perm.refl _))) (List.sublist_append_right L1_22 _)) (L' := L1_16 ++ _) (perm_front (A := [_, _]) (List.Perm.refl _))) (List.sublist_append_right L1_16 _)) (L' := L1_11 ++ _) (perm_front (A := [_, _]) (List.Perm.refl _))) (List.sublist_append_right L1_11 _)), ?_⟩
 refine WG.all [10] (by kernel_rfl) rfl (WGs.consK rfl ?_ WGs.nil)
 refine WL.st tbk hs19 1 rfl rfl (fun _ hs24 => ?_)
 refine WL.nil ⟨(St.drop (St.perm (St.drop (St.perm (St.drop (St.perm (St.drop hs24 (List.Sublist.cons_cons _ (List.Sublist.cons _ (List.Sublist.refl _)))) (L' := L1_22 ++ _) (perm_front (A := [_]) (List.Perm.refl _))) (List.sublist_append_right L1_22 _)) (L' := L1_16 ++ _) (perm_front (A := [_]) (List.Perm.refl _))) (List.sublist_append_right L1_16 _)) (L' := L1_11 ++ _) (perm_front (A := [_]) (List.Perm.refl _))) (List.sublist_append_right L1_11 _)), ?_⟩
 refine WH.take 11 rfl (by kernel_rfl) rfl rfl rfl (St.drop (St.perm (St.drop (St.perm (St.drop (St.perm (St.drop hs24 (List.Sublist.cons_cons _ (List.Sublist.cons _ (List.Sublist.refl _)))) (L' := L1_22 ++ _) (perm_front (A := [_]) (List.Perm.refl _))) (List.sublist_append_right L1_22 _)) (L' := L1_16 ++ _) (perm_front (A := [_]) (List.Perm.refl _))) (List.sublist_append_right L1_16 _)) (L' := L1_11 ++ _) (perm_front (A := [_]) (List.Perm.refl _))) (List.sublist_append_right L1_11 _)) (fun w_ hs_ => (Run.field Tryz.runUnderlying33 rfl rfl rfl Tryz.sizeOf28 rfl)) ?_
 refine WH.all [12] (by kernel_rfl) rfl (WHs.cons (i := 12) rfl ?_ WHs.nil)
 refine WL.st tbk hs24 1 rfl rfl (fun _ hs25 => ?_)
 refine WL.nil ⟨(St.drop (St.perm (St.drop (St.perm (St.drop (St.perm (St.drop hs25 (List.Sublist.cons_cons _ (List.Sublist.cons _ (List.Sublist.refl _)))) (L' := L1_22 ++ _) (perm_front (A := [_]) (List.Perm.refl _))) (List.sublist_append_right L1_22 _)) (L' := L1_16 ++ _) (perm_front (A := [_]) (List.Perm.refl _))) (List.sublist_append_right L1_16 _)) (L' := L1_11 ++ _) (perm_front (A := [_]) (List.Perm.refl _))) (List.sublist_append_right L1_11 _)), ?_⟩
 refine WH.take 13 rfl (by kernel_rfl) rfl rfl rfl (St.drop (St.perm (St.drop (St.perm (St.drop (St.perm (St.drop hs25 (List.Sublist.cons_cons _ (List.Sublist.cons _ (List.Sublist.refl _)))) (L' := L1_22 ++ _) (perm_front (A := [_]) (List.Perm.refl _))) (List.sublist_append_right L1_22 _)) (L' := L1_16 ++ _) (perm_front (A := [_]) (List.Perm.refl _))) (List.sublist_append_right L1_16 _)) (L' := L1_11 ++ _) (perm_front (A := [_]) (List.Perm.refl _))) (List.sublist_append_right L1_11 _)) (fun w_ hs_ => (Run.field Tryz.runUnderlying33 rfl rfl rfl Tryz.sizeOf23 rfl)) ?_
 refine WH.all [14] (by kernel_rfl) rfl (WHs.cons (i := 14) rfl ?_ WHs.nil)
 refine WL.st tbk hs25 1 rfl rfl (fun _ hs26 => ?_)
 refine WL.nil ⟨(St.drop (St.perm (St.drop (St.perm (St.drop (St.perm (St.drop hs26 (List.Sublist.cons_cons _ (List.Sublist.cons _ (List.Sublist.refl _)))) (L' := L1_22 ++ _) (perm_front (A := [_]) (List.Perm.refl _))) (List.sublist_append_right L1_22 _)) (L' := L1_16 ++ _) (perm_front (A := [_]) (List.Perm.refl _))) (List.sublist_append_right L1_16 _)) (L' := L1_11 ++ _) (perm_front (A := [_]) (List.Perm.refl _))) (List.sublist_append_right L1_11 _)), ?_⟩
 refine WH.done (by kernel_rfl) ?_
 refine hK6 _ _ ?_
 refine WC.sr ?_
 refine WL.buildF (F := encRowR) hs26 ([]) Tryz.runUnderlying31 Tryz.sizeOf98 Tryz.zeroValue98 rfl rfl rfl rfl rfl rfl rfl rfl rfl rfl rfl rfl (fun A30 c31 L27 whs28 hs28 ho29 => ?_)
 replace hs28 := St.back [_, _] hs28
 obtain ⟨L32, hs33, ho34⟩ := OwnN.fresh (own := ownRowR) (St.perm hs28 (L' := L27 ++ _) (perm_front (A := [_, _]) (List.Perm.refl _))) ho29 Bag.nil
 have hs35 := (St.perm (St.perm hs33 (L' := [_] ++ _) (perm_front (A := L32) (perm_front (A := [_]) (List.Perm.refl _)))) (L' := [_] ++ _) (perm_front (A := [_]) (perm_front (A := L32) (List.Perm.refl _))))
 refine WL.run tbk 1 hs35 [] rfl trivial ?_
 refine WL.nil ?_
 refine WC.seq (fun K36 hK36 => ?_)
 refine WC.rr tbk hs35 [1] rfl ⟨rfl, trivial⟩ ?_
 refine WC.block ?_
 have hM41 := (St.grp1 (L1 := L32) [] (St.perm (St.perm (St.perm (St.perm (St.perm (St.perm hs35 (L' := L1_11 ++ _) (perm_front (A := [_, _]) (perm_front (A := L32) (perm_front (A := L1_22) (perm_front (A := L1_16) (List.Perm.refl _)))))) (L' := L1_16 ++ _) (perm_front (A := L1_11) (perm_front (A := [_, _]) (perm_front (A := L32) (perm_front (A := L1_22) (List.Perm.refl _)))))) (L' := L1_22 ++ _) (perm_front (A := L1_16) (perm_front (A := L1_11) (perm_front (A := [_, _]) (perm_front (A := L32) (List.Perm.refl _)))))) (L' := [_] ++ _) (perm_front (A := L1_22) (perm_front (A := L1_16) (perm_front (A := L1_11) (perm_front (A := [_]) (List.Perm.refl _)))))) (L' := [_] ++ _) (perm_front (A := [_]) (perm_front (A := L1_22) (perm_front (A := L1_16) (perm_front (A := L1_11) (List.Perm.refl _)))))) (L' := L32 ++ _) (perm_front (A := [_, _]) (perm_front (A := L1_22) (perm_front (A := L1_16) (perm_front (A := L1_11) (List.Perm.refl _)))))))
 refine WC.loopV (α := Hp) [(1, _), (2, _), (20, _), (21, _)] ⟨rfl, rfl, rfl, rfl, trivial⟩ (fun a_ => a_) _ hM41 (fun k_ (a_ : Hp) f => ∃ (i : Nat) (rows_ : List RowR) (A37 : Option Addr) (c38 : Nat) (L39 : Hp), k_ = s.Back.n - i ∧ a_ = L39 ∧ (i ≤ s.Back.n) ∧ (rows_.map RowR.dat = (s.Back.xs.take i).map RowR.dat) ∧ (rows_.length = i) ∧ OwnN encRowR ownRowR 98 (.slice A37 (rows_).length c38) (rows_) L39 ∧ Sub [(3, .slice A37 (rows_).length c38), (22, .int .i64 i)] f) (((fun (i : Nat) (rows_ : List RowR) => s.Back.n - i) (0) ([]))) ?_ ?_
 ·refine ⟨0, [], A30, c31, L32, rfl, rfl, ?_, ?_, ?_, ho34, ⟨rfl, rfl, trivial⟩⟩
  · exact Nat.zero_le _
  · rfl
  · rfl
 ·rintro _ L39 f w ⟨i, rows_, A37, c38, _, rfl, rfl, p0, p1, p2, ho40, hG⟩ hF hs42
  refine WC.sub _ (hG.app hF) ?_
  clear hG hF
  replace hs42 := St.ungrp1 [] hs42
  have hs43 := (St.perm (St.perm hs42 (L' := [_] ++ _) (perm_front (A := L39) (perm_front (A := [_]) (List.Perm.refl _)))) (L' := [_] ++ _) (perm_front (A := [_]) (perm_front (A := L39) (List.Perm.refl _))))
  refine WC.rr tbk hs43 [] rfl trivial ?_
  refine WC.seq (fun K44 hK44 => ?_)
  refine WC.cD rfl (fun qh45 => ?_) (fun qh45 => ?_)
  ·have hnl := (SlN.nth f_s.Back (show i < s.Back.n by omega)).Cells.len
   refine WC.skip ?_
   refine hK44 _ _ ?_
   refine WC.seq (fun K46 hK46 => ?_)
   refine WC.block ?_
   refine WC.sr ?_
   refine WL.val rfl rfl rfl (Run.idxN Tryz.runUnderlying31 Tryz.sizeOf98 rfl rfl rfl ?_ ?_ ?_) ?_
   · exact SlF.some_ (SlF.st0 f_s.Back.sl hs43)
   · omega
   · omega
   refine WL.val rfl rfl rfl (Run.loadA Tryz.isAgg98 Tryz.sizeOf98 rfl rfl (SlF.whole (SlF.st0 f_s.Back.sl hs43) ?_)) ?_
   · omega
   refine WL.al hs43 Tryz.zeroValue98 rfl rfl (fun b47 _ hs48 => ?_)
   refine WL.st tbk hs48 0 rfl rfl (fun _ hs49 => ?_)
   refine WL.nil ?_
   refine WC.region ?_
   refine WL.run tbk 3 hs49 [0] rfl ⟨rfl, trivial⟩ ?_
   refine WL.call rfl rfl rfl (Run.call Tryz.call208 rfl rfl rfl) (c_slices_Clone_impl_Cell_impl_Cell _ _ _ _ _ (SlF.st0 (SlN.nth f_s.Back (by omega)).Cells hs49) ?_) ?_
   · first | (first | assumption | rfl | omega) | (first | omega | exact hsm.1 | exact hsm.2.1 | (exact Nat.le_trans hsm.1 (by decide)) | (exact Nat.le_trans hsm.2.1 (by decide)) | (have := hR _ (gat_mem (F := encRowR) (show i < s.Back.xs.length by omega)); omega))
   rintro _ whs50 ⟨A51, c52, L1_53, rfl, hs50, ho54⟩
   replace hs50 := hs49.callF hs50
   refine ⟨_, rfl, ?_⟩
   replace hs50 := St.back [_, _, _] hs50
   refine WL.val rfl rfl rfl (Run.build rfl rfl rfl rfl (built_98_0 _ _ _)) ?_
   refine WL.buildSlice hs50 Tryz.runUnderlying31 Tryz.sizeOf98 Tryz.zeroValue98 rfl rfl rfl rfl rfl rfl rfl rfl rfl rfl (fun b55 whs56 hs56 => ?_)
   obtain ⟨L57, L58, hs61, ho59, ho60⟩ := OwnN.open_ (St.perm hs56 (L' := L39 ++ _) (perm_front (A := [_, _, _, _]) (perm_front (A := L1_53) (List.Perm.refl _)))) ho40
   have hs62 := (St.perm (St.perm (St.perm (St.perm hs61 (L' := [_] ++ _) (perm_front (A := L57) (perm_front (A := L58) (perm_front (A := [_, _, _]) (List.Perm.refl _))))) (L' := [_] ++ _) (perm_front (A := [_]) (perm_front (A := L57) (perm_front (A := L58) (perm_front (A := [_, _]) (List.Perm.refl _)))))) (L' := [_] ++ _) (perm_front (A := [_, _]) (perm_front (A := L57) (perm_front (A := L58) (perm_front (A := [_]) (List.Perm.refl _)))))) (L' := [_] ++ _) (perm_front (A := [_, _, _]) (perm_front (A := L57) (perm_front (A := L58) (List.Perm.refl _)))))
   refine WL.appendG (St.perm hs62 (L' := L57 ++ _) (perm_front (A := [_, _, _, _]) (List.Perm.refl _))) ho59 (srcF (F := encRowR) (ys := [(⟨SlD.of ho54⟩ : RowR)]) Tryz.underlying31 rfl rfl (hs62.own _ (nthL_mem (i := 0) rfl)).1) Tryz.underlying31 info_98 rfl rfl rfl rfl rfl rfl rfl rfl rfl rfl ?_ (fun A66 c67 L63 whs64 hs64 ho65 => ?_)
   · (try simp only [List.length_append, List.length_singleton, List.nil_append, List.length_nil]); first | omega | (have := hR _ (gat_mem (F := encRowR) (show i < s.Back.xs.length by omega)); omega)
   replace hs64 := St.back [_, _, _, _] hs64
   obtain ⟨L68, hs69, hb70⟩ := Bag.put (x := (⟨SlD.of ho54⟩ : RowR)) (St.perm (St.perm hs64 (L' := L1_53 ++ _) (perm_front (A := [_, _, _, _]) (perm_front (A := L63) (perm_front (A := L58) (List.Perm.refl _))))) (L' := L58 ++ _) (perm_front (A := L1_53) (perm_front (A := [_, _, _, _]) (perm_front (A := L63) (List.Perm.refl _))))) ho60 ho54
   have hs71 := (St.perm (St.perm (St.perm (St.perm hs69 (L' := [_] ++ _) (perm_front (A := L68) (perm_front (A := [_, _, _]) (List.Perm.refl _)))) (L' := [_] ++ _) (perm_front (A := [_]) (perm_front (A := L68) (perm_front (A := [_, _]) (List.Perm.refl _))))) (L' := [_] ++ _) (perm_front (A := [_, _]) (perm_front (A := L68) (perm_front (A := [_]) (List.Perm.refl _))))) (L' := [_] ++ _) (perm_front (A := [_, _, _]) (perm_front (A := L68) (List.Perm.refl _))))
   obtain ⟨L73, hs72, ho74⟩ := OwnN.fold (St.perm (St.perm hs71 (L' := L68 ++ _) (perm_front (A := [_, _, _, _]) (List.Perm.refl _))) (L' := L63 ++ _) (perm_front (A := L68) (perm_front (A := [_, _, _, _]) (List.Perm.refl _)))) ho65 hb70
   have hs75 := (St.perm (St.perm (St.perm (St.perm hs72 (L' := [_] ++ _) (perm_front (A := L73) (perm_front (A := [_, _, _]) (List.Perm.refl _)))) (L' := [_] ++ _) (perm_front (A := [_]) (perm_front (A := L73) (perm_front (A := [_, _]) (List.Perm.refl _))))) (L' := [_] ++ _) (perm_front (A := [_, _]) (perm_front (A := L73) (perm_front (A := [_]) (List.Perm.refl _))))) (L' := [_] ++ _) (perm_front (A := [_, _, _]) (perm_front (A := L73) (List.Perm.refl _))))
   refine WL.run tbk 1 hs75 [] rfl trivial ?_
   refine WL.nil ?_
   refine hK46 _ _ ?_
   refine WC.region ?_
   refine WL.run tbk 2 hs75 [] rfl ⟨by omega, trivial⟩ ?_
   refine WL.nil ?_
   refine tkN ?_
   replace hs75 := St.drop hs75 (List.sublist_append_right [_, _] _)
   have hF76 := (St.grp1 (L1 := L73) [] (St.perm (St.perm (St.perm (St.perm (St.perm (St.perm hs75 (L' := L1_11 ++ _) (perm_front (A := [_, _]) (perm_front (A := L73) (perm_front (A := L1_22) (perm_front (A := L1_16) (List.Perm.refl _)))))) (L' := L1_16 ++ _) (perm_front (A := L1_11) (perm_front (A := [_, _]) (perm_front (A := L73) (perm_front (A := L1_22) (List.Perm.refl _)))))) (L' := L1_22 ++ _) (perm_front (A := L1_16) (perm_front (A := L1_11) (perm_front (A := [_, _]) (perm_front (A := L73) (List.Perm.refl _)))))) (L' := [_] ++ _) (perm_front (A := L1_22) (perm_front (A := L1_16) (perm_front (A := L1_11) (perm_front (A := [_]) (List.Perm.refl _)))))) (L' := [_] ++ _) (perm_front (A := [_]) (perm_front (A := L1_22) (perm_front (A := L1_16) (perm_front (A := L1_11) (List.Perm.refl _)))))) (L' := L73 ++ _) (perm_front (A := [_, _]) (perm_front (A := L1_22) (perm_front (A := L1_16) (perm_front (A := L1_11) (List.Perm.refl _)))))))
   refine ⟨⟨rfl, rfl, rfl, rfl, trivial⟩, _, hF76, _, ?_, i + 1, ((rows_) ++ [(⟨SlD.of ho54⟩ : RowR)]), A66, c67, L73, rfl, rfl, ?_, ?_, ?_, ho74, ⟨rfl, rfl, trivial⟩⟩
   · omega
   · omega
   · rw [List.map_append, p1, map_take_succ (F := encRowR) (by omega)]; congr 1
   · simp only [List.length_append, List.length_singleton]; omega
  ·refine WC.exit ?_
   refine hK36 _ _ ?_
   refine WC.sr ?_
   refine WL.run tbk 2 hs43 [] rfl trivial ?_
   refine WL.st tbk hs43 1 rfl rfl (fun _ hs77 => ?_)
   refine WL.nil ?_
   refine WC.sr ?_
   refine WL.run tbk 1 hs77 [1] rfl ⟨rfl, trivial⟩ ?_
   refine WL.st tbk hs77 0 rfl rfl (fun _ hs78 => ?_)
   refine WL.nil ?_
   refine WC.ret ?_
   refine retV1 rfl (resV.cellA tbk hs78 0 rfl rfl rfl rfl) ?_
   have hi_ : i = s.Back.n := by omega
   have hbk : rows_.map RowR.dat = s.dat.Back := by rw [p1, List.take_of_length_le (by omega)]; rfl
   obtain ⟨L80, hs79, ho81⟩ := ownScrR.fold ⟨0, 0, ⟨0, 0, ⟨_, _, _, _⟩⟩, ⟨0, 0, ⟨_, _, _, _⟩⟩, false, 0, 0, false, ⟨0, 0, false, false, false⟩, 0, 0, false, false, 0, 0, ⟨0, 0, false, false, false⟩, ⟨_, _, _, _⟩, 0, ⟨_, _, _, _⟩⟩ (St.perm (St.perm (St.perm (St.perm hs78 (L' := L39 ++ _) (perm_front (A := [_, _]) (List.Perm.refl _))) (L' := L1_22 ++ _) (perm_front (A := L39) (perm_front (A := [_, _]) (List.Perm.refl _)))) (L' := L1_16 ++ _) (perm_front (A := L1_22) (perm_front (A := L39) (perm_front (A := [_, _]) (List.Perm.refl _))))) (L' := L1_11 ++ _) (perm_front (A := L1_16) (perm_front (A := L1_22) (perm_front (A := L39) (perm_front (A := [_, _]) (List.Perm.refl _)))))) ho12 ho17 ho23 ho40
   have hs82 := (St.perm (St.perm hs79 (L' := [_] ++ _) (perm_front (A := L80) (perm_front (A := [_]) (List.Perm.refl _)))) (L' := [_] ++ _) (perm_front (A := [_]) (perm_front (A := L80) (List.Perm.refl _))))
   refine ⟨⟨s.W, s.H, ⟨r10.W, r10.H, SlD.of ho12⟩, ⟨r15.W, r15.H, SlD.of ho17⟩, s.OnAlt, s.X, s.Y, s.Wrap, ⟨s.A.Fg, s.A.Bg, s.A.Bold, s.A.Under, s.A.Turn⟩, s.Top, s.Bot, s.NoWrap, s.Hide, s.SaveX, s.SaveY, ⟨s.SaveA.Fg, s.SaveA.Bg, s.SaveA.Bold, s.SaveA.Under, s.SaveA.Turn⟩, SlD.of ho23, s.Limit, SlD.ofN ho40⟩, _, rfl, (St.keep1 (St.perm hs82 (L' := L80 ++ _) (perm_front (A := [_, _]) (List.Perm.refl _)))), ?_, ?_⟩
   · exact (by exact ho81)
   · exact ScrD.ext' rfl rfl hd13 hd18 rfl rfl rfl rfl rfl rfl rfl rfl rfl rfl rfl rfl rfl rfl hbk
theorem c_spec_l09Copy (s : ScrR) (w : World) (f_s : okScrR 549755813888 w s) (hsm : smScr 1048576 s.dat) :
    Calls Tryz.prog 64 #[.agg #[i64 s.W, i64 s.H, i64 s.Main.W, i64 s.Main.H, .slice s.Main.Cells.A s.Main.Cells.n s.Main.Cells.c, i64 s.Alt.W, i64 s.Alt.H, .slice s.Alt.Cells.A s.Alt.Cells.n s.Alt.Cells.c, .bool s.OnAlt, i64 s.X, i64 s.Y, .bool s.Wrap, i64 s.A.Fg, i64 s.A.Bg, .bool s.A.Bold, .bool s.A.Under, .bool s.A.Turn, i64 s.Top, i64 s.Bot, .bool s.NoWrap, .bool s.Hide, i64 s.SaveX, i64 s.SaveY, i64 s.SaveA.Fg, i64 s.SaveA.Bg, .bool s.SaveA.Bold, .bool s.SaveA.Under, .bool s.SaveA.Turn, .slice s.Tabs.A s.Tabs.n s.Tabs.c, i64 s.Limit, .slice s.Back.A s.Back.n s.Back.c]] w fun e w' => ∃ r L1, e = .returned (.agg #[i64 r.W, i64 r.H, i64 r.Main.W, i64 r.Main.H, .slice r.Main.Cells.A r.Main.Cells.n r.Main.Cells.c, i64 r.Alt.W, i64 r.Alt.H, .slice r.Alt.Cells.A r.Alt.Cells.n r.Alt.Cells.c, .bool r.OnAlt, i64 r.X, i64 r.Y, .bool r.Wrap, i64 r.A.Fg, i64 r.A.Bg, .bool r.A.Bold, .bool r.A.Under, .bool r.A.Turn, i64 r.Top, i64 r.Bot, .bool r.NoWrap, .bool r.Hide, i64 r.SaveX, i64 r.SaveY, i64 r.SaveA.Fg, i64 r.SaveA.Bg, .bool r.SaveA.Bold, .bool r.SaveA.Under, .bool r.SaveA.Turn, .slice r.Tabs.A r.Tabs.n r.Tabs.c, i64 r.Limit, .slice r.Back.A r.Back.n r.Back.c]) ∧ St w [] L1 w' ∧ ownScrR r L1 ∧ r.dat = s.dat := by
 have nb_s_Main_Cells := f_s.Main.Cells_n
 have nl_s_Main_Cells := f_s.Main.Cells.len
 have nb_s_Alt_Cells := f_s.Alt.Cells_n
 have nl_s_Alt_Cells := f_s.Alt.Cells.len
 have nb_s_Tabs := f_s.Tabs_n
 have nl_s_Tabs := f_s.Tabs.len
 have nb_s_Back := f_s.Back_n
 have nl_s_Back := f_s.Back.sl.len
 have hM : s.Main.Cells.xs.length ≤ 1048576 := hsm.1
 have hA : s.Alt.Cells.xs.length ≤ 1048576 := hsm.2.1
 have hT : s.Tabs.xs.length ≤ 1048576 := hsm.2.2.1
 have hB : s.Back.xs.length ≤ 1048576 := by have h_ := hsm.2.2.2.1; simpa [ScrR.dat] using h_
 have hR : ∀ y, y ∈ s.Back.xs → y.Cells.xs.length ≤ 1048576 := fun y hy => hsm.2.2.2.2 _ (List.mem_map_of_mem hy)
 refine enter (vs := [.agg #[i64 s.W, i64 s.H, i64 s.Main.W, i64 s.Main.H, .slice s.Main.Cells.A s.Main.Cells.n s.Main.Cells.c, i64 s.Alt.W, i64 s.Alt.H, .slice s.Alt.Cells.A s.Alt.Cells.n s.Alt.Cells.c, .bool s.OnAlt, i64 s.X, i64 s.Y, .bool s.Wrap, i64 s.A.Fg, i64 s.A.Bg, .bool s.A.Bold, .bool s.A.Under, .bool s.A.Turn, i64 s.Top, i64 s.Bot, .bool s.NoWrap, .bool s.Hide, i64 s.SaveX, i64 s.SaveY, i64 s.SaveA.Fg, i64 s.SaveA.Bg, .bool s.SaveA.Bold, .bool s.SaveA.Under, .bool s.SaveA.Turn, .slice s.Tabs.A s.Tabs.n s.Tabs.c, i64 s.Limit, .slice s.Back.A s.Back.n s.Back.c]]) 39 Tryz.func64 rfl Tryz.ntmps64 rfl rfl ?_
 have hs1 := St.init w
 refine WC.sr ?_
 refine WL.bx hs1 rfl (fun b2 _ hs3 => ?_)
 refine WL.al hs3 Tryz.zeroValue33 rfl rfl (fun b4 _ hs5 => ?_)
 refine WL.nil ?_
 refine WC.sr ?_
 refine WL.run tbk 2 hs5 [1] rfl ⟨rfl, trivial⟩ ?_
 refine WL.call rfl rfl rfl (Run.call Tryz.call141 rfl rfl rfl) (c_spec_l07Copy s.Main _ (okGridR.st0 f_s.Main hs5) ?_) ?_
 · first | (first | assumption | rfl | omega) | (first | omega | exact hsm.1 | exact hsm.2.1 | (exact Nat.le_trans hsm.1 (by decide)) | (exact Nat.le_trans hsm.2.1 (by decide)) | (have := hR _ (gat_mem (F := encRowR) (show i < s.Back.xs.length by omega)); omega))
 rintro _ whs6 ⟨r7, L1_8, rfl, hs6, ho9, hd10⟩
 replace hs6 := hs5.callF hs6
 refine ⟨_, rfl, ?_⟩
 replace hs6 := St.back [_, _] hs6
 refine WL.run tbk 1 hs6 [] rfl trivial ?_
 refine WL.st tbk hs6 1 rfl rfl (fun _ hs11 => ?_)
 refine WL.nil ?_
 refine WC.sr ?_
 refine WL.run tbk 2 hs11 [1] rfl ⟨rfl, trivial⟩ ?_
 refine WL.call rfl rfl rfl (Run.call Tryz.call141 rfl rfl rfl) (c_spec_l07Copy s.Alt _ (okGridR.st0 f_s.Alt hs11) ?_) ?_
 · first | (first | assumption | rfl | omega) | (first | omega | exact hsm.1 | exact hsm.2.1 | (exact Nat.le_trans hsm.1 (by decide)) | (exact Nat.le_trans hsm.2.1 (by decide)) | (have := hR _ (gat_mem (F := encRowR) (show i < s.Back.xs.length by omega)); omega))
 rintro _ whs12 ⟨r13, L1_14, rfl, hs12, ho15, hd16⟩
 replace hs12 := hs11.callF hs12
 refine ⟨_, rfl, ?_⟩
 replace hs12 := St.back [_, _] hs12
 refine WL.run tbk 1 hs12 [] rfl trivial ?_
 refine WL.st tbk hs12 1 rfl rfl (fun _ hs17 => ?_)
 refine WL.nil ?_
 refine WC.sr ?_
 refine WL.buildF (F := encI) hs17 ([]) Tryz.runUnderlying23 Tryz.sizeOf3 Tryz.zeroValue3 rfl rfl rfl rfl rfl rfl rfl rfl rfl rfl rfl rfl (fun A21 c22 L18 whs19 hs19 ho20 => ?_)
 replace hs19 := St.back [_, _] hs19
 refine WL.run tbk 2 hs19 [1] rfl ⟨rfl, trivial⟩ ?_
 refine WL.appendG (St.perm hs19 (L' := L18 ++ _) (perm_front (A := [_, _]) (List.Perm.refl _))) ho20 (SlF.src (SlF.st0 f_s.Tabs hs19) Tryz.underlying23) Tryz.underlying23 info_3 rfl rfl rfl rfl rfl rfl rfl rfl rfl rfl ?_ (fun A26 c27 L23 whs24 hs24 ho25 => ?_)
 · (try simp only [List.length_append, List.length_singleton, List.nil_append, List.length_nil]); first | omega | (have := hR _ (gat_mem (F := encRowR) (show i < s.Back.xs.length by omega)); omega)
 replace hs24 := St.back [_, _] hs24
 refine WL.run tbk 1 hs24 [] rfl trivial ?_
 refine WL.st tbk hs24 1 rfl rfl (fun _ hs28 => ?_)
 refine WL.nil ?_
 refine WC.sr ?_
 refine WL.buildF (F := encRowR) hs28 ([]) Tryz.runUnderlying31 Tryz.sizeOf98 Tryz.zeroValue98 rfl rfl rfl rfl rfl rfl rfl rfl rfl rfl rfl rfl (fun A32 c33 L29 whs30 hs30 ho31 => ?_)
 replace hs30 := St.back [_, _] hs30
 obtain ⟨L34, hs35, ho36⟩ := OwnN.fresh (own := ownRowR) (St.perm hs30 (L' := L29 ++ _) (perm_front (A := [_, _]) (List.Perm.refl _))) ho31 Bag.nil
 have hs37 := (St.perm (St.perm hs35 (L' := [_] ++ _) (perm_front (A := L34) (perm_front (A := [_]) (List.Perm.refl _)))) (L' := [_] ++ _) (perm_front (A := [_]) (perm_front (A := L34) (List.Perm.refl _))))
 refine WL.run tbk 1 hs37 [] rfl trivial ?_
 refine WL.nil ?_
 refine WC.seq (fun K38 hK38 => ?_)
 refine WC.rr tbk hs37 [1] rfl ⟨rfl, trivial⟩ ?_
 refine WC.block ?_
 have hM43 := (St.grp1 (L1 := L34) [] (St.perm (St.perm (St.perm (St.perm (St.perm (St.perm hs37 (L' := L1_8 ++ _) (perm_front (A := [_, _]) (perm_front (A := L34) (perm_front (A := L23) (perm_front (A := L1_14) (List.Perm.refl _)))))) (L' := L1_14 ++ _) (perm_front (A := L1_8) (perm_front (A := [_, _]) (perm_front (A := L34) (perm_front (A := L23) (List.Perm.refl _)))))) (L' := L23 ++ _) (perm_front (A := L1_14) (perm_front (A := L1_8) (perm_front (A := [_, _]) (perm_front (A := L34) (List.Perm.refl _)))))) (L' := [_] ++ _) (perm_front (A := L23) (perm_front (A := L1_14) (perm_front (A := L1_8) (perm_front (A := [_]) (List.Perm.refl _)))))) (L' := [_] ++ _) (perm_front (A := [_]) (perm_front (A := L23) (perm_front (A := L1_14) (perm_front (A := L1_8) (List.Perm.refl _)))))) (L' := L34 ++ _) (perm_front (A := [_, _]) (perm_front (A := L23) (perm_front (A := L1_14) (perm_front (A := L1_8) (List.Perm.refl _)))))))
 refine WC.loopV (α := Hp) [(1, _), (2, _), (21, _), (22, _)] ⟨rfl, rfl, rfl, rfl, trivial⟩ (fun a_ => a_) _ hM43 (fun k_ (a_ : Hp) f => ∃ (i : Nat) (rows_ : List RowR) (A39 : Option Addr) (c40 : Nat) (L41 : Hp), k_ = s.Back.n - i ∧ a_ = L41 ∧ (i ≤ s.Back.n) ∧ (rows_.map RowR.dat = (s.Back.xs.take i).map RowR.dat) ∧ (rows_.length = i) ∧ OwnN encRowR ownRowR 98 (.slice A39 (rows_).length c40) (rows_) L41 ∧ Sub [(3, .slice A39 (rows_).length c40), (23, .int .i64 i)] f) (((fun (i : Nat) (rows_ : List RowR) => s.Back.n - i) (0) ([]))) ?_ ?_
 ·refine ⟨0, [], A32, c33, L34, rfl, rfl, ?_, ?_, ?_, ho36, ⟨rfl, rfl, trivial⟩⟩
  · exact Nat.zero_le _
  · rfl
  · rfl
 ·rintro _ L41 f w ⟨i, rows_, A39, c40, _, rfl, rfl, p0, p1, p2, ho42, hG⟩ hF hs44
  refine WC.sub _ (hG.app hF) ?_
  clear hG hF
  replace hs44 := St.ungrp1 [] hs44
  have hs45 := (St.perm (St.perm hs44 (L' := [_] ++ _) (perm_front (A := L41) (perm_front (A := [_]) (List.Perm.refl _)))) (L' := [_] ++ _) (perm_front (A := [_]) (perm_front (A := L41) (List.Perm.refl _))))
  refine WC.rr tbk hs45 [] rfl trivial ?_
  refine WC.seq (fun K46 hK46 => ?_)
  refine WC.cD rfl (fun qh47 => ?_) (fun qh47 => ?_)
  ·have hnl := (SlN.nth f_s.Back (show i < s.Back.n by omega)).Cells.len
   refine WC.skip ?_
   refine hK46 _ _ ?_
   refine WC.seq (fun K48 hK48 => ?_)
   refine WC.block ?_
   refine WC.sr ?_
   refine WL.val rfl rfl rfl (Run.idxN Tryz.runUnderlying31 Tryz.sizeOf98 rfl rfl rfl ?_ ?_ ?_) ?_
   · exact SlF.some_ (SlF.st0 f_s.Back.sl hs45)
   · omega
   · omega
   refine WL.val rfl rfl rfl (Run.loadA Tryz.isAgg98 Tryz.sizeOf98 rfl rfl (SlF.whole (SlF.st0 f_s.Back.sl hs45) ?_)) ?_
   · omega
   refine WL.al hs45 Tryz.zeroValue98 rfl rfl (fun b49 _ hs50 => ?_)
   refine WL.st tbk hs50 0 rfl rfl (fun _ hs51 => ?_)
   refine WL.nil ?_
   refine WC.region ?_
   refine WL.run tbk 1 hs51 [] rfl trivial ?_
   refine WL.buildF (F := encCell) hs51 ([]) Tryz.runUnderlying26 Tryz.sizeOf75 Tryz.zeroValue75 rfl rfl rfl rfl rfl rfl rfl rfl rfl rfl rfl rfl (fun A55 c56 L52 whs53 hs53 ho54 => ?_)
   replace hs53 := St.back [_, _, _] hs53
   refine WL.run tbk 2 hs53 [0] rfl ⟨rfl, trivial⟩ ?_
   refine WL.appendG (St.perm hs53 (L' := L52 ++ _) (perm_front (A := [_, _, _]) (List.Perm.refl _))) ho54 (SlF.src (SlF.st0 (SlN.nth f_s.Back (by omega)).Cells hs53) Tryz.underlying26) Tryz.underlying26 info_75 rfl rfl rfl rfl rfl rfl rfl rfl rfl rfl ?_ (fun A60 c61 L57 whs58 hs58 ho59 => ?_)
   · (try simp only [List.length_append, List.length_singleton, List.nil_append, List.length_nil]); first | omega | (have := hR _ (gat_mem (F := encRowR) (show i < s.Back.xs.length by omega)); omega)
   replace hs58 := St.back [_, _, _] hs58
   refine WL.val rfl rfl rfl (Run.build rfl rfl rfl rfl (built_98_0 _ _ _)) ?_
   refine WL.buildSlice hs58 Tryz.runUnderlying31 Tryz.sizeOf98 Tryz.zeroValue98 rfl rfl rfl rfl rfl rfl rfl rfl rfl rfl (fun b62 whs63 hs63 => ?_)
   obtain ⟨L64, L65, hs68, ho66, ho67⟩ := OwnN.open_ (St.perm hs63 (L' := L41 ++ _) (perm_front (A := [_, _, _, _]) (perm_front (A := L57) (List.Perm.refl _)))) ho42
   have hs69 := (St.perm (St.perm (St.perm (St.perm hs68 (L' := [_] ++ _) (perm_front (A := L64) (perm_front (A := L65) (perm_front (A := [_, _, _]) (List.Perm.refl _))))) (L' := [_] ++ _) (perm_front (A := [_]) (perm_front (A := L64) (perm_front (A := L65) (perm_front (A := [_, _]) (List.Perm.refl _)))))) (L' := [_] ++ _) (perm_front (A := [_, _]) (perm_front (A := L64) (perm_front (A := L65) (perm_front (A := [_]) (List.Perm.refl _)))))) (L' := [_] ++ _) (perm_front (A := [_, _, _]) (perm_front (A := L64) (perm_front (A := L65) (List.Perm.refl _)))))
   refine WL.appendG (St.perm hs69 (L' := L64 ++ _) (perm_front (A := [_, _, _, _]) (List.Perm.refl _))) ho66 (srcF (F := encRowR) (ys := [(⟨SlD.of ho59⟩ : RowR)]) Tryz.underlying31 rfl rfl (hs69.own _ (nthL_mem (i := 0) rfl)).1) Tryz.underlying31 info_98 rfl rfl rfl rfl rfl rfl rfl rfl rfl rfl ?_ (fun A73 c74 L70 whs71 hs71 ho72 => ?_)
   · (try simp only [List.length_append, List.length_singleton, List.nil_append, List.length_nil]); first | omega | (have := hR _ (gat_mem (F := encRowR) (show i < s.Back.xs.length by omega)); omega)
   replace hs71 := St.back [_, _, _, _] hs71
   obtain ⟨L75, hs76, hb77⟩ := Bag.put (x := (⟨SlD.of ho59⟩ : RowR)) (St.perm (St.perm hs71 (L' := L57 ++ _) (perm_front (A := [_, _, _, _]) (perm_front (A := L70) (perm_front (A := L65) (List.Perm.refl _))))) (L' := L65 ++ _) (perm_front (A := L57) (perm_front (A := [_, _, _, _]) (perm_front (A := L70) (List.Perm.refl _))))) ho67 ho59
   have hs78 := (St.perm (St.perm (St.perm (St.perm hs76 (L' := [_] ++ _) (perm_front (A := L75) (perm_front (A := [_, _, _]) (List.Perm.refl _)))) (L' := [_] ++ _) (perm_front (A := [_]) (perm_front (A := L75) (perm_front (A := [_, _]) (List.Perm.refl _))))) (L' := [_] ++ _) (perm_front (A := [_, _]) (perm_front (A := L75) (perm_front (A := [_]) (List.Perm.refl _))))) (L' := [_] ++ _) (perm_front (A := [_, _, _]) (perm_front (A := L75) (List.Perm.refl _))))
   obtain ⟨L80, hs79, ho81⟩ := OwnN.fold (St.perm (St.perm hs78 (L' := L75 ++ _) (perm_front (A := [_, _, _, _]) (List.Perm.refl _))) (L' := L70 ++ _) (perm_front (A := L75) (perm_front (A := [_, _, _, _]) (List.Perm.refl _)))) ho72 hb77
   have hs82 := (St.perm (St.perm (St.perm (St.perm hs79 (L' := [_] ++ _) (perm_front (A := L80) (perm_front (A := [_, _, _]) (List.Perm.refl _)))) (L' := [_] ++ _) (perm_front (A := [_]) (perm_front (A := L80) (perm_front (A := [_, _]) (List.Perm.refl _))))) (L' := [_] ++ _) (perm_front (A := [_, _]) (perm_front (A := L80) (perm_front (A := [_]) (List.Perm.refl _))))) (L' := [_] ++ _) (perm_front (A := [_, _, _]) (perm_front (A := L80) (List.Perm.refl _))))
   refine WL.run tbk 1 hs82 [] rfl trivial ?_
   refine WL.nil ?_
   refine hK48 _ _ ?_
   refine WC.region ?_
   refine WL.run tbk 2 hs82 [] rfl ⟨by omega, trivial⟩ ?_
   refine WL.nil ?_
   refine tkN ?_
   replace hs82 := St.drop hs82 (List.sublist_append_right [_, _] _)
   have hF83 := (St.grp1 (L1 := L80) [] (St.perm (St.perm (St.perm (St.perm (St.perm (St.perm hs82 (L' := L1_8 ++ _) (perm_front (A := [_, _]) (perm_front (A := L80) (perm_front (A := L23) (perm_front (A := L1_14) (List.Perm.refl _)))))) (L' := L1_14 ++ _) (perm_front (A := L1_8) (perm_front (A := [_, _]) (perm_front (A := L80) (perm_front (A := L23) (List.Perm.refl _)))))) (L' := L23 ++ _) (perm_front (A := L1_14) (perm_front (A := L1_8) (perm_front (A := [_, _]) (perm_front (A := L80) (List.Perm.refl _)))))) (L' := [_] ++ _) (perm_front (A := L23) (perm_front (A := L1_14) (perm_front (A := L1_8) (perm_front (A := [_]) (List.Perm.refl _)))))) (L' := [_] ++ _) (perm_front (A := [_]) (perm_front (A := L23) (perm_front (A := L1_14) (perm_front (A := L1_8) (List.Perm.refl _)))))) (L' := L80 ++ _) (perm_front (A := [_, _]) (perm_front (A := L23) (perm_front (A := L1_14) (perm_front (A := L1_8) (List.Perm.refl _)))))))
   refine ⟨⟨rfl, rfl, rfl, rfl, trivial⟩, _, hF83, _, ?_, i + 1, ((rows_) ++ [(⟨SlD.of ho59⟩ : RowR)]), A73, c74, L80, rfl, rfl, ?_, ?_, ?_, ho81, ⟨rfl, rfl, trivial⟩⟩
   · omega
   · omega
   · rw [List.map_append, p1, map_take_succ (F := encRowR) (by omega)]; congr 1
   · simp only [List.length_append, List.length_singleton]; omega
  ·refine WC.exit ?_
   refine hK38 _ _ ?_
   refine WC.sr ?_
   refine WL.run tbk 2 hs45 [] rfl trivial ?_
   refine WL.st tbk hs45 1 rfl rfl (fun _ hs84 => ?_)
   refine WL.nil ?_
   refine WC.sr ?_
   refine WL.run tbk 1 hs84 [1] rfl ⟨rfl, trivial⟩ ?_
   refine WL.st tbk hs84 0 rfl rfl (fun _ hs85 => ?_)
   refine WL.nil ?_
   refine WC.ret ?_
   refine retV1 rfl (resV.cellA tbk hs85 0 rfl rfl rfl rfl) ?_
   have hi_ : i = s.Back.n := by omega
   have hbk : rows_.map RowR.dat = s.dat.Back := by rw [p1, List.take_of_length_le (by omega)]; rfl
   obtain ⟨L87, hs86, ho88⟩ := ownScrR.fold ⟨0, 0, ⟨0, 0, ⟨_, _, _, _⟩⟩, ⟨0, 0, ⟨_, _, _, _⟩⟩, false, 0, 0, false, ⟨0, 0, false, false, false⟩, 0, 0, false, false, 0, 0, ⟨0, 0, false, false, false⟩, ⟨_, _, _, _⟩, 0, ⟨_, _, _, _⟩⟩ (St.perm (St.perm (St.perm (St.perm hs85 (L' := L41 ++ _) (perm_front (A := [_, _]) (List.Perm.refl _))) (L' := L23 ++ _) (perm_front (A := L41) (perm_front (A := [_, _]) (List.Perm.refl _)))) (L' := L1_14 ++ _) (perm_front (A := L23) (perm_front (A := L41) (perm_front (A := [_, _]) (List.Perm.refl _))))) (L' := L1_8 ++ _) (perm_front (A := L1_14) (perm_front (A := L23) (perm_front (A := L41) (perm_front (A := [_, _]) (List.Perm.refl _)))))) ho9 ho15 ho25 ho42
   have hs89 := (St.perm (St.perm hs86 (L' := [_] ++ _) (perm_front (A := L87) (perm_front (A := [_]) (List.Perm.refl _)))) (L' := [_] ++ _) (perm_front (A := [_]) (perm_front (A := L87) (List.Perm.refl _))))
   refine ⟨⟨s.W, s.H, ⟨r7.W, r7.H, SlD.of ho9⟩, ⟨r13.W, r13.H, SlD.of ho15⟩, s.OnAlt, s.X, s.Y, s.Wrap, ⟨s.A.Fg, s.A.Bg, s.A.Bold, s.A.Under, s.A.Turn⟩, s.Top, s.Bot, s.NoWrap, s.Hide, s.SaveX, s.SaveY, ⟨s.SaveA.Fg, s.SaveA.Bg, s.SaveA.Bold, s.SaveA.Under, s.SaveA.Turn⟩, SlD.of ho25, s.Limit, SlD.ofN ho42⟩, _, rfl, (St.keep1 (St.perm hs89 (L' := L87 ++ _) (perm_front (A := [_, _]) (List.Perm.refl _)))), ?_, ?_⟩
   · exact (by exact ho88)
   · exact ScrD.ext' rfl rfl hd10 hd16 rfl rfl rfl rfl rfl rfl rfl rfl rfl rfl rfl rfl rfl rfl hbk
end Go.Proofs.YtjmegoiclgancaaGreat
namespace Go.Proofs.YtjmegoiclgancaaGreat
open Go Go.RowKit
set_option linter.unusedVariables false
set_option linter.unusedSimpArgs false
theorem dm_uniq {a b r c w : Nat} (hb : b < w) (hc : c < w) (h : a * w + b = r * w + c) : a = r ∧ b = c := by
  have key : ∀ p q : Nat, q < w → (p * w + q) / w = p := fun p q hq => by
    rw [Nat.mul_comm, Nat.mul_add_div (by omega), Nat.div_eq_of_lt hq, Nat.add_zero]
  have h1 := key a b hb
  rw [h, key r c hc] at h1
  subst h1
  exact ⟨rfl, by omega⟩
theorem dm_at {k w a b : Nat} (hb : b < w) : (k / w = a ∧ k % w = b) ↔ k = a * w + b := by
  have h := Nat.div_add_mod k w
  rw [Nat.mul_comm] at h
  constructor
  · rintro ⟨h1, h2⟩
    rw [← h1, ← h2]; exact h.symm
  · intro h1
    exact dm_uniq (Nat.mod_lt _ (by omega)) hb (h.trans h1)
def pasteIn (g h : GridD) (x y : Int) (k : Nat) : Prop :=
  (0 ≤ ((k % g.W.toNat : Nat) : Int) - x ∧ ((k % g.W.toNat : Nat) : Int) - x < h.W) ∧ 0 ≤ ((k / g.W.toNat : Nat) : Int) - y ∧ ((k / g.W.toNat : Nat) : Int) - y < h.H
instance (g h : GridD) (x y : Int) (k : Nat) : Decidable (pasteIn g h x y k) := by unfold pasteIn; infer_instance
theorem gat_set2 {α : Type} {F : Enc α} {xs : List α} {i k : Nat} {v : α} (hi : i < xs.length) : gat F (xs.set i v) k = if k = i then v else gat F xs k := by
  unfold gat
  rw [List.getD_eq_getElem?_getD, List.getD_eq_getElem?_getD, List.getElem?_set]
  by_cases h : i = k
  · subst h; simp [hi]
  · rw [if_neg h, if_neg (Ne.symm h)]
theorem gat_cut {α : Type} {F : Enc α} {xs : List α} {m n k : Nat} (h : k < n) : gat F ((xs.drop m).take n) k = gat F xs (m + k) := by
  unfold gat
  rw [List.getD_eq_getElem?_getD, List.getD_eq_getElem?_getD, List.getElem?_take_of_lt h, List.getElem?_drop]
theorem toNat_mul_nat {a : Nat} {b : Int} (hb : 0 ≤ b) : ((a : Int) * b).toNat = a * b.toNat := by
  rw [Int.toNat_mul (by omega) hb]; rfl
def rowAt (g : GridD) (y : Nat) : RowD := ⟨(g.Cells.drop (y * g.W.toNat)).take g.W.toNat⟩
def lastN {α : Type} (n : Nat) (l : List α) : List α := l.drop (l.length - n)
theorem lastN_len {α : Type} {n : Nat} {l : List α} : (lastN n l).length = min l.length n := by simp [lastN]; omega
theorem lastN_all {α : Type} {n : Nat} {l : List α} (h : l.length ≤ n) : lastN n l = l := by
  unfold lastN; rw [show l.length - n = 0 by omega]; rfl
theorem lastN_snoc {α : Type} {n : Nat} {l : List α} {x : α} : lastN n (lastN n l ++ [x]) = lastN n (l ++ [x]) := by
  unfold lastN
  simp only [List.length_append, List.length_drop, List.length_singleton]
  rcases Nat.lt_or_ge n l.length with h | h
  · rw [List.drop_append, List.drop_append, List.drop_drop, List.length_drop]
    congr 2 <;> omega
  · rw [show l.length - n = 0 by omega]
    simp
def keepRows (s : ScrD) (n : Nat) : ScrD := { s with Back := lastN s.Limit.toNat (s.Back ++ (List.range n).map (rowAt s.Main)) }
theorem range_snoc {α : Type} {f : Nat → α} {n : Nat} : (List.range (n + 1)).map f = (List.range n).map f ++ [f n] := by
  rw [List.range_succ, List.map_append]; rfl
theorem keepRows_succ {s : ScrD} {n : Nat} : keepRows s (n + 1) = { keepRows s n with Back := lastN s.Limit.toNat ((keepRows s n).Back ++ [rowAt s.Main n]) } := by
  unfold keepRows
  rw [range_snoc, ← List.append_assoc, ← lastN_snoc]
theorem keepRows_zero {s : ScrD} (h : (s.Back.length : Int) ≤ s.Limit) : keepRows s 0 = s := by
  unfold keepRows
  rw [show (List.range 0).map (rowAt s.Main) = [] from rfl, List.append_nil, lastN_all (by omega)]
end Go.Proofs.YtjmegoiclgancaaGreat
namespace Go.Proofs.YtjmegoiclgancaaGreat
open Go Go.RowKit
set_option linter.unusedVariables false
set_option linter.unusedSimpArgs false
theorem c_impl_Grid_row (g : GridR) (y : Int) (w : World) (f_g : okGridR 549755813888 w g) (h0 : 0 ≤ y * g.W) (h1 : y * g.W ≤ (y + 1) * g.W) (h2 : (y + 1) * g.W ≤ g.Cells.n) (h3 : -1 ≤ y ∧ y ≤ 1048576) :
    Calls Tryz.prog 224 #[.agg #[i64 g.W, i64 g.H, .slice g.Cells.A g.Cells.n g.Cells.c], i64 y] w fun e w' => e = .returned (.slice (cutA g.Cells.A (y * g.W).toNat 6 g.Cells.c) (((y + 1) * g.W).toNat - (y * g.W).toNat) (g.Cells.c - (y * g.W).toNat)) ∧ St w [] [] w' := by
 have nb_g_Cells := f_g.Cells_n
 have nl_g_Cells := f_g.Cells.len
 have hcap := f_g.Cells_c
 refine enter (vs := [.agg #[i64 g.W, i64 g.H, .slice g.Cells.A g.Cells.n g.Cells.c], i64 y]) 17 Tryz.func224 rfl Tryz.ntmps224 rfl rfl ?_
 have hs1 := St.init w
 refine WC.sr ?_
 refine WL.bx hs1 rfl (fun b2 _ hs3 => ?_)
 refine WL.run tbk 1 hs3 [] rfl trivial ?_
 refine WL.nil ?_
 refine WC.sr ?_
 refine WL.run tbk 11 hs3 [0, 0, 0] rfl ⟨?_, rfl, by omega, ?_, rfl, rfl, trivial⟩ ?_
 · constructor <;> omega
 · constructor <;> omega
 refine WL.val rfl rfl rfl (Run.sliceLH ((y * g.W).toNat) (((y + 1) * g.W).toNat) Tryz.runUnderlying26 Tryz.sizeOf75 rfl rfl rfl rfl ?_ ?_ ?_) ?_
 · first | rfl | (omega)
 · first | rfl | (omega)
 · refine ⟨?_, ?_, ?_⟩ <;> (omega)
 refine WL.run tbk 1 hs3 [] rfl trivial ?_
 refine WL.nil ?_
 refine WC.ret ?_
 refine retV1 rfl (resV.tmp rfl) ?_
 refine ⟨congrArg Ending.returned ?_, hs3.nil⟩
 rfl
end Go.Proofs.YtjmegoiclgancaaGreat
namespace Go.Proofs.YtjmegoiclgancaaGreat
open Go Go.RowKit
set_option linter.unusedVariables false
set_option linter.unusedSimpArgs false
theorem smScr_mono {B B' : Nat} {s : ScrD} (h : smScr B s) (hB : B ≤ B') : smScr B' s := ⟨Nat.le_trans h.1 hB, Nat.le_trans h.2.1 hB, Nat.le_trans h.2.2.1 hB, Nat.le_trans h.2.2.2.1 hB, fun y hy => Nat.le_trans (h.2.2.2.2 y hy) hB⟩
theorem rowAt_len {g : GridD} {i : Nat} : (rowAt g i).Cells.length ≤ g.W.toNat := by
  unfold rowAt
  rw [List.length_take]
  exact Nat.min_le_left _ _
def keepTo (s : ScrD) (n : Nat) : ScrD := { s with Back := s.Back ++ (List.range n).map (rowAt s.Main) }
theorem keepTo_zero {s : ScrD} : keepTo s 0 = s := by
  unfold keepTo
  rw [show (List.range 0).map (rowAt s.Main) = [] from rfl, List.append_nil]
theorem keepTo_succ {s : ScrD} {n : Nat} {r : RowD} (h : r = rowAt s.Main n) : keepTo s (n + 1) = { keepTo s n with Back := (keepTo s n).Back ++ [r] } := by
  subst h
  unfold keepTo
  rw [range_snoc, ← List.append_assoc]
theorem keepTo_sm {s : ScrD} {n B : Nat} (h : smScr B s) (hg : gridOk s.Main = true) (hl : s.Back.length + n ≤ B) (hB : 120 ≤ B) : smScr B (keepTo s n) := by
  refine ⟨h.1, h.2.1, h.2.2.1, by simp only [keepTo, List.length_append, List.length_map, List.length_range]; exact hl, fun y hy => ?_⟩
  rcases List.mem_append.1 hy with hy | hy
  · exact h.2.2.2.2 y hy
  · obtain ⟨i, _, rfl⟩ := List.mem_map.1 hy
    have h1 := gridOk_bnd hg
    exact Nat.le_trans rowAt_len (by omega)
theorem keepTo_drop {s d : ScrD} {n k : Nat} (h : d = keepTo s n) (hk : k = d.Back.length - s.Limit.toNat) : { d with Back := d.Back.drop k } = keepRows s n := by subst h; subst hk; rfl
theorem keepTo_all {s d : ScrD} {n : Nat} (h : d = keepTo s n) (hk : d.Back.length ≤ s.Limit.toNat) : d = keepRows s n := by
  subst h
  unfold keepRows
  rw [lastN_all (l := s.Back ++ List.map (rowAt s.Main) (List.range n)) hk]; rfl
theorem keepRows_sm {s : ScrD} {n B : Nat} (h : smScr B s) (hg : gridOk s.Main = true) (hB : 120 ≤ B) (hl : s.Limit.toNat ≤ B) : smScr B (keepRows s n) := by
  refine ⟨h.1, h.2.1, h.2.2.1, by simp only [keepRows]; rw [lastN_len]; omega, fun y hy => ?_⟩
  have hy' := List.mem_of_mem_drop hy
  rcases List.mem_append.1 hy' with hy | hy
  · exact h.2.2.2.2 y hy
  · obtain ⟨i, _, rfl⟩ := List.mem_map.1 hy
    have h1 := gridOk_bnd hg
    exact Nat.le_trans rowAt_len (by omega)
theorem ownScrR.lens {r : ScrR} {L : Hp} (h : ownScrR r L) : (r.Main.Cells.xs.length = r.Main.Cells.n ∧ r.Main.Cells.n ≤ r.Main.Cells.c) ∧ (r.Alt.Cells.xs.length = r.Alt.Cells.n ∧ r.Alt.Cells.n ≤ r.Alt.Cells.c) ∧ (r.Tabs.xs.length = r.Tabs.n ∧ r.Tabs.n ≤ r.Tabs.c) ∧ (r.Back.xs.length = r.Back.n ∧ r.Back.n ≤ r.Back.c) := by
  obtain ⟨L1, L2, L3, L4, rfl, o1, o2, o3, o4⟩ := h
  exact ⟨⟨OwnF.len_ o1, OwnF.cap o1⟩, ⟨OwnF.len_ o2, OwnF.cap o2⟩, ⟨OwnF.len_ o3, OwnF.cap o3⟩, ⟨OwnN.len_ o4, OwnN.cap o4⟩⟩
def keepOne (s : ScrD) (y : Nat) : ScrD := { s with Back := lastN s.Limit.toNat (s.Back ++ [rowAt s.Main y]) }
theorem keepOne_succ {s : ScrD} {n : Nat} : keepOne (keepRows s n) n = keepRows s (n + 1) := keepRows_succ.symm
theorem keepOne_drop {s : ScrD} {y k : Nat} (hk : k = s.Back.length + 1 - s.Limit.toNat) : { s with Back := (s.Back ++ [rowAt s.Main y]).drop k } = keepOne s y := by
  unfold keepOne lastN
  rw [hk, List.length_append]; rfl
theorem keepOne_all {s : ScrD} {y : Nat} (hk : s.Back.length + 1 ≤ s.Limit.toNat) : { s with Back := s.Back ++ [rowAt s.Main y] } = keepOne s y := by
  unfold keepOne
  rw [lastN_all (by rw [List.length_append]; exact hk)]
theorem gridFit_ok {g : GridD} {w h : Int} (hf : gridFit g w h = true) : gridOk g = true := by
  unfold gridFit at hf
  rw [Bool.and_eq_true] at hf
  exact hf.1
theorem scrOk_P {s : ScrD} (h : scrOk s = true) : scrP1 s = true ∧ scrP2 s = true ∧ scrP3 s = true ∧ scrP4 s = true ∧ isAsc s.Tabs 0 (s.W - 1) = true ∧ s.Back.all rowOk = true := by
  unfold scrOk scrIn at h
  simp only [Bool.and_eq_true] at h
  exact ⟨h.1.1.1.1, h.1.1.1.2, h.1.1.2.1, h.1.1.2.2, h.1.2, h.2⟩
theorem scrOk_main {s : ScrD} (h : scrOk s = true) : gridOk s.Main = true ∧ gridOk s.Alt = true := by
  have h1 := (scrOk_P h).1
  unfold scrP1 at h1
  rw [Bool.and_eq_true] at h1
  exact ⟨gridFit_ok h1.1, gridFit_ok h1.2⟩
theorem scrOk_bnd {s : ScrD} (h : scrOk s = true) : ((1 ≤ s.W ∧ s.W ≤ 120) ∧ (1 ≤ s.H ∧ s.H ≤ 120) ∧ s.Main.W = s.W ∧ s.Main.H = s.H ∧ s.Alt.W = s.W ∧ s.Alt.H = s.H) ∧ ((0 ≤ s.X ∧ s.X < s.W) ∧ 0 ≤ s.Y ∧ s.Y < s.H) ∧ ((0 ≤ s.SaveX ∧ s.SaveX < s.W) ∧ 0 ≤ s.SaveY ∧ s.SaveY < s.H) ∧ (0 ≤ s.Top ∧ s.Top ≤ s.Bot ∧ s.Bot < s.H) ∧ (0 ≤ s.Limit ∧ s.Limit ≤ 100) ∧ (s.Back.length : Int) ≤ s.Limit := by
  obtain ⟨h1, h2, h3, h4, _, _⟩ := scrOk_P h
  have b := scrP1_bnd h1
  unfold scrP2 gridHas at h2
  unfold scrP3 at h3
  unfold scrP4 at h4
  simp only [Bool.and_eq_true, within_iff, decide_eq_true_eq] at h2 h3 h4
  omega
theorem gridOk_new {w h : Int} (hs : isSize w h = true) : gridOk (gridNew w h) = true := by
  obtain ⟨h1, h2, h3, h4⟩ := isSize_bnd hs
  unfold gridOk
  rw [Bool.and_eq_true, Bool.and_eq_true]
  refine ⟨⟨hs, ?_⟩, ?_⟩
  · rw [decide_eq_true_eq]
    show ((List.replicate (w * h).toNat blankC).length : Int) = w * h
    rw [List.length_replicate]; omega
  · show cellsOk (List.replicate (w * h).toNat blankC) = true
    unfold cellsOk
    rw [List.all_eq_true]
    intro x hx
    rw [List.mem_replicate] at hx
    rw [hx.2]; decide
theorem tots_le {l : List RowD} {k : Nat} (h : ∀ y, y ∈ l → y.Cells.length ≤ k) : tots totRow l ≤ l.length * (k + 1) := by
  unfold tots
  have : (l.map totRow).sum ≤ l.length * k := by
    induction l with
    | nil => simp
    | cons y r ih =>
      have h1 := ih (fun z hz => h z (List.mem_cons_of_mem _ hz))
      have h2 := h y List.mem_cons_self
      simp only [List.map_cons, List.sum_cons, List.length_cons, totRow, Nat.add_mul]
      omega
  rw [Nat.mul_add]
  omega
theorem rowOk_len {r : RowD} (h : rowOk r = true) : r.Cells.length ≤ 120 := by
  unfold rowOk at h
  rw [Bool.and_eq_true, within_iff] at h
  omega
theorem back_bnd {b : List RowD} {l : Int} (h : ∀ y, y ∈ b → y.Cells.length ≤ 120) (hl : (b.length : Int) ≤ l) (h2 : l ≤ 100) : tots totRow b ≤ 12100 := by
  have h1 := tots_le h
  have h3 : b.length * 121 ≤ 100 * 121 := Nat.mul_le_mul_right _ (by omega)
  omega
theorem scrOk_back {s : ScrD} (h : scrOk s = true) : ∀ y, y ∈ s.Back → y.Cells.length ≤ 120 := by
  have := (scrOk_P h).2.2.2.2.2
  rw [List.all_eq_true] at this
  exact fun y hy => rowOk_len (this y hy)
end Go.Proofs.YtjmegoiclgancaaGreat
namespace Go.Proofs.YtjmegoiclgancaaGreat
open Go Go.RowKit
set_option linter.unusedVariables false
set_option linter.unusedSimpArgs false
theorem scrOk_attr {s : ScrD} (h : scrOk s = true) : attrOk s.A.Fg s.A.Bg = true ∧ attrOk s.SaveA.Fg s.SaveA.Bg = true := by
  have h2 := (scrOk_P h).2.1
  unfold scrP2 at h2
  simp only [Bool.and_eq_true] at h2
  exact h2.2.2
theorem gridOk_cells {g : GridD} (h : gridOk g = true) : g.Cells.length ≤ 4000 ∧ cellsOk g.Cells = true := by
  have b := gridOk_bnd h
  unfold gridOk at h
  rw [Bool.and_eq_true, Bool.and_eq_true, decide_eq_true_eq] at h
  exact ⟨by omega, h.2⟩
end Go.Proofs.YtjmegoiclgancaaGreat
namespace Go.Proofs.YtjmegoiclgancaaGreat
open Go Go.RowKit
set_option linter.unusedVariables false
set_option linter.unusedSimpArgs false
def partF (g : GridD) (F : Nat → CellD) (lo i k : Nat) : CellD := if lo ≤ k ∧ k < lo + i then F k else cat g.Cells k
theorem partF_zero {g : GridD} {F : Nat → CellD} {lo k : Nat} : partF g F lo 0 k = cat g.Cells k := by
  unfold partF; rw [if_neg (by omega)]
theorem partF_add {g : GridD} {F : Nat → CellD} {lo i m k : Nat} : partF g F lo (i + m) k = if lo + i ≤ k ∧ k < lo + i + m then F k else partF g F lo i k := by
  unfold partF
  by_cases h1 : lo + i ≤ k ∧ k < lo + i + m
  · rw [if_pos h1, if_pos (by omega)]
  · rw [if_neg h1]
    by_cases h2 : lo ≤ k ∧ k < lo + i
    · rw [if_pos h2, if_pos (by omega)]
    · rw [if_neg h2, if_neg (by omega)]
theorem partF_one {g : GridD} {F : Nat → CellD} {lo i k : Nat} : partF g F lo (i + 1) k = if k = lo + i then F k else partF g F lo i k := by
  rw [partF_add]
  by_cases h : k = lo + i
  · rw [if_pos h, if_pos (by omega)]
  · rw [if_neg h, if_neg (by omega)]
theorem at_div {w y x : Nat} (hx : x < w) : (y * w + x) / w = y ∧ (y * w + x) % w = x := (dm_at hx).2 rfl
theorem rollF_row {g : GridD} {top bot n : Int} {y x : Nat} (hw : (x : Int) < g.W) (h1 : top ≤ (y : Int)) (h2 : (y : Int) ≤ bot) : rollF g top bot n (y * g.W.toNat + x) = if top ≤ (y : Int) + n ∧ (y : Int) + n ≤ bot then cat g.Cells (((y : Int) + n).toNat * g.W.toNat + x) else blankC := by
  obtain ⟨e1, e2⟩ := at_div (w := g.W.toNat) (y := y) (x := x) (by omega)
  unfold rollF
  rw [e1, e2, if_pos ⟨h1, h2⟩]
theorem rollF_out {g : GridD} {top bot n : Int} {k : Nat} (h : ¬ (top ≤ ((k / g.W.toNat : Nat) : Int) ∧ ((k / g.W.toNat : Nat) : Int) ≤ bot)) : rollF g top bot n k = cat g.Cells k := by
  unfold rollF; rw [if_neg h]
theorem partF_roll {g : GridD} {top bot n : Int} {k i : Nat} (hw : 0 < g.W.toNat) (ht : 0 ≤ top) (hi : i = (bot - top + 1).toNat * g.W.toNat) (htb : top ≤ bot) : partF g (rollF g top bot n) (top.toNat * g.W.toNat) i k = rollF g top bot n k := by
  unfold partF
  by_cases h : top ≤ ((k / g.W.toNat : Nat) : Int) ∧ ((k / g.W.toNat : Nat) : Int) ≤ bot
  · rw [if_pos]
    subst hi
    rw [← Nat.add_mul]
    have h3 := Nat.div_add_mod k g.W.toNat
    have h4 := Nat.mod_lt k hw
    rw [Nat.mul_comm] at h3
    have h5 : top.toNat ≤ k / g.W.toNat := by omega
    have h6 : k / g.W.toNat + 1 ≤ top.toNat + (bot - top + 1).toNat := by omega
    have h7 := Nat.mul_le_mul_right g.W.toNat h5
    have h8 := Nat.mul_le_mul_right g.W.toNat h6
    rw [Nat.add_mul, Nat.one_mul] at h8
    omega
  · rw [rollF_out h]; split <;> rfl
theorem rollF_big {g : GridD} {top bot n m : Int} (h0 : 0 ≤ top) (hb : bot < g.H) (hn : g.H ≤ n ∧ g.H ≤ m ∨ n ≤ -g.H ∧ m ≤ -g.H) : gRoll g top bot n = gRoll g top bot m := by
  unfold gRoll
  congr 1
  funext k
  unfold rollF
  split
  · rename_i h
    rw [if_neg (by omega), if_neg (by omega)]
  · rfl
theorem roll_next {g : GridD} {top bot m i : Int} {a c k : Nat} {xs : List CellD} {v : CellD} (h0 : 0 ≤ top) (hi : i = (top + a) * g.W + c) (hw : 0 ≤ g.W) (hl : i.toNat < xs.length) (hc : (c : Int) < g.W) (hb : top + a ≤ bot) (hv : v = if top ≤ top + a + m ∧ top + a + m ≤ bot then cat g.Cells ((top + a + m) * g.W + c).toNat else blankC)
    (hq : cat xs k = partF g (rollF g top bot m) (top.toNat * g.W.toNat) (a * g.W.toNat + c) k) : cat (xs.set i.toNat v) k = partF g (rollF g top bot m) (top.toNat * g.W.toNat) (a * g.W.toNat + c + 1) k := by
  have e1 : i.toNat = (top.toNat + a) * g.W.toNat + c := by
    rw [hi, Int.toNat_add (Int.mul_nonneg (by omega) hw) (by omega), Int.toNat_mul (by omega) hw, Int.toNat_natCast]
    congr 2; omega
  rw [partF_one]
  show gat encCell (xs.set i.toNat v) k = _
  rw [gat_set2 hl, e1, Nat.add_mul, Nat.add_assoc]
  split
  · rename_i hk
    subst hk
    rw [hv, show top.toNat * g.W.toNat + (a * g.W.toNat + c) = (top.toNat + a) * g.W.toNat + c by rw [Nat.add_mul, Nat.add_assoc], rollF_row hc (by omega) (by omega)]
    rw [show ((top.toNat + a : Nat) : Int) = top + a by omega]
    split
    · rename_i hs
      congr 1
      rw [Int.toNat_add (Int.mul_nonneg (by omega) hw) (by omega), Int.toNat_mul (by omega) hw, Int.toNat_natCast]
    · rfl
  · exact hq
theorem roll_done {g : GridD} {top bot n m w h : Int} {a : Nat} {xs : List CellD} (hg : gridOk g = true) (h0 : 0 ≤ top) (htb : top ≤ bot) (hb : bot < g.H) (ha : (a : Int) = bot - top + 1) (hw : w = g.W) (hh : h = g.H) (hl : xs.length = g.Cells.length) (hm : n = m ∨ (g.H ≤ n ∧ g.H ≤ m ∨ n ≤ -g.H ∧ m ≤ -g.H))
    (hp : ∀ k, k < g.Cells.length → cat xs k = partF g (rollF g top bot m) (top.toNat * g.W.toNat) (a * g.W.toNat) k) : (⟨w, h, xs⟩ : GridD) = gRoll g top bot n := by
  have b := gridOk_bnd hg
  have e : gRoll g top bot n = gRoll g top bot m := by
    rcases hm with hm | hm
    · rw [hm]
    · exact rollF_big h0 hb hm
  rw [e, hw, hh]
  unfold gRoll gmap
  congr 1
  refine ext_gat (F := encCell) hl (fun k hk => ?_)
  rw [← partF_roll (g := g) (top := top) (bot := bot) (n := m) (i := a * g.W.toNat) (by omega) h0 (by congr 1; omega) htb]
  exact hp k hk
theorem gat_splice2 {xs ys : List CellD} {lo m k : Nat} (hy : m ≤ ys.length) (hx : lo + m ≤ xs.length) (hk : k < xs.length) : cat (xs.take lo ++ ys.take m ++ xs.drop (lo + m)) k = if lo ≤ k ∧ k < lo + m then cat ys (k - lo) else cat xs k := gat_splice hy hx hk
theorem asc_at {l : List Int} {lo hi : Int} (h : isAsc l lo hi = true) {i : Nat} (hi' : i < l.length) : (lo ≤ iat l i ∧ iat l i ≤ hi) ∧ (0 < i → iat l (i - 1) < iat l i) := by
  unfold isAsc at h
  rw [List.all_eq_true] at h
  have h4 := h i (List.mem_range.2 hi')
  unfold ascAt at h4
  rw [Bool.and_eq_true, within_iff, Bool.or_eq_true, decide_eq_true_eq, decide_eq_true_eq] at h4
  exact ⟨h4.1, fun h0 => by rcases h4.2 with h5 | h5; omega; exact h5⟩
theorem asc_lt {l : List Int} {lo hi : Int} (h : isAsc l lo hi = true) {i : Nat} : ∀ {j : Nat}, i < j → j < l.length → iat l i < iat l j := by
  intro j
  induction j with
  | zero => intro h1; omega
  | succ j ih =>
    intro h1 h2
    have h3 := (asc_at h h2).2 (by omega)
    rw [Nat.add_sub_cancel] at h3
    rcases Nat.lt_or_ge i j with h4 | h4
    · have := ih h4 (by omega); omega
    · have : i = j := by omega
      subst this; exact h3
theorem asc_ge {l : List Int} {lo hi : Int} (h : isAsc l lo hi = true) : ∀ {i : Nat}, i < l.length → lo + i ≤ iat l i := by
  intro i
  induction i with
  | zero => intro h1; have := (asc_at h h1).1; omega
  | succ i ih =>
    intro h1
    have h2 := ih (by omega)
    have h3 := (asc_at h h1).2 (by omega)
    rw [Nat.add_sub_cancel] at h3
    omega
theorem asc_len {l : List Int} {w : Int} (h0 : 1 ≤ w) (h1 : w ≤ 120) (h : isAsc l 0 (w - 1) = true) : l.length ≤ 120 := by
  rcases Nat.lt_or_ge 120 l.length with h2 | h2
  · have h3 := asc_ge h (i := 120) h2
    have h4 := (asc_at h (i := 120) h2).1
    omega
  · exact h2
theorem within_of {x a b : Int} (h : a ≤ x ∧ x ≤ b) : within x a b = true := within_iff.2 h
structure ScrFine (s : ScrD) : Prop where
  gM : gridOk s.Main = true
  gA : gridOk s.Alt = true
  dim : s.Main.W = s.W ∧ s.Main.H = s.H ∧ s.Alt.W = s.W ∧ s.Alt.H = s.H
  pos : (0 ≤ s.X ∧ s.X < s.W) ∧ 0 ≤ s.Y ∧ s.Y < s.H
  sav : (0 ≤ s.SaveX ∧ s.SaveX < s.W) ∧ 0 ≤ s.SaveY ∧ s.SaveY < s.H
  wrp : s.Wrap = true → s.X = s.W - 1
  aA : attrOk s.A.Fg s.A.Bg = true
  aS : attrOk s.SaveA.Fg s.SaveA.Bg = true
  reg : (0 ≤ s.Top ∧ s.Top ≤ s.Bot) ∧ s.Bot < s.H ∧ (s.Top = s.Bot → s.H = 1)
  lim : (0 ≤ s.Limit ∧ s.Limit ≤ 100) ∧ (s.Back.length : Int) ≤ s.Limit
  tab : isAsc s.Tabs 0 (s.W - 1) = true
  row : s.Back.all rowOk = true
theorem ScrFine.of {s : ScrD} (h : scrOk s = true) : ScrFine s := by
  obtain ⟨h1, h2, h3, h4, h5, h6⟩ := scrOk_P h
  have hb := scrOk_bnd h
  have hm := scrOk_main h
  have ha := scrOk_attr h
  refine ⟨hm.1, hm.2, ⟨hb.1.2.2.1, hb.1.2.2.2.1, hb.1.2.2.2.2⟩, hb.2.1, hb.2.2.1, ?_, ha.1, ha.2, ⟨⟨hb.2.2.2.1.1, hb.2.2.2.1.2.1⟩, hb.2.2.2.1.2.2, ?_⟩, hb.2.2.2.2, h5, h6⟩
  · intro hw
    unfold scrP2 at h2
    rw [hw] at h2
    simp only [Bool.and_eq_true, Bool.not_true, Bool.false_or, decide_eq_true_eq] at h2
    exact h2.2.1
  · intro he
    unfold scrP3 at h3
    rw [he] at h3
    simp only [Bool.and_eq_true, decide_true, Bool.not_true, Bool.false_or, decide_eq_true_eq] at h3
    exact h3.2.2
theorem ScrFine.ok {s : ScrD} (h : ScrFine s) : scrOk s = true := by
  have b := gridOk_bnd h.gM
  obtain ⟨d1, d2, d3, d4⟩ := h.dim
  have hp := h.pos
  have hs := h.sav
  have hr := h.reg
  have hl := h.lim
  refine scrOk_all ?_ ?_ ?_ ?_ h.tab h.row
  · unfold scrP1 gridFit
    simp [h.gM, h.gA, d1, d2, d3, d4]
  · unfold scrP2 gridHas
    rw [within_of (by omega), within_of (by omega), within_of (by omega), within_of (by omega), h.aA, h.aS]
    have hw := h.wrp
    cases hq : s.Wrap
    · rfl
    · simp [hw hq]
  · unfold scrP3
    simp only [Bool.and_eq_true, decide_eq_true_eq, Bool.or_eq_true, Bool.not_eq_true', decide_eq_false_iff_not]
    refine ⟨hr.1, hr.2.1, ?_⟩
    by_cases he : s.Top = s.Bot
    · exact .inr (hr.2.2 he)
    · exact .inl he
  · unfold scrP4
    rw [within_of hl.1, Bool.true_and, decide_eq_true_eq]
    exact hl.2
theorem scr_tot {s : ScrD} (h : scrOk s = true) : totScr s ≤ 20220 := by
  have f := ScrFine.of h
  have m := gridOk_cells f.gM
  have a := gridOk_cells f.gA
  have b := back_bnd (scrOk_back h) f.lim.2 f.lim.1.2
  have t : s.Tabs.length ≤ 120 := by
    have hb := scrOk_bnd h
    exact asc_len (by omega) (by omega) f.tab
  show s.Main.Cells.length + s.Alt.Cells.length + s.Tabs.length + tots totRow s.Back ≤ 20220
  omega
theorem blank_ok : cellOk blankC = true := by decide
theorem grid_len {g : GridD} (hg : gridOk g = true) : (g.Cells.length : Int) = g.W * g.H := by
  unfold gridOk at hg; rw [Bool.and_eq_true, Bool.and_eq_true, decide_eq_true_eq] at hg; exact hg.1.2
theorem cat_ok {g : GridD} {k : Nat} (hg : gridOk g = true) (hk : k < g.Cells.length) : cellOk (cat g.Cells k) = true := by
  have h := (gridOk_cells hg).2
  unfold cellsOk at h
  rw [List.all_eq_true] at h
  exact h _ (gat_mem (F := encCell) hk)
theorem gmap_ok {g : GridD} {f : Nat → CellD} (hg : gridOk g = true) (h : ∀ k, k < g.Cells.length → cellOk (f k) = true) : gridOk (gmap g f) = true := by
  have hg' := hg
  unfold gridOk at hg' ⊢
  rw [Bool.and_eq_true, Bool.and_eq_true] at hg' ⊢
  refine ⟨⟨hg'.1.1, ?_⟩, ?_⟩
  · rw [decide_eq_true_eq, gmap_len]; exact grid_len hg
  · unfold cellsOk
    rw [List.all_eq_true]
    intro x hx
    obtain ⟨k, hk, rfl⟩ := List.mem_map.1 hx
    exact h k (List.mem_range.1 hk)
theorem idx_lt {g : GridD} {r : Int} {x : Nat} (hg : gridOk g = true) (h0 : 0 ≤ r) (h1 : r < g.H) (hx : x < g.W.toNat) : r.toNat * g.W.toNat + x < g.Cells.length := by
  have b := gridOk_bnd hg
  have l := grid_len hg
  have e : ((g.H.toNat * g.W.toNat : Nat) : Int) = g.W * g.H := by rw [Int.natCast_mul, Int.toNat_of_nonneg (by omega), Int.toNat_of_nonneg (by omega), Int.mul_comm]
  have m := Nat.mul_le_mul_right g.W.toNat (show r.toNat + 1 ≤ g.H.toNat by omega)
  rw [Nat.add_mul, Nat.one_mul] at m
  omega
theorem gRoll_ok {g : GridD} {top bot n : Int} (hg : gridOk g = true) (h0 : 0 ≤ top) (hb : bot < g.H) : gridOk (gRoll g top bot n) = true := by
  have b := gridOk_bnd hg
  refine gmap_ok hg (fun k hk => ?_)
  unfold rollF
  split
  · split
    · exact cat_ok hg (idx_lt hg (by omega) (by omega) (Nat.mod_lt _ (by omega)))
    · exact blank_ok
  · exact cat_ok hg hk
theorem gShift_ok {g : GridD} {x y n : Int} (hg : gridOk g = true) (h0 : 0 ≤ x) (hy : 0 ≤ y ∧ y < g.H) : gridOk (gShift g x y n) = true := by
  have b := gridOk_bnd hg
  refine gmap_ok hg (fun k hk => ?_)
  unfold shiftF
  split
  · rename_i h
    split
    · have := idx_lt (r := ((k / g.W.toNat : Nat) : Int)) (x := (((k % g.W.toNat : Nat) : Int) - n).toNat) hg (by omega) (by omega) (by omega)
      rw [Int.toNat_natCast] at this
      exact cat_ok hg this
    · exact blank_ok
  · exact cat_ok hg hk
def shownD (s : ScrD) : GridD := if s.OnAlt = true then s.Alt else s.Main
def putD (s : ScrD) (g : GridD) : ScrD := if s.OnAlt = true then { s with Alt := g } else { s with Main := g }
def shownR (x : ScrR) : GridR := if x.OnAlt = true then x.Alt else x.Main
theorem shownR_dat {x : ScrR} : (shownR x).dat = shownD x.dat := by
  unfold shownR shownD
  by_cases h : x.OnAlt = true
  · rw [if_pos h, if_pos (show x.dat.OnAlt = true from h)]; rfl
  · rw [if_neg h, if_neg (show ¬ x.dat.OnAlt = true from h)]; rfl
theorem shownR_alt {x : ScrR} (h : x.OnAlt = true) : shownR x = x.Alt := if_pos h
theorem shownR_main {x : ScrR} (h : ¬ x.OnAlt = true) : shownR x = x.Main := if_neg h
theorem okScrR.shown {B : Nat} {w : World} {x : ScrR} (h : okScrR B w x) : okGridR B w (shownR x) := by
  unfold shownR; split
  · exact h.Alt
  · exact h.Main
theorem sepScrR.shown {T : List Nat} {x : ScrR} (h : sepScrR T x) : sepGridR T (shownR x) := by
  unfold shownR; split
  · exact h.Alt
  · exact h.Main
theorem ScrFine.shown {s : ScrD} (h : ScrFine s) : gridOk (shownD s) = true ∧ (shownD s).W = s.W ∧ (shownD s).H = s.H := by
  unfold shownD
  split
  · exact ⟨h.gA, h.dim.2.2⟩
  · exact ⟨h.gM, h.dim.1, h.dim.2.1⟩
theorem ScrFine.put {s : ScrD} {g : GridD} (h : ScrFine s) (hg : gridOk g = true) (hd : g.W = s.W ∧ g.H = s.H) : ScrFine (putD s g) := by
  unfold putD
  split
  · exact ⟨h.gM, hg, ⟨h.dim.1, h.dim.2.1, hd⟩, h.pos, h.sav, h.wrp, h.aA, h.aS, h.reg, h.lim, h.tab, h.row⟩
  · exact ⟨hg, h.gA, ⟨hd.1, hd.2, h.dim.2.2⟩, h.pos, h.sav, h.wrp, h.aA, h.aS, h.reg, h.lim, h.tab, h.row⟩
def rollD (s : ScrD) (top bot n : Int) : ScrD := putD s (gRoll (shownD s) top bot n)
def keepD (s : ScrD) (n : Int) : ScrD := if s.OnAlt = false ∧ s.Top = 0 then keepRows s (min n (s.Bot + 1)).toNat else s
def rollUpD (s : ScrD) (n : Int) : ScrD := rollD (keepD s n) s.Top s.Bot n
def wrapD (s : ScrD) (b : Bool) : ScrD := { s with Wrap := b }
def downD (s : ScrD) : ScrD := wrapD (if s.Y = s.Bot then rollUpD s 1 else if s.Y < s.H - 1 then { s with Y := s.Y + 1 } else s) false
def upD (s : ScrD) : ScrD := wrapD (if s.Y = s.Top then rollD s s.Top s.Bot (-1) else if s.Y > 0 then { s with Y := s.Y - 1 } else s) false
def saveD (s : ScrD) : ScrD := { s with SaveX := s.X, SaveY := s.Y, SaveA := s.A }
def backD (s : ScrD) : ScrD := { s with X := s.SaveX, Y := s.SaveY, A := s.SaveA, Wrap := false }
def tabL (s : ScrD) : List Int := ((List.range s.W.toNat).map (fun i : Nat => (i : Int))).filter (fun x => decide (x = s.X) || s.Tabs.contains x)
def tabD (s : ScrD) : ScrD := { s with Tabs := tabL s }
def resetD (s : ScrD) : ScrD := { scrNew s.W s.H s.Limit with Back := s.Back }
theorem ScrFine.roll {s : ScrD} {top bot n : Int} (h : ScrFine s) (h0 : 0 ≤ top) (hb : bot < s.H) : ScrFine (rollD s top bot n) := by
  have hs := h.shown
  exact h.put (gRoll_ok hs.1 h0 (by rw [hs.2.2]; exact hb)) hs.2
theorem rowAt_ok {g : GridD} {i : Nat} (hg : gridOk g = true) (hi : (i : Int) < g.H) : rowOk (rowAt g i) = true := by
  have b := gridOk_bnd hg
  have l := grid_len hg
  have h2 := idx_lt (r := (i : Int)) (x := 0) hg (by omega) hi (by omega)
  have h3 := idx_lt (r := (i : Int)) (x := g.W.toNat - 1) hg (by omega) hi (by omega)
  rw [Int.toNat_natCast] at h2 h3
  have hl : (rowAt g i).Cells.length = g.W.toNat := by
    show ((g.Cells.drop _).take _).length = _
    rw [List.length_take, List.length_drop]; omega
  unfold rowOk
  rw [Bool.and_eq_true]
  refine ⟨within_of (by omega), ?_⟩
  have hc := (gridOk_cells hg).2
  unfold cellsOk at hc ⊢
  rw [List.all_eq_true] at hc ⊢
  exact fun x hx => hc x (List.mem_of_mem_drop (List.mem_of_mem_take hx))
theorem ScrFine.keepRows {s : ScrD} {n : Nat} (h : ScrFine s) (hn : (n : Int) ≤ s.H) : ScrFine (keepRows s n) := by
  refine ⟨h.gM, h.gA, h.dim, h.pos, h.sav, h.wrp, h.aA, h.aS, h.reg, ⟨h.lim.1, ?_⟩, h.tab, ?_⟩
  · show ((lastN _ _).length : Int) ≤ s.Limit
    rw [lastN_len]; have := h.lim.1; omega
  · show (lastN _ _).all rowOk = true
    rw [List.all_eq_true]
    intro x hx
    rcases List.mem_append.1 (List.mem_of_mem_drop hx) with hx | hx
    · exact List.all_eq_true.1 h.row x hx
    · obtain ⟨i, hi, rfl⟩ := List.mem_map.1 hx
      exact rowAt_ok h.gM (by rw [h.dim.2.1]; have := List.mem_range.1 hi; omega)
theorem ScrFine.keep {s : ScrD} {n : Int} (h : ScrFine s) : ScrFine (keepD s n) := by
  unfold keepD
  split
  · exact h.keepRows (by have := h.reg; omega)
  · exact h
theorem keepD_eqs {s : ScrD} {n : Int} : (keepD s n).H = s.H ∧ (keepD s n).Top = s.Top ∧ (keepD s n).Bot = s.Bot ∧ (keepD s n).W = s.W ∧ (keepD s n).OnAlt = s.OnAlt ∧ (keepD s n).Main = s.Main ∧ (keepD s n).Alt = s.Alt := by
  unfold keepD; split <;> exact ⟨rfl, rfl, rfl, rfl, rfl, rfl, rfl⟩
theorem ScrFine.rollUp {s : ScrD} {n : Int} (h : ScrFine s) : ScrFine (rollUpD s n) := by
  have := h.reg
  exact h.keep.roll (by omega) (by rw [keepD_eqs.1]; omega)
theorem ScrFine.wrap0 {s : ScrD} (h : ScrFine s) : ScrFine (wrapD s false) :=
  ⟨h.gM, h.gA, h.dim, h.pos, h.sav, fun h9 => Bool.noConfusion h9, h.aA, h.aS, h.reg, h.lim, h.tab, h.row⟩
theorem ScrFine.y {s : ScrD} {y : Int} (h : ScrFine s) (hy : 0 ≤ y ∧ y < s.H) : ScrFine { s with Y := y } :=
  ⟨h.gM, h.gA, h.dim, ⟨h.pos.1, hy⟩, h.sav, h.wrp, h.aA, h.aS, h.reg, h.lim, h.tab, h.row⟩
theorem ScrFine.down {s : ScrD} (h : ScrFine s) : ScrFine (downD s) := by
  have hp := h.pos
  refine ScrFine.wrap0 ?_
  split
  · exact h.rollUp
  · split
    · exact h.y (by omega)
    · exact h
theorem ScrFine.up {s : ScrD} (h : ScrFine s) : ScrFine (upD s) := by
  have hp := h.pos
  have hr := h.reg
  refine ScrFine.wrap0 ?_
  split
  · exact h.roll (by omega) (by omega)
  · split
    · exact h.y (by omega)
    · exact h
theorem ScrFine.save {s : ScrD} (h : ScrFine s) : ScrFine (saveD s) :=
  ⟨h.gM, h.gA, h.dim, h.pos, h.pos, h.wrp, h.aA, h.aA, h.reg, h.lim, h.tab, h.row⟩
theorem ScrFine.back {s : ScrD} (h : ScrFine s) : ScrFine (backD s) :=
  ⟨h.gM, h.gA, h.dim, h.sav, h.sav, fun h9 => Bool.noConfusion h9, h.aS, h.aS, h.reg, h.lim, h.tab, h.row⟩
theorem roll_row {g : GridD} {top bot n : Int} {a k lo m : Nat} {xs ys : List CellD} (h0 : 0 ≤ top) (hlo : lo = (top.toNat + a) * g.W.toNat) (hm : m = g.W.toNat) (hy : m ≤ ys.length) (hx : lo + m ≤ xs.length) (hk : k < xs.length) (hb : top + a ≤ bot)
    (hv : ∀ j, j < g.W.toNat → cat ys j = if top ≤ top + a + n ∧ top + a + n ≤ bot then cat g.Cells ((top + a + n).toNat * g.W.toNat + j) else blankC) (hq : cat xs k = partF g (rollF g top bot n) (top.toNat * g.W.toNat) (a * g.W.toNat) k) :
    cat (xs.take lo ++ ys.take m ++ xs.drop (lo + m)) k = partF g (rollF g top bot n) (top.toNat * g.W.toNat) ((a + 1) * g.W.toNat) k := by
  rw [gat_splice2 hy hx hk, Nat.add_mul a 1, Nat.one_mul, partF_add, ← Nat.add_mul, ← hlo, hm]
  split
  · rename_i hr
    rw [hv _ (by omega)]
    have e : k = (top.toNat + a) * g.W.toNat + (k - lo) := by omega
    have e2 : rollF g top bot n k = rollF g top bot n ((top.toNat + a) * g.W.toNat + (k - lo)) := congrArg _ e
    rw [e2, rollF_row (by omega) (by omega) (by omega), show ((top.toNat + a : Nat) : Int) = top + a by omega]
  · exact hq
theorem roll_src {g : GridD} {y : Int} {j lo m : Nat} (hy : 0 ≤ y) (hw : 0 ≤ g.W) (hlo : lo = (y * g.W).toNat) (hm : m = g.W.toNat) (hj : j < g.W.toNat) : cat ((g.Cells.drop lo).take m) j = cat g.Cells (y.toNat * g.W.toNat + j) := by
  show gat encCell _ _ = _
  rw [gat_cut (by omega), hlo, Int.toNat_mul hy hw]
theorem cat_rep {n j : Nat} {x : CellD} (h : j < n) : cat (List.replicate n x) j = x := by
  show gat encCell _ _ = _
  rw [gat_lt (by rw [List.length_replicate]; exact h), List.getElem_replicate]
end Go.Proofs.YtjmegoiclgancaaGreat
namespace Go.Proofs.YtjmegoiclgancaaGreat
open Go Go.RowKit
set_option linter.unusedVariables false
set_option linter.unusedSimpArgs false
def sgrOne (a : AttrD) (n : Int) : AttrD :=
  if n = 0 then ⟨0, 0, false, false, false⟩
  else if n = 1 ∨ n = 22 then { a with Bold := decide (n = 1) }
  else if n = 4 ∨ n = 24 then { a with Under := decide (n = 4) }
  else if n = 7 ∨ n = 27 then { a with Turn := decide (n = 7) }
  else if 30 ≤ n ∧ n ≤ 37 then { a with Fg := n - 29 }
  else if n = 39 then { a with Fg := 0 }
  else if 40 ≤ n ∧ n ≤ 47 then { a with Bg := n - 39 }
  else if n = 49 then { a with Bg := 0 } else a
def sgrAll (a : AttrD) (l : List Int) : AttrD := l.foldl sgrOne a
def sgrRes (a : AttrD) (l : List Int) : AttrD := if attrOk a.Fg a.Bg = true ∧ 0 < l.length then sgrAll a l else ⟨0, 0, false, false, false⟩
theorem attrOk_iff {a b : Int} : attrOk a b = true ↔ (0 ≤ a ∧ a ≤ 8) ∧ 0 ≤ b ∧ b ≤ 8 := by
  unfold attrOk; rw [Bool.and_eq_true, within_iff, within_iff]
theorem sgrOne_ok {a : AttrD} {n : Int} (h : attrOk a.Fg a.Bg = true) : attrOk (sgrOne a n).Fg (sgrOne a n).Bg = true := by
  rw [attrOk_iff] at h ⊢
  unfold sgrOne
  repeat' split
  all_goals (first | omega | (simp only; omega))
theorem sgrAll_ok {l : List Int} : ∀ {a : AttrD}, attrOk a.Fg a.Bg = true → attrOk (sgrAll a l).Fg (sgrAll a l).Bg = true := by
  induction l with
  | nil => exact fun h => h
  | cons x r ih => exact fun h => ih (sgrOne_ok h)
theorem sgrRes_ok {a : AttrD} {l : List Int} : attrOk (sgrRes a l).Fg (sgrRes a l).Bg = true := by
  unfold sgrRes
  split
  · rename_i h; exact sgrAll_ok h.1
  · decide
def argI (l : List Int) (k : Nat) (d : Int) : Int := if k < l.length ∧ iat l k ≠ 0 then iat l k else d
theorem argI_bnd {l : List Int} {k : Nat} {d : Int} (h : areArgs l = true) (hd : 0 ≤ d ∧ d ≤ 9999) : 0 ≤ argI l k d ∧ argI l k d ≤ 9999 := by
  unfold argI
  split
  · rename_i h1
    exact (areArgs_iff.1 h).2 _ (gat_mem (F := encI) h1.1)
  · exact hd
theorem argI_pos {l : List Int} {k : Nat} {d : Int} (h : areArgs l = true) (hd : 1 ≤ d ∧ d ≤ 9999) : 1 ≤ argI l k d ∧ argI l k d ≤ 9999 := by
  have h0 := argI_bnd (k := k) h (d := d) (by omega)
  unfold argI at h0 ⊢
  split at h0
  · rename_i h1; rw [if_pos h1]; have := h1.2; omega
  · rename_i h1; rw [if_neg h1]; exact hd
def clampI (x hi : Int) : Int := max 0 (min x hi)
theorem clampI_bnd {x w : Int} (h : 1 ≤ w) : 0 ≤ clampI x (w - 1) ∧ clampI x (w - 1) < w := by unfold clampI; omega
def moveD (s : ScrD) (x y : Int) : ScrD := { s with X := clampI x (s.W - 1), Y := clampI y (s.H - 1), Wrap := false }
def clearF (g : GridD) (a b : Int) (k : Nat) : CellD := if a ≤ (k : Int) ∧ (k : Int) < b then blankC else cat g.Cells k
def clearD (s : ScrD) (a b : Int) : ScrD := putD s (gmap (shownD s) (clearF (shownD s) a b))
def eraseD (s : ScrD) (a b k : Int) : ScrD :=
  if k = 0 then clearD s (s.Y * s.W + s.X) b else if k = 1 then clearD s a (s.Y * s.W + s.X + 1) else if k = 2 then clearD s a b else s
def regionD (s : ScrD) (l : List Int) : ScrD :=
  if argI l 0 1 - 1 < argI l 1 s.H - 1 ∧ argI l 1 s.H - 1 < s.H then moveD { s with Top := argI l 0 1 - 1, Bot := argI l 1 s.H - 1 } 0 0 else s
def tabsD (s : ScrD) (k : Int) : ScrD := { s with Tabs := s.Tabs.filter fun x => (decide (k = 0) && !decide (x = s.X)) || (!decide (k = 0) && !decide (k = 3)) }
def linesD (s : ScrD) (n : Int) : ScrD := if within s.Y s.Top s.Bot = true then { rollD s s.Y s.Bot n with X := 0, Wrap := false } else s
def modeD (s : ScrD) (n : Int) (on : Bool) : ScrD :=
  if n = 7 then { s with NoWrap := !on, Wrap := s.Wrap && on }
  else if n = 25 then { s with Hide := !on }
  else if (n = 1049 ∧ on = true) ∧ s.OnAlt = false then { saveD s with Alt := gridNew s.W s.H, OnAlt := true }
  else if (n = 1049 ∧ on = false) ∧ s.OnAlt = true then backD { s with OnAlt := false } else s
def csiD (s : ScrD) (l : List Int) (b : Int) : ScrD :=
  if b = 65 then moveD s s.X (s.Y - argI l 0 1)
  else if b = 66 then moveD s s.X (s.Y + argI l 0 1)
  else if b = 67 then moveD s (s.X + argI l 0 1) s.Y
  else if b = 68 then moveD s (s.X - argI l 0 1) s.Y
  else if b = 71 then moveD s (argI l 0 1 - 1) s.Y
  else if b = 100 then moveD s s.X (argI l 0 1 - 1)
  else if b = 72 ∨ b = 102 then moveD s (argI l 1 1 - 1) (argI l 0 1 - 1)
  else if b = 74 then eraseD s 0 (s.W * s.H) (argI l 0 0)
  else if b = 75 then eraseD s (s.Y * s.W) ((s.Y + 1) * s.W) (argI l 0 0)
  else if b = 88 then clearD s (s.Y * s.W + s.X) (min (s.Y * s.W + s.X + argI l 0 1) ((s.Y + 1) * s.W))
  else if b = 64 then putD s (gShift (shownD s) s.X s.Y (argI l 0 1))
  else if b = 80 then putD s (gShift (shownD s) s.X s.Y (-argI l 0 1))
  else if b = 76 then linesD s (-argI l 0 1)
  else if b = 77 then linesD s (argI l 0 1)
  else if b = 83 then rollUpD s (argI l 0 1)
  else if b = 84 then rollD s s.Top s.Bot (-argI l 0 1)
  else if b = 109 then { s with A := sgrRes s.A l }
  else if b = 114 then regionD s l
  else if b = 103 then tabsD s (argI l 0 0)
  else s
def seqD (s : ScrD) (mark : Bool) (l : List Int) (b : Int) : ScrD :=
  if mark = false then csiD s l b else if b = 104 ∨ b = 108 then l.foldl (fun s n => modeD s n (decide (b = 104))) s else s
theorem ScrFine.move {s : ScrD} {x y : Int} (h : ScrFine s) : ScrFine (moveD s x y) := by
  have hp := h.pos
  exact ⟨h.gM, h.gA, h.dim, ⟨clampI_bnd (by omega), clampI_bnd (by omega)⟩, h.sav, fun h9 => Bool.noConfusion h9, h.aA, h.aS, h.reg, h.lim, h.tab, h.row⟩
theorem ScrFine.clear {s : ScrD} {a b : Int} (h : ScrFine s) : ScrFine (clearD s a b) := by
  have hs := h.shown
  refine h.put (gmap_ok hs.1 (fun k hk => ?_)) hs.2
  unfold clearF
  split
  · exact blank_ok
  · exact cat_ok hs.1 hk
theorem ScrFine.erase {s : ScrD} {a b k : Int} (h : ScrFine s) : ScrFine (eraseD s a b k) := by
  unfold eraseD
  repeat' split
  all_goals first | exact h.clear | exact h
theorem ScrFine.region {s : ScrD} {l : List Int} (h : ScrFine s) (hl : areArgs l = true) : ScrFine (regionD s l) := by
  have b := gridOk_bnd h.gM
  obtain ⟨d1, d2, _⟩ := h.dim
  unfold regionD
  split
  · rename_i hr
    have h1 := argI_pos (k := 0) hl (d := 1) (by omega)
    have h' : ScrFine { s with Top := argI l 0 1 - 1, Bot := argI l 1 s.H - 1 } := ⟨h.gM, h.gA, h.dim, h.pos, h.sav, h.wrp, h.aA, h.aS, ⟨by constructor <;> (simp only; omega), hr.2, fun he => by simp only at he; omega⟩, h.lim, h.tab, h.row⟩
    exact h'.move
  · exact h
theorem ScrFine.wx {s : ScrD} (h : ScrFine s) : ScrFine { s with X := 0, Wrap := false } := by
  have hp := h.pos
  exact ⟨h.gM, h.gA, h.dim, ⟨by constructor <;> (simp only; omega), hp.2⟩, h.sav, fun h9 => Bool.noConfusion h9, h.aA, h.aS, h.reg, h.lim, h.tab, h.row⟩
theorem ScrFine.lines {s : ScrD} {n : Int} (h : ScrFine s) : ScrFine (linesD s n) := by
  unfold linesD
  split
  · rename_i hw
    rw [within_iff] at hw
    have hr := h.reg
    exact (h.roll (by omega) (by omega)).wx
  · exact h
theorem asc_pair {l : List Int} {lo hi : Int} : isAsc l lo hi = true ↔ l.Pairwise (· < ·) ∧ ∀ x, x ∈ l → lo ≤ x ∧ x ≤ hi := by
  constructor
  · intro h
    constructor
    · rw [List.pairwise_iff_getElem]
      intro i j hi' hj hij
      have := asc_lt h hij hj
      rwa [show iat l i = l[i] from gat_lt hi', show iat l j = l[j] from gat_lt hj] at this
    · intro x hx
      obtain ⟨i, hi', rfl⟩ := List.mem_iff_getElem.1 hx
      have := (asc_at h hi').1
      rwa [show iat l i = l[i] from gat_lt hi'] at this
  · rintro ⟨h1, h2⟩
    refine isAsc_all fun i hi' => ?_
    unfold ascAt
    rw [Bool.and_eq_true, within_iff, Bool.or_eq_true, decide_eq_true_eq, decide_eq_true_eq, show iat l i = l[i] from gat_lt hi']
    refine ⟨h2 _ (List.getElem_mem hi'), ?_⟩
    rcases Nat.eq_zero_or_pos i with h3 | h3
    · exact .inl h3
    · right
      rw [show iat l (i - 1) = l[i - 1] from gat_lt (by omega)]
      exact List.pairwise_iff_getElem.1 h1 (i - 1) i (by omega) hi' (by omega)
theorem asc_sub {l m : List Int} {lo hi : Int} (h : isAsc l lo hi = true) (hm : m.Sublist l) : isAsc m lo hi = true := by
  rw [asc_pair] at h ⊢
  exact ⟨h.1.sublist hm, fun x hx => h.2 x (hm.subset hx)⟩
theorem ScrFine.tabs {s : ScrD} {l : List Int} (h : ScrFine s) (hl : isAsc l 0 (s.W - 1) = true) : ScrFine { s with Tabs := l } :=
  ⟨h.gM, h.gA, h.dim, h.pos, h.sav, h.wrp, h.aA, h.aS, h.reg, h.lim, hl, h.row⟩
theorem ScrFine.sgr {s : ScrD} {l : List Int} (h : ScrFine s) : ScrFine { s with A := sgrRes s.A l } :=
  ⟨h.gM, h.gA, h.dim, h.pos, h.sav, h.wrp, sgrRes_ok, h.aS, h.reg, h.lim, h.tab, h.row⟩
theorem ScrFine.shift {s : ScrD} {n : Int} (h : ScrFine s) : ScrFine (putD s (gShift (shownD s) s.X s.Y n)) := by
  have hs := h.shown
  have hp := h.pos
  exact h.put (gShift_ok hs.1 hp.1.1 (by rw [hs.2.2]; exact hp.2)) hs.2
theorem fine_ite {p : Prop} [Decidable p] {a b : ScrD} (ha : ScrFine a) (hb : ScrFine b) : ScrFine (if p then a else b) := by
  by_cases h : p
  · rw [if_pos h]; exact ha
  · rw [if_neg h]; exact hb
theorem ScrFine.csi {s : ScrD} {l : List Int} {b : Int} (h : ScrFine s) (hl : areArgs l = true) : ScrFine (csiD s l b) := by
  have hr := h.reg
  unfold csiD
  repeat' (with_reducible refine fine_ite ?_ ?_)
  all_goals first | exact h.move | exact h.erase | exact h.clear | exact h.shift | exact h.lines | exact h.rollUp | exact h.roll (by omega) (by omega) | exact h.sgr | exact h.region hl | exact h.tabs (asc_sub h.tab List.filter_sublist) | exact h
theorem isSize_of {g : GridD} (hg : gridOk g = true) : isSize g.W g.H = true := by
  unfold gridOk at hg; rw [Bool.and_eq_true, Bool.and_eq_true] at hg; exact hg.1.1
theorem ScrFine.size {s : ScrD} (h : ScrFine s) : isSize s.W s.H = true := by
  have := isSize_of h.gM
  rwa [h.dim.1, h.dim.2.1] at this
theorem ScrFine.mode {s : ScrD} {n : Int} {on : Bool} (h : ScrFine s) : ScrFine (modeD s n on) := by
  unfold modeD
  split
  · exact ⟨h.gM, h.gA, h.dim, h.pos, h.sav, fun h9 => h.wrp (by simp only [Bool.and_eq_true] at h9; exact h9.1), h.aA, h.aS, h.reg, h.lim, h.tab, h.row⟩
  · split
    · exact ⟨h.gM, h.gA, h.dim, h.pos, h.sav, h.wrp, h.aA, h.aS, h.reg, h.lim, h.tab, h.row⟩
    · split
      · exact ⟨h.gM, gridOk_new h.size, ⟨h.dim.1, h.dim.2.1, rfl, rfl⟩, h.pos, h.pos, h.wrp, h.aA, h.aA, h.reg, h.lim, h.tab, h.row⟩
      · split
        · exact ⟨h.gM, h.gA, h.dim, h.sav, h.sav, fun h9 => Bool.noConfusion h9, h.aS, h.aS, h.reg, h.lim, h.tab, h.row⟩
        · exact h
def modesD (s : ScrD) (l : List Int) (on : Bool) : ScrD := l.foldl (fun s n => modeD s n on) s
theorem ScrFine.modes {l : List Int} {on : Bool} : ∀ {s : ScrD}, ScrFine s → ScrFine (modesD s l on) := by
  induction l with
  | nil => exact fun h => h
  | cons x r ih => exact fun h => ih h.mode
theorem ScrFine.seq {s : ScrD} {mark : Bool} {l : List Int} {b : Int} (h : ScrFine s) (hl : areArgs l = true) : ScrFine (seqD s mark l b) := by
  unfold seqD
  split
  · exact h.csi hl
  · split
    · exact ScrFine.modes h
    · exact h
end Go.Proofs.YtjmegoiclgancaaGreat
namespace Go.Proofs.YtjmegoiclgancaaGreat
open Go Go.RowKit
set_option linter.unusedVariables false
set_option linter.unusedSimpArgs false
theorem c_impl_Grid_roll (g : GridR) (top : Int) (bot : Int) (n : Int) (w : World) (f_g : okGridR 549755813888 w g) (hg : gridOk g.dat = true) (ht : 0 ≤ top ∧ top ≤ bot ∧ bot < g.H) (hn : -100000 ≤ n ∧ n ≤ 100000) :
    Calls Tryz.prog 249 #[.agg #[i64 g.W, i64 g.H, .slice g.Cells.A g.Cells.n g.Cells.c], i64 top, i64 bot, i64 n] w fun e w' => ∃ r L1, e = .returned (.agg #[i64 r.W, i64 r.H, .slice r.Cells.A r.Cells.n r.Cells.c]) ∧ St w [] L1 w' ∧ ownGridR r L1 ∧ r.dat = gRoll g.dat top bot n := by
 have nb_g_Cells := f_g.Cells_n
 have nl_g_Cells := f_g.Cells.len
 have hgb : (1 ≤ g.W ∧ g.W ≤ 120) ∧ (1 ≤ g.H ∧ g.H ≤ 120) ∧ 1 ≤ g.W * g.H ∧ g.W * g.H ≤ 4000 := gridOk_bnd hg
 have hgl : (g.Cells.xs.length : Int) = g.W * g.H := grid_len hg
 have hsmg : smGrid 1048576 g.dat := by show g.Cells.xs.length ≤ 1048576; omega
 refine enter (vs := [.agg #[i64 g.W, i64 g.H, .slice g.Cells.A g.Cells.n g.Cells.c], i64 top, i64 bot, i64 n]) 48 Tryz.func249 rfl Tryz.ntmps249 rfl rfl ?_
 have hs1 := St.init w
 refine WC.sr ?_
 refine WL.bx hs1 rfl (fun b2 _ hs3 => ?_)
 refine WL.al hs3 Tryz.zeroValue28 rfl rfl (fun b4 _ hs5 => ?_)
 refine WL.nil ?_
 refine WC.sr ?_
 refine WL.run tbk 1 hs5 [1] rfl ⟨rfl, trivial⟩ ?_
 refine WL.call rfl rfl rfl (Run.call Tryz.call206 rfl rfl rfl) (c_impl_copyGrid g _ (okGridR.st0 f_g hs5) ?_) ?_
 · first | (first | assumption | rfl | omega) | (first | assumption | rfl | omega)
 rintro _ whs6 ⟨r7, L1_8, rfl, hs6, ho9, hd10⟩
 replace hs6 := hs5.callF hs6
 refine ⟨_, rfl, ?_⟩
 replace hs6 := St.back [_, _] hs6
 skip
 refine WL.al hs6 Tryz.zeroValue28 rfl rfl (fun b11 _ hs12 => ?_)
 refine WL.st tbk hs12 0 rfl rfl (fun _ hs13 => ?_)
 refine WL.nil ?_
 refine WC.seq (fun K14 hK14 => ?_)
 refine WC.rr tbk hs13 [] rfl trivial ?_
 refine WC.block ?_
 have hM19 := (St.grp1 (L1 := L1_8) [_] (St.perm (St.perm (St.perm (St.perm hs13 (L' := [_] ++ _) (perm_front (A := [_, _]) (List.Perm.refl _))) (L' := [_] ++ _) (perm_front (A := [_, _]) (List.Perm.refl _))) (L' := L1_8 ++ _) (perm_front (A := [_, _, _]) (List.Perm.refl _))) (L' := [_] ++ _) (perm_front (A := L1_8) (perm_front (A := [_, _]) (List.Perm.refl _)))))
 refine WC.loopV (α := Hp) [(1, _), (2, _), (3, _), (4, _), (8, _), (9, _)] ⟨rfl, rfl, rfl, rfl, rfl, rfl, trivial⟩ (fun a_ => a_) _ hM19 (fun k_ (a_ : Hp) f => ∃ (a : Nat) (r : GridR) (L17 : Hp), k_ = (bot - top + 1).toNat - a ∧ a_ = [(b11, .cells (List.toArray [i64 r.W, i64 r.H, .slice r.Cells.A r.Cells.n r.Cells.c]) 28 (0, 0))] ++ L17 ∧ (top + (a : Int) ≤ bot + 1) ∧ (r.W = g.W ∧ r.H = g.H ∧ r.Cells.xs.length = g.Cells.xs.length) ∧ (∀ k, k < g.Cells.xs.length → cat r.Cells.xs k = partF g.dat (rollF g.dat top bot n) (top.toNat * g.W.toNat) (a * g.W.toNat) k) ∧ ownGridR r L17 ∧ Sub [(10, .int .i64 (top + a))] f) (((fun (a : Nat) => (bot - top + 1).toNat - a) (0))) ?_ ?_
 ·refine ⟨0, r7, L1_8, rfl, rfl, ?_, ?_, ?_, ho9, ⟨?_, trivial⟩⟩
  · omega
  · exact ⟨congrArg GridD.W hd10, congrArg GridD.H hd10, congrArg (fun d : GridD => d.Cells.length) hd10⟩
  · intro k hk; rw [Nat.zero_mul, partF_zero]; exact congrArg (fun d : GridD => cat d.Cells k) hd10
  · (refine congrArg some (congrArg (Value.int _) ?_); omega)
 ·rintro _ _ f w ⟨a, r, L17, rfl, rfl, p0, p1, p2, ho18, hG⟩ hF hs20
  refine WC.sub _ (hG.app hF) ?_
  clear hG hF
  replace hs20 := St.ungrp1 [_] hs20
  have hs21 := (St.perm (St.perm (St.perm hs20 (L' := [_] ++ _) (perm_front (A := [_]) (perm_front (A := L17) (perm_front (A := [_]) (List.Perm.refl _))))) (L' := [_] ++ _) (perm_front (A := [_, _]) (perm_front (A := L17) (List.Perm.refl _)))) (L' := [_] ++ _) (perm_front (A := [_, _]) (List.Perm.refl _)))
  have hsmr : smGrid 549755813888 r.dat := by show r.Cells.xs.length ≤ 549755813888; omega
  refine WC.seq (fun K22 hK22 => ?_)
  refine WC.rr tbk hs21 [] rfl trivial ?_
  refine WC.cond rfl (fun h23 => ?_) (fun h23 => ?_)
  ·have qh23 := h23
   try simp only [bf, within_iff, within_not] at qh23
   have hab : top + (a : Int) ≤ bot := by omega
   have hv0 : 0 ≤ (top + (a : Int)) * g.W := Int.mul_nonneg (by omega) (by omega)
   have hv1 : (top + (a : Int) + 1) * g.W = (top + (a : Int)) * g.W + g.W := by rw [Int.add_mul, Int.one_mul]
   have hv2 : (top + (a : Int) + 1) * g.W ≤ g.H * g.W := Int.mul_le_mul_of_nonneg_right (by omega) (by omega)
   rw [Int.mul_comm g.H g.W] at hv2
   have hrw : r.W = g.W := p1.1
   have hz0 : (top + (a : Int)) * r.W = (top + (a : Int)) * g.W := by rw [hrw]
   have hz1 : (top + (a : Int) + 1) * r.W = (top + (a : Int) + 1) * g.W := by rw [hrw]
   have hnr := ownGridR.len ‹ownGridR r _›
   have hcr := OwnF.cap ‹ownGridR r _›
   have hlr := f_g.Cells.len
   have hcg := f_g.Cells_c
   have hlo0 : ((top + (a : Int)) * r.W).toNat = (top.toNat + a) * g.W.toNat := by rw [hrw, Int.toNat_mul (by omega) (by omega)]; congr 1; omega
   have hmm1 : ((top + (a : Int) + 1) * r.W).toNat - ((top + (a : Int)) * r.W).toNat = g.W.toNat := by rw [hz0, hz1]; omega
   refine WC.skip ?_
   refine hK22 _ _ ?_
   refine WC.seq (fun K24 hK24 => ?_)
   refine WC.block ?_
   refine WC.rr tbk hs21 [] rfl ⟨by omega, trivial⟩ ?_
   refine WC.sr ?_
   refine WL.run tbk 1 hs21 [] rfl trivial ?_
   refine WL.call rfl rfl rfl (Run.call Tryz.call97 rfl rfl rfl) (c_impl_within _ _ _ _) ?_
   rintro _ whs25 ⟨rfl, hs25⟩
   replace hs25 := hs21.call0 hs25
   refine ⟨_, rfl, ?_⟩
   refine WL.run tbk 1 hs25 [] rfl trivial ?_
   apply WL.gA 4 Acts.nil hs25 rfl
   ·intro g26 J27
    have qg26 := g26
    try simp only [bf, within_iff, within_not] at qg26
    refine WL.runA tbk 3 (Acts.nil.cons (j := 2) rfl g26) hs25 [] rfl trivial ?_
    refine WL.call (wantT rfl g26) rfl rfl (Run.call Tryz.call97 rfl rfl rfl) (c_impl_within _ _ _ _) ?_
    rintro _ whs28 ⟨rfl, hs28⟩
    replace hs28 := hs25.call0 hs28
    refine ⟨_, rfl, ?_⟩
    exact WL.eA 4 Acts.nil J27 hs28 g26 rfl rfl
   ·intro _ hs29
    refine WL.nil ?_
    refine WC.cond rfl (fun h30 => ?_) (fun h30 => ?_)
    ·have qh30 := h30
     try simp only [bf, within_iff, within_not] at qh30
     have hin : top ≤ top + (a : Int) + n ∧ top + (a : Int) + n ≤ bot := by have h9 := h30; simp only [Bool.and_eq_true, within_iff] at h9; omega
     have hu0 : 0 ≤ (top + (a : Int) + n) * g.W := Int.mul_nonneg (by omega) (by omega)
     have hu1 : (top + (a : Int) + n + 1) * g.W = (top + (a : Int) + n) * g.W + g.W := by rw [Int.add_mul, Int.one_mul]
     have hu2 : (top + (a : Int) + n + 1) * g.W ≤ g.H * g.W := Int.mul_le_mul_of_nonneg_right (by omega) (by omega)
     rw [Int.mul_comm g.H g.W] at hu2
     have hsrc : ((top + (a : Int) + n + 1) * g.W).toNat - ((top + (a : Int) + n) * g.W).toNat = g.W.toNat := by omega
     refine WC.regionH2 (fun w' => St _ _ _ w') (fun w' => St _ _ _ w') mixed (St.drew (St.drop (St.perm hs29 (L' := L17 ++ _) (perm_front (A := [_, _, _]) (List.Perm.refl _))) (List.sublist_append_right L17 _))) (St.drew hs29) (fun whs31 hs31 => ?_)
     replace hs31 : St _ _ _ _ := hs31
     refine WH.take 0 rfl (by kernel_rfl) rfl rfl rfl (St.drop (St.perm hs31 (L' := L17 ++ _) (perm_front (A := [_, _, _]) (List.Perm.refl _))) (List.sublist_append_right L17 _)) (fun w_ hs_ => (Run.loadLA (hs_ : St _ _ _ _) 0 Tryz.isAgg28 Tryz.sizeOf28 rfl rfl rfl rfl rfl)) ?_
     refine WH.take 1 rfl (by kernel_rfl) rfl rfl rfl (St.drop (St.perm hs31 (L' := L17 ++ _) (perm_front (A := [_, _, _]) (List.Perm.refl _))) (List.sublist_append_right L17 _)) (fun w_ hs_ => (Run.move rfl rfl)) ?_
     refine WH.take 3 rfl (by kernel_rfl) rfl rfl rfl (St.drop (St.perm hs31 (L' := L17 ++ _) (perm_front (A := [_, _, _]) (List.Perm.refl _))) (List.sublist_append_right L17 _)) (fun w_ hs_ => (Run.loadLA (hs_ : St _ _ _ _) 2 Tryz.isAgg28 Tryz.sizeOf28 rfl rfl rfl rfl rfl)) ?_
     refine WH.take 4 rfl (by kernel_rfl) rfl rfl rfl (St.drop (St.perm hs31 (L' := L17 ++ _) (perm_front (A := [_, _, _]) (List.Perm.refl _))) (List.sublist_append_right L17 _)) (fun w_ hs_ => (Run.move rfl rfl)) ?_
     refine WH.all [2] (by kernel_rfl) rfl (WHs.cons (i := 2) rfl ?_ WHs.nil)
     refine WL.call rfl rfl rfl (Run.call Tryz.call224 rfl rfl rfl) (c_impl_Grid_row r _ _ (ownGridR.ok (B := 549755813888) ho18 (fun p_ hp_ => (hs31.own p_ (List.mem_append_right [_, _, _] (List.mem_append_left _ hp_))).1) hsmr) ?_ ?_ ?_ ?_) ?_
     · first | (first | assumption | rfl | omega) | (first | assumption | rfl | omega)
     · first | (first | assumption | rfl | omega) | (first | assumption | rfl | omega)
     · first | (first | assumption | rfl | omega) | (first | assumption | rfl | omega)
     · first | (first | assumption | rfl | omega) | (first | assumption | rfl | omega)
     rintro _ whs32 ⟨rfl, hs32⟩
     replace hs32 := hs31.call0 hs32
     refine ⟨_, rfl, ?_⟩
     refine WL.nil ⟨(St.drop (St.perm hs32 (L' := L17 ++ _) (perm_front (A := [_, _, _]) (List.Perm.refl _))) (List.sublist_append_right L17 _)), ?_⟩
     refine WH.all [5] (by kernel_rfl) rfl (WHs.cons (i := 5) rfl ?_ WHs.nil)
     refine WL.call rfl rfl rfl (Run.call Tryz.call224 rfl rfl rfl) (c_impl_Grid_row g _ _ (okGridR.st0 f_g hs32) ?_ ?_ ?_ ?_) ?_
     · first | (first | assumption | rfl | omega) | (first | assumption | rfl | omega)
     · first | (first | assumption | rfl | omega) | (first | assumption | rfl | omega)
     · first | (first | assumption | rfl | omega) | (first | assumption | rfl | omega)
     · first | (first | assumption | rfl | omega) | (first | assumption | rfl | omega)
     rintro _ whs33 ⟨rfl, hs33⟩
     replace hs33 := hs32.call0 hs33
     refine ⟨_, rfl, ?_⟩
     refine WL.nil ⟨(St.drop (St.perm hs33 (L' := L17 ++ _) (perm_front (A := [_, _, _]) (List.Perm.refl _))) (List.sublist_append_right L17 _)), ?_⟩
     refine WH.all [6] (by kernel_rfl) rfl (WHs.cons (i := 6) rfl ?_ WHs.nil)
     refine WL.copyF (lo := ((top + (a : Int)) * r.W).toNat) (St.perm hs33 (L' := L17 ++ _) (perm_front (A := [_, _, _]) (List.Perm.refl _))) ho18 (SlF.cutC (lo := (((top + (a : Int)) + n) * g.W).toNat) (hi := ((((top + (a : Int)) + n) + 1) * g.W).toNat) (SlF.st0 f_g.Cells hs33) (by refine ⟨?_, ?_, ?_⟩ <;> (omega))) Tryz.underlying26 Tryz.underlying26 info_75 rfl rfl rfl rfl rfl rfl rfl (.inl rfl) ?_ ?_ (fun L34 _ hs35 ho36 => ?_)
     · omega
     · omega
     replace hs35 := St.back [_, _, _] hs35
     refine WL.nil ⟨(St.drop (St.perm hs35 (L' := L34 ++ _) (perm_front (A := [_, _, _]) (List.Perm.refl _))) (List.sublist_append_right L34 _)), ?_⟩
     refine WH.done (by kernel_rfl) ?_
     refine hK24 _ _ ?_
     refine WC.region ?_
     refine WL.run tbk 3 hs35 [] rfl ⟨by omega, trivial⟩ ?_
     refine WL.nil ?_
     refine tkN ?_
     have hF37 := (St.grp1 (L1 := L34) [_] (St.perm (St.perm (St.perm (St.perm hs35 (L' := [_] ++ _) (perm_front (A := [_, _]) (List.Perm.refl _))) (L' := [_] ++ _) (perm_front (A := [_, _]) (List.Perm.refl _))) (L' := L34 ++ _) (perm_front (A := [_, _, _]) (List.Perm.refl _))) (L' := [_] ++ _) (perm_front (A := L34) (perm_front (A := [_, _]) (List.Perm.refl _)))))
     refine ⟨⟨rfl, rfl, rfl, rfl, rfl, rfl, trivial⟩, _, hF37, _, ?_, a + 1, ⟨r.W, r.H, SlD.of ho36⟩, L34, rfl, rfl, ?_, ?_, ?_, ho36, ⟨?_, trivial⟩⟩
     · omega
     · omega
     · exact ⟨p1.1, p1.2.1, by simp only [List.length_append, List.length_take, List.length_drop]; omega⟩
     · intro k hk; show cat _ k = partF g.dat (rollF g.dat top bot n) (top.toNat * g.dat.W.toNat) ((a + 1) * g.dat.W.toNat) k; first | exact roll_row ht.1 hlo0 (by show _ = g.W.toNat; (try simp only [List.length_replicate]); omega) (by first | (simp only [List.length_take, List.length_drop]; omega) | (simp only [List.length_replicate]; omega)) (by (try simp only [List.length_replicate]); omega) (by omega) hab (fun j hj => by have _ := hin; rw [if_pos hin]; exact roll_src (by omega) (by show 0 ≤ g.W; omega) rfl hsrc hj) (p2 k hk) | exact roll_row ht.1 hlo0 (by show _ = g.W.toNat; (try simp only [List.length_replicate]); omega) (by first | (simp only [List.length_take, List.length_drop]; omega) | (simp only [List.length_replicate]; omega)) (by (try simp only [List.length_replicate]); omega) (by omega) hab (fun j hj => by rw [if_neg hout]; exact cat_rep hj) (p2 k hk)
     · (refine congrArg some (congrArg (Value.int _) ?_); omega)
    ·have qh30 := h30
     try simp only [bf, within_iff, within_not] at qh30
     have hout : ¬ (top ≤ top + (a : Int) + n ∧ top + (a : Int) + n ≤ bot) := by intro h8; have h9 := h30; simp [within] at h9; omega
     refine WC.regionH2 (fun w' => St _ _ _ w') (fun w' => St _ _ _ w') mixed (St.drew (St.drop (St.perm hs29 (L' := L17 ++ _) (perm_front (A := [_, _, _]) (List.Perm.refl _))) (List.sublist_append_right L17 _))) (St.drew hs29) (fun whs38 hs38 => ?_)
     replace hs38 : St _ _ _ _ := hs38
     refine WH.take 0 rfl (by kernel_rfl) rfl rfl rfl (St.drop (St.perm hs38 (L' := L17 ++ _) (perm_front (A := [_, _, _]) (List.Perm.refl _))) (List.sublist_append_right L17 _)) (fun w_ hs_ => (Run.loadLA (hs_ : St _ _ _ _) 0 Tryz.isAgg28 Tryz.sizeOf28 rfl rfl rfl rfl rfl)) ?_
     refine WH.take 1 rfl (by kernel_rfl) rfl rfl rfl (St.drop (St.perm hs38 (L' := L17 ++ _) (perm_front (A := [_, _, _]) (List.Perm.refl _))) (List.sublist_append_right L17 _)) (fun w_ hs_ => (Run.move rfl rfl)) ?_
     refine WH.take 5 rfl (by kernel_rfl) rfl rfl rfl (St.drop (St.perm hs38 (L' := L17 ++ _) (perm_front (A := [_, _, _]) (List.Perm.refl _))) (List.sublist_append_right L17 _)) (fun w_ hs_ => (Run.field Tryz.runUnderlying28 rfl rfl rfl Tryz.sizeOf3 rfl)) ?_
     refine WH.take 6 rfl (by kernel_rfl) rfl rfl rfl (St.drop (St.perm hs38 (L' := L17 ++ _) (perm_front (A := [_, _, _]) (List.Perm.refl _))) (List.sublist_append_right L17 _)) (fun w_ hs_ => (Run.loadL (hs_ : St _ _ _ _) 2 Tryz.isAgg3 rfl rfl rfl rfl)) ?_
     refine WH.all [2] (by kernel_rfl) rfl (WHs.cons (i := 2) rfl ?_ WHs.nil)
     refine WL.call rfl rfl rfl (Run.call Tryz.call224 rfl rfl rfl) (c_impl_Grid_row r _ _ (ownGridR.ok (B := 549755813888) ho18 (fun p_ hp_ => (hs38.own p_ (List.mem_append_right [_, _, _] (List.mem_append_left _ hp_))).1) hsmr) ?_ ?_ ?_ ?_) ?_
     · first | (first | assumption | rfl | omega) | (first | assumption | rfl | omega)
     · first | (first | assumption | rfl | omega) | (first | assumption | rfl | omega)
     · first | (first | assumption | rfl | omega) | (first | assumption | rfl | omega)
     · first | (first | assumption | rfl | omega) | (first | assumption | rfl | omega)
     rintro _ whs39 ⟨rfl, hs39⟩
     replace hs39 := hs38.call0 hs39
     refine ⟨_, rfl, ?_⟩
     refine WL.nil ⟨(St.drop (St.perm hs39 (L' := L17 ++ _) (perm_front (A := [_, _, _]) (List.Perm.refl _))) (List.sublist_append_right L17 _)), ?_⟩
     refine WH.all [3] (by kernel_rfl) rfl (WHs.cons (i := 3) rfl ?_ WHs.nil)
     refine WL.call rfl rfl rfl (Run.call Tryz.call253 rfl rfl rfl) (c_impl_blank _) ?_
     rintro _ whs40 ⟨rfl, hs40⟩
     replace hs40 := hs39.call0 hs40
     refine ⟨_, rfl, ?_⟩
     refine WL.nil ⟨(St.drop (St.perm hs40 (L' := L17 ++ _) (perm_front (A := [_, _, _]) (List.Perm.refl _))) (List.sublist_append_right L17 _)), ?_⟩
     refine WH.all [4] (by kernel_rfl) rfl (WHs.cons (i := 4) rfl ?_ WHs.nil)
     refine WL.buildF (F := encCell) hs40 ([blankC]) Tryz.runUnderlying26 Tryz.sizeOf75 Tryz.zeroValue75 rfl rfl rfl rfl rfl rfl rfl rfl rfl rfl rfl rfl (fun A44 c45 L41 whs42 hs42 ho43 => ?_)
     replace hs42 := St.back [_, _, _] hs42
     refine WL.nil ⟨(St.drop (St.perm (St.drop (St.perm hs42 (L' := L41 ++ _) (perm_front (A := [_, _, _]) (List.Perm.refl _))) (List.sublist_append_right L41 _)) (L' := L17 ++ _) (perm_front (A := [_, _, _]) (List.Perm.refl _))) (List.sublist_append_right L17 _)), ?_⟩
     refine WH.all [7] (by kernel_rfl) rfl (WHs.cons (i := 7) rfl ?_ WHs.nil)
     refine WL.call rfl rfl rfl (Run.call Tryz.call252 rfl rfl rfl) (c_slices_Repeat_impl_Cell_impl_Cell _ _ _ _ _ _ (SlF.ofOwn ho43 (fun p_ hp_ => (hs42.own p_ (List.mem_append_right [_, _, _] (List.mem_append_left _ hp_))).1)) ?_ ?_) ?_
     · first | (first | assumption | rfl | omega) | (first | assumption | rfl | omega)
     · first | (first | assumption | rfl | omega) | (first | assumption | rfl | omega)
     rintro _ whs46 ⟨A47, c48, L1_49, rfl, hs46, ho50⟩
     replace hs46 := hs42.callF hs46
     refine ⟨_, rfl, ?_⟩
     replace hs46 := St.back [_, _, _] hs46
     refine WL.nil ⟨(St.drop (St.perm (St.drop (St.perm (St.drop (St.perm hs46 (L' := L1_49 ++ _) (perm_front (A := [_, _, _]) (List.Perm.refl _))) (List.sublist_append_right L1_49 _)) (L' := L41 ++ _) (perm_front (A := [_, _, _]) (List.Perm.refl _))) (List.sublist_append_right L41 _)) (L' := L17 ++ _) (perm_front (A := [_, _, _]) (List.Perm.refl _))) (List.sublist_append_right L17 _)), ?_⟩
     refine WH.all [8] (by kernel_rfl) rfl (WHs.cons (i := 8) rfl ?_ WHs.nil)
     refine WL.copyF (lo := ((top + (a : Int)) * r.W).toNat) (St.perm hs46 (L' := L17 ++ _) (perm_front (A := [_, _, _]) (perm_front (A := L1_49) (perm_front (A := L41) (List.Perm.refl _))))) ho18 (SlF.ofOwn ho50 (fun p_ hp_ => (hs46.own p_ (List.mem_append_right [_, _, _] (List.mem_append_left _ hp_))).1)) Tryz.underlying26 Tryz.underlying26 info_75 rfl rfl rfl rfl rfl rfl rfl (.inl rfl) ?_ ?_ (fun L51 _ hs52 ho53 => ?_)
     · omega
     · omega
     replace hs52 := St.back [_, _, _] hs52
     refine WL.nil ⟨(St.drop (St.perm (St.drop (St.perm (St.drop (St.perm hs52 (L' := L51 ++ _) (perm_front (A := [_, _, _]) (List.Perm.refl _))) (List.sublist_append_right L51 _)) (L' := L1_49 ++ _) (perm_front (A := [_, _, _]) (List.Perm.refl _))) (List.sublist_append_right L1_49 _)) (L' := L41 ++ _) (perm_front (A := [_, _, _]) (List.Perm.refl _))) (List.sublist_append_right L41 _)), ?_⟩
     refine WH.done (by kernel_rfl) ?_
     refine hK24 _ _ ?_
     refine WC.region ?_
     refine WL.run tbk 3 hs52 [] rfl ⟨by omega, trivial⟩ ?_
     refine WL.nil ?_
     refine tkN ?_
     replace hs52 := St.drop (St.perm hs52 (L' := L1_49 ++ _) (perm_front (A := [_, _, _]) (perm_front (A := L51) (List.Perm.refl _)))) (List.sublist_append_right L1_49 _)
     replace hs52 := St.drop (St.perm hs52 (L' := L41 ++ _) (perm_front (A := [_, _, _]) (perm_front (A := L51) (List.Perm.refl _)))) (List.sublist_append_right L41 _)
     have hF54 := (St.grp1 (L1 := L51) [_] (St.perm (St.perm (St.perm (St.perm hs52 (L' := [_] ++ _) (perm_front (A := [_, _]) (List.Perm.refl _))) (L' := [_] ++ _) (perm_front (A := [_, _]) (List.Perm.refl _))) (L' := L51 ++ _) (perm_front (A := [_, _, _]) (List.Perm.refl _))) (L' := [_] ++ _) (perm_front (A := L51) (perm_front (A := [_, _]) (List.Perm.refl _)))))
     refine ⟨⟨rfl, rfl, rfl, rfl, rfl, rfl, trivial⟩, _, hF54, _, ?_, a + 1, ⟨r.W, r.H, SlD.of ho53⟩, L51, rfl, rfl, ?_, ?_, ?_, ho53, ⟨?_, trivial⟩⟩
     · omega
     · omega
     · exact ⟨p1.1, p1.2.1, by simp only [List.length_append, List.length_take, List.length_drop]; omega⟩
     · intro k hk; show cat _ k = partF g.dat (rollF g.dat top bot n) (top.toNat * g.dat.W.toNat) ((a + 1) * g.dat.W.toNat) k; first | exact roll_row ht.1 hlo0 (by show _ = g.W.toNat; (try simp only [List.length_replicate]); omega) (by first | (simp only [List.length_take, List.length_drop]; omega) | (simp only [List.length_replicate]; omega)) (by (try simp only [List.length_replicate]); omega) (by omega) hab (fun j hj => by have _ := hin; rw [if_pos hin]; exact roll_src (by omega) (by show 0 ≤ g.W; omega) rfl hsrc hj) (p2 k hk) | exact roll_row ht.1 hlo0 (by show _ = g.W.toNat; (try simp only [List.length_replicate]); omega) (by first | (simp only [List.length_take, List.length_drop]; omega) | (simp only [List.length_replicate]; omega)) (by (try simp only [List.length_replicate]); omega) (by omega) hab (fun j hj => by rw [if_neg hout]; exact cat_rep hj) (p2 k hk)
     · (refine congrArg some (congrArg (Value.int _) ?_); omega)
  ·have qh23 := h23
   try simp only [bf, within_iff, within_not] at qh23
   refine WC.exit ?_
   refine hK14 _ _ ?_
   refine WC.sr ?_
   refine WL.run tbk 1 hs21 [0] rfl ⟨rfl, trivial⟩ ?_
   refine WL.st tbk hs21 1 rfl rfl (fun _ hs55 => ?_)
   refine WL.nil ?_
   refine WC.ret ?_
   refine retV1 rfl (resV.cellA tbk hs55 1 rfl rfl rfl rfl) ?_
   refine ⟨r, _, rfl, (St.keep1 (St.perm hs55 (L' := L17 ++ _) (perm_front (A := [_, _, _]) (List.Perm.refl _)))), ?_, ?_⟩
   · exact ho18
   · exact roll_done hg ht.1 ht.2.1 ht.2.2 (m := n) (by omega) p1.1 p1.2.1 p1.2.2 (.inl rfl) p2
end Go.Proofs.YtjmegoiclgancaaGreat
namespace Go.Proofs.YtjmegoiclgancaaGreat
open Go Go.RowKit
set_option linter.unusedVariables false
set_option linter.unusedSimpArgs false
theorem pair_ext : ∀ {l m : List Int}, l.Pairwise (· < ·) → m.Pairwise (· < ·) → (∀ x, x ∈ l ↔ x ∈ m) → l = m
  | [], [], _, _, _ => rfl
  | [], y :: m, _, _, h => by have := (h y).2 List.mem_cons_self; cases this
  | x :: l, [], _, _, h => by have := (h x).1 List.mem_cons_self; cases this
  | x :: l, y :: m, hl, hm, h => by
    rw [List.pairwise_cons] at hl hm
    have e : x = y := by
      rcases List.mem_cons.1 ((h x).1 List.mem_cons_self) with e | h1
      · exact e
      · rcases List.mem_cons.1 ((h y).2 List.mem_cons_self) with e | h2
        · exact e.symm
        · have := hl.1 y h2
          have := hm.1 x h1
          omega
    subst e
    rw [pair_ext hl.2 hm.2 fun z => ?_]
    constructor
    · intro hz
      rcases List.mem_cons.1 ((h z).1 (List.mem_cons_of_mem _ hz)) with e | h1
      · have := hl.1 z hz; omega
      · exact h1
    · intro hz
      rcases List.mem_cons.1 ((h z).2 (List.mem_cons_of_mem _ hz)) with e | h1
      · have := hm.1 z hz; omega
      · exact h1
def lowb (l : List Int) (t : Int) : Nat := (l.filter fun x => decide (x < t)).length
theorem lowb_of {l : List Int} {t : Int} {k : Nat} (hk : k ≤ l.length) (h1 : ∀ m, m < k → iat l m < t) (h2 : ∀ m, k ≤ m → m < l.length → t ≤ iat l m) : lowb l t = k := by
  unfold lowb
  rw [← List.take_append_drop k l, List.filter_append]
  have a : (l.take k).filter (fun x => decide (x < t)) = l.take k := by
    rw [List.filter_eq_self]
    intro x hx
    obtain ⟨i, hi, rfl⟩ := List.mem_iff_getElem.1 hx
    rw [List.length_take] at hi
    have := h1 i (by omega)
    rw [show iat l i = l[i]'(by omega) from gat_lt (by omega)] at this
    rw [List.getElem_take, decide_eq_true_eq]; exact this
  have b : (l.drop k).filter (fun x => decide (x < t)) = [] := by
    rw [List.filter_eq_nil_iff]
    intro x hx
    obtain ⟨i, hi, rfl⟩ := List.mem_iff_getElem.1 hx
    rw [List.length_drop] at hi
    have := h2 (k + i) (by omega) (by omega)
    rw [show iat l (k + i) = l[k + i]'(by omega) from gat_lt (by omega)] at this
    rw [List.getElem_drop, decide_eq_true_eq]; omega
  rw [a, b, List.append_nil, List.length_take]; omega
theorem lowb_le {l : List Int} {t : Int} : lowb l t ≤ l.length := List.length_filter_le _ _
theorem asc_split {l : List Int} {lo hi t : Int} (h : isAsc l lo hi = true) : (∀ m, m < lowb l t → iat l m < t) ∧ ∀ m, lowb l t ≤ m → m < l.length → t ≤ iat l m := by
  have key : ∃ k, k ≤ l.length ∧ (∀ m, m < k → iat l m < t) ∧ ∀ m, k ≤ m → m < l.length → t ≤ iat l m := by
    have : ∀ n, n ≤ l.length → ∃ k, k ≤ n ∧ (∀ m, m < k → iat l m < t) ∧ ∀ m, k ≤ m → m < n → t ≤ iat l m := by
      intro n
      induction n with
      | zero => intro _; exact ⟨0, by omega, fun m hm => by omega, fun m _ hm => by omega⟩
      | succ n ih =>
        intro hn
        obtain ⟨k, h1, h2, h3⟩ := ih (by omega)
        by_cases hx : iat l n < t
        · refine ⟨n + 1, by omega, fun m hm => ?_, fun m h4 h5 => by omega⟩
          rcases Nat.lt_or_ge m n with h6 | h6
          · have := asc_lt h h6 (by omega); omega
          · obtain rfl : m = n := by omega
            exact hx
        · refine ⟨k, by omega, h2, fun m h4 h5 => ?_⟩
          rcases Nat.lt_or_ge m n with h6 | h6
          · exact h3 m h4 h6
          · obtain rfl : m = n := by omega
            omega
    exact this _ (Nat.le_refl _)
  obtain ⟨k, h1, h2, h3⟩ := key
  rw [lowb_of h1 h2 h3]
  exact ⟨h2, h3⟩
def insL (l : List Int) (k : Nat) (x : Int) : List Int := l.take k ++ [x] ++ l.drop k
theorem mem_insL {l : List Int} {k : Nat} {x y : Int} : y ∈ insL l k x ↔ y = x ∨ y ∈ l := by
  unfold insL
  rw [List.append_assoc, List.mem_append, List.mem_append, List.mem_singleton]
  constructor
  · rintro (h | h | h)
    · exact .inr (List.mem_of_mem_take h)
    · exact .inl h
    · exact .inr (List.mem_of_mem_drop h)
  · rintro (h | h)
    · exact .inr (.inl h)
    · rw [← List.take_append_drop k l] at h
      rcases List.mem_append.1 h with h | h
      · exact .inl h
      · exact .inr (.inr h)
theorem pair_insL {l : List Int} {x : Int} {lo hi : Int} (h : isAsc l lo hi = true) (hx : x ∉ l) : (insL l (lowb l x) x).Pairwise (· < ·) := by
  have hp := (asc_pair.1 h).1
  obtain ⟨h1, h2⟩ := asc_split (t := x) h
  have hT : ∀ a, a ∈ l.take (lowb l x) → a < x := by
    intro a ha
    obtain ⟨i, hi', rfl⟩ := List.mem_iff_getElem.1 ha
    rw [List.length_take] at hi'
    have := h1 i (by omega)
    rw [show iat l i = l[i]'(by omega) from gat_lt (by omega)] at this
    rw [List.getElem_take]; exact this
  have hD : ∀ a, a ∈ l.drop (lowb l x) → x < a := by
    intro a ha
    have hm := List.mem_of_mem_drop ha
    obtain ⟨i, hi', rfl⟩ := List.mem_iff_getElem.1 ha
    rw [List.length_drop] at hi'
    have := h2 (lowb l x + i) (by omega) (by omega)
    rw [show iat l (lowb l x + i) = l[lowb l x + i]'(by omega) from gat_lt (by omega)] at this
    rw [List.getElem_drop] at hm ⊢
    have : l[lowb l x + i]'(by omega) ≠ x := fun e => hx (e ▸ hm)
    omega
  unfold insL
  rw [List.append_assoc, List.pairwise_append]
  refine ⟨hp.sublist (List.take_sublist _ _), ?_, ?_⟩
  · rw [List.singleton_append, List.pairwise_cons]
    exact ⟨hD, hp.sublist (List.drop_sublist _ _)⟩
  · intro a ha b hb
    have h3 := hT a ha
    rcases List.mem_append.1 hb with hb | hb
    · rw [List.mem_singleton] at hb; omega
    · have := hD b hb; omega
theorem mem_tabL {s : ScrD} (h : ScrFine s) {y : Int} : y ∈ tabL s ↔ y = s.X ∨ y ∈ s.Tabs := by
  have hp := h.pos
  unfold tabL
  rw [List.mem_filter, List.mem_map]
  simp only [Bool.or_eq_true, decide_eq_true_eq, List.contains_iff_mem]
  constructor
  · exact fun h1 => h1.2
  · intro h1
    refine ⟨?_, h1⟩
    have : 0 ≤ y ∧ y < s.W := by
      rcases h1 with h1 | h1
      · omega
      · have := (asc_pair.1 h.tab).2 y h1; omega
    exact ⟨y.toNat, List.mem_range.2 (by omega), by omega⟩
theorem pair_tabL {s : ScrD} : (tabL s).Pairwise (· < ·) := by
  unfold tabL
  refine List.Pairwise.sublist List.filter_sublist ?_
  rw [List.pairwise_map]
  exact List.Pairwise.imp (fun h => by omega) List.pairwise_lt_range
theorem tabL_ins {s : ScrD} (h : ScrFine s) (hx : s.X ∉ s.Tabs) : insL s.Tabs (lowb s.Tabs s.X) s.X = tabL s :=
  pair_ext (pair_insL h.tab hx) pair_tabL fun y => by rw [mem_insL, mem_tabL h]
theorem tabL_has {s : ScrD} (h : ScrFine s) (hx : s.X ∈ s.Tabs) : s.Tabs = tabL s :=
  pair_ext (asc_pair.1 h.tab).1 pair_tabL fun y => by
    rw [mem_tabL h]
    constructor
    · exact .inr
    · rintro (rfl | h1)
      · exact hx
      · exact h1
theorem ScrFine.tabD {s : ScrD} (h : ScrFine s) : ScrFine (tabD s) := by
  have hp := h.pos
  refine h.tabs (asc_pair.2 ⟨pair_tabL, fun y hy => ?_⟩)
  rcases (mem_tabL h).1 hy with h1 | h1
  · omega
  · exact (asc_pair.1 h.tab).2 y h1
theorem tabsL_asc {w : Int} (h : 1 ≤ w) : isAsc (tabsL w) 0 (w - 1) = true := by
  rw [asc_pair]
  constructor
  · unfold tabsL
    rw [List.pairwise_map]
    exact List.Pairwise.imp (fun h => by omega) List.pairwise_lt_range
  · intro x hx
    obtain ⟨i, hi, rfl⟩ := List.mem_map.1 hx
    have := List.mem_range.1 hi
    omega
theorem ScrFine.fresh {w h l : Int} (hs : isSize w h = true) (hl : 0 ≤ l ∧ l ≤ 100) : ScrFine (scrNew w h l) := by
  obtain ⟨h1, h2, _⟩ := isSize_bnd hs
  refine ⟨gridOk_new hs, gridOk_new hs, ⟨rfl, rfl, rfl, rfl⟩, ?_, ?_, fun h9 => Bool.noConfusion h9, (show attrOk 0 0 = true by decide), (show attrOk 0 0 = true by decide), ?_, ⟨hl, ?_⟩, tabsL_asc h1.1, rfl⟩
  · show (0 ≤ (0 : Int) ∧ (0 : Int) < w) ∧ 0 ≤ (0 : Int) ∧ (0 : Int) < h; omega
  · show (0 ≤ (0 : Int) ∧ (0 : Int) < w) ∧ 0 ≤ (0 : Int) ∧ (0 : Int) < h; omega
  · show (0 ≤ (0 : Int) ∧ (0 : Int) ≤ h - 1) ∧ h - 1 < h ∧ ((0 : Int) = h - 1 → h = 1); omega
  · exact hl.1
theorem ScrFine.reset {s : ScrD} (h : ScrFine s) : ScrFine (resetD s) := by
  have f := ScrFine.fresh h.size h.lim.1
  exact ⟨f.gM, f.gA, f.dim, f.pos, f.sav, f.wrp, f.aA, f.aS, f.reg, h.lim, f.tab, h.row⟩
def escD (s : ScrD) (b : Int) : ScrD :=
  if b = 68 then downD s else if b = 77 then upD s else if b = 69 then { downD s with X := 0 } else if b = 55 then saveD s else if b = 56 then backD s else if b = 72 then tabD s else if b = 99 then resetD s else s
theorem ScrFine.x0 {s : ScrD} (h : ScrFine s) (hw : s.Wrap = false) : ScrFine { s with X := 0 } := by
  have hp := h.pos
  exact ⟨h.gM, h.gA, h.dim, ⟨by constructor <;> (simp only; omega), hp.2⟩, h.sav, fun h9 => (by rw [show s.Wrap = true from h9] at hw; cases hw), h.aA, h.aS, h.reg, h.lim, h.tab, h.row⟩
theorem ScrFine.esc {s : ScrD} {b : Int} (h : ScrFine s) : ScrFine (escD s b) := by
  unfold escD
  repeat' (with_reducible refine fine_ite ?_ ?_)
  all_goals first | exact h.down | exact h.up | exact h.down.x0 rfl | exact h.save | exact h.back | exact h.tabD | exact h.reset | exact h
def scrEscRes (s : ScrD) (b : Int) : ScrD := if scrOk s = true then escD s b else scr0
theorem scr0_tot : totScr scr0 = 0 := rfl
theorem scrEscRes_tot {s : ScrD} {b : Int} : totScr (scrEscRes s b) ≤ 20220 := by
  unfold scrEscRes
  split
  · rename_i h; exact scr_tot (ScrFine.of h).esc.ok
  · rw [scr0_tot]; omega
theorem put_wrap {s : ScrD} {g : GridD} {b : Bool} : putD (wrapD s b) g = wrapD (putD s g) b := by
  unfold putD wrapD; split <;> rfl
theorem shown_wrap {s : ScrD} {b : Bool} : shownD (wrapD s b) = shownD s := rfl
theorem keep_wrap {s : ScrD} {n : Int} {b : Bool} : keepD (wrapD s b) n = wrapD (keepD s n) b := by
  by_cases h : s.OnAlt = false ∧ s.Top = 0
  · unfold keepD; rw [if_pos h, if_pos (show (wrapD s b).OnAlt = false ∧ (wrapD s b).Top = 0 from h)]; rfl
  · unfold keepD; rw [if_neg h, if_neg (show ¬ ((wrapD s b).OnAlt = false ∧ (wrapD s b).Top = 0) from h)]
theorem rollUp_wrap {s : ScrD} {n : Int} {b : Bool} : rollUpD (wrapD s b) n = wrapD (rollUpD s n) b := by
  unfold rollUpD rollD
  rw [keep_wrap, put_wrap, shown_wrap]; rfl
def scrDownRes (s : ScrD) : ScrD := if scrOk s = true then downD s else scr0
def scrUpRes (s : ScrD) : ScrD := if scrOk s = true then upD s else scr0
end Go.Proofs.YtjmegoiclgancaaGreat
namespace Go.Proofs.YtjmegoiclgancaaGreat
open Go Go.RowKit
set_option linter.unusedVariables false
set_option linter.unusedSimpArgs false
theorem c_spec_l09Shown (s : ScrR) (w : World) (f_s : okScrR 549755813888 w s) :
    Calls Tryz.prog 145 #[.agg #[i64 s.W, i64 s.H, i64 s.Main.W, i64 s.Main.H, .slice s.Main.Cells.A s.Main.Cells.n s.Main.Cells.c, i64 s.Alt.W, i64 s.Alt.H, .slice s.Alt.Cells.A s.Alt.Cells.n s.Alt.Cells.c, .bool s.OnAlt, i64 s.X, i64 s.Y, .bool s.Wrap, i64 s.A.Fg, i64 s.A.Bg, .bool s.A.Bold, .bool s.A.Under, .bool s.A.Turn, i64 s.Top, i64 s.Bot, .bool s.NoWrap, .bool s.Hide, i64 s.SaveX, i64 s.SaveY, i64 s.SaveA.Fg, i64 s.SaveA.Bg, .bool s.SaveA.Bold, .bool s.SaveA.Under, .bool s.SaveA.Turn, .slice s.Tabs.A s.Tabs.n s.Tabs.c, i64 s.Limit, .slice s.Back.A s.Back.n s.Back.c]] w fun e w' => e = .returned (.agg #[i64 (shownR s).W, i64 (shownR s).H, .slice (shownR s).Cells.A (shownR s).Cells.n (shownR s).Cells.c]) ∧ St w [] [] w' := by
 have nb_s_Main_Cells := f_s.Main.Cells_n
 have nl_s_Main_Cells := f_s.Main.Cells.len
 have nb_s_Alt_Cells := f_s.Alt.Cells_n
 have nl_s_Alt_Cells := f_s.Alt.Cells.len
 have nb_s_Tabs := f_s.Tabs_n
 have nl_s_Tabs := f_s.Tabs.len
 have nb_s_Back := f_s.Back_n
 have nl_s_Back := f_s.Back.sl.len
 refine enter (vs := [.agg #[i64 s.W, i64 s.H, i64 s.Main.W, i64 s.Main.H, .slice s.Main.Cells.A s.Main.Cells.n s.Main.Cells.c, i64 s.Alt.W, i64 s.Alt.H, .slice s.Alt.Cells.A s.Alt.Cells.n s.Alt.Cells.c, .bool s.OnAlt, i64 s.X, i64 s.Y, .bool s.Wrap, i64 s.A.Fg, i64 s.A.Bg, .bool s.A.Bold, .bool s.A.Under, .bool s.A.Turn, i64 s.Top, i64 s.Bot, .bool s.NoWrap, .bool s.Hide, i64 s.SaveX, i64 s.SaveY, i64 s.SaveA.Fg, i64 s.SaveA.Bg, .bool s.SaveA.Bold, .bool s.SaveA.Under, .bool s.SaveA.Turn, .slice s.Tabs.A s.Tabs.n s.Tabs.c, i64 s.Limit, .slice s.Back.A s.Back.n s.Back.c]]) 9 Tryz.func145 rfl Tryz.ntmps145 rfl rfl ?_
 have hs1 := St.init w
 refine WC.sr ?_
 refine WL.bx hs1 rfl (fun b2 _ hs3 => ?_)
 refine WL.al hs3 Tryz.zeroValue28 rfl rfl (fun b4 _ hs5 => ?_)
 refine WL.nil ?_
 refine WC.seq (fun K6 hK6 => ?_)
 refine WC.rr tbk hs5 [1] rfl ⟨rfl, trivial⟩ ?_
 refine WC.cond rfl (fun h7 => ?_) (fun h7 => ?_)
 ·have qh7 := h7
  try simp only [bf, within_iff, within_not] at qh7
  refine WC.sr ?_
  refine WL.run tbk 2 hs5 [1] rfl ⟨rfl, trivial⟩ ?_
  refine WL.st tbk hs5 0 rfl rfl (fun _ hs8 => ?_)
  refine WL.nil ?_
  refine WC.ret ?_
  refine tkR ?_
  clear hK6
  refine retV1 rfl (resV.cellA tbk hs8 0 rfl rfl rfl rfl) ?_
  refine ⟨congrArg Ending.returned ?_, hs8.nil⟩
  rw [shownR_alt (by have h9 := h7; simpa using h9)]
 ·have qh7 := h7
  try simp only [bf, within_iff, within_not] at qh7
  refine WC.skip ?_
  refine hK6 _ _ ?_
  refine WC.sr ?_
  refine WL.run tbk 2 hs5 [1] rfl ⟨rfl, trivial⟩ ?_
  refine WL.st tbk hs5 0 rfl rfl (fun _ hs9 => ?_)
  refine WL.nil ?_
  refine WC.ret ?_
  refine retV1 rfl (resV.cellA tbk hs9 0 rfl rfl rfl rfl) ?_
  refine ⟨congrArg Ending.returned ?_, hs9.nil⟩
  rw [shownR_main (by have h9 := h7; simpa using h9)]
theorem c_spec_l09Put (s : ScrR) (L_s : Hp) (g : GridR) (L_g : Hp) (w : World) (o_s : ownScrR s L_s) (h_s : ∀ p, p ∈ L_s → w.heap[p.1]? = some p.2) (o_g : ownGridR g L_g) (h_g : ∀ p, p ∈ L_g → w.heap[p.1]? = some p.2) (hd_ : ((L_s ++ L_g).map (·.1)).Nodup) :
    Calls Tryz.prog 143 #[.agg #[i64 s.W, i64 s.H, i64 s.Main.W, i64 s.Main.H, .slice s.Main.Cells.A s.Main.Cells.n s.Main.Cells.c, i64 s.Alt.W, i64 s.Alt.H, .slice s.Alt.Cells.A s.Alt.Cells.n s.Alt.Cells.c, .bool s.OnAlt, i64 s.X, i64 s.Y, .bool s.Wrap, i64 s.A.Fg, i64 s.A.Bg, .bool s.A.Bold, .bool s.A.Under, .bool s.A.Turn, i64 s.Top, i64 s.Bot, .bool s.NoWrap, .bool s.Hide, i64 s.SaveX, i64 s.SaveY, i64 s.SaveA.Fg, i64 s.SaveA.Bg, .bool s.SaveA.Bold, .bool s.SaveA.Under, .bool s.SaveA.Turn, .slice s.Tabs.A s.Tabs.n s.Tabs.c, i64 s.Limit, .slice s.Back.A s.Back.n s.Back.c], .agg #[i64 g.W, i64 g.H, .slice g.Cells.A g.Cells.n g.Cells.c]] w fun e w' => ∃ r L1, e = .returned (.agg #[i64 r.W, i64 r.H, i64 r.Main.W, i64 r.Main.H, .slice r.Main.Cells.A r.Main.Cells.n r.Main.Cells.c, i64 r.Alt.W, i64 r.Alt.H, .slice r.Alt.Cells.A r.Alt.Cells.n r.Alt.Cells.c, .bool r.OnAlt, i64 r.X, i64 r.Y, .bool r.Wrap, i64 r.A.Fg, i64 r.A.Bg, .bool r.A.Bold, .bool r.A.Under, .bool r.A.Turn, i64 r.Top, i64 r.Bot, .bool r.NoWrap, .bool r.Hide, i64 r.SaveX, i64 r.SaveY, i64 r.SaveA.Fg, i64 r.SaveA.Bg, .bool r.SaveA.Bold, .bool r.SaveA.Under, .bool r.SaveA.Turn, .slice r.Tabs.A r.Tabs.n r.Tabs.c, i64 r.Limit, .slice r.Back.A r.Back.n r.Back.c]) ∧ St w ((L_s ++ L_g).map (·.1)) L1 w' ∧ ownScrR r L1 ∧ r.dat = putD s.dat g.dat := by
 refine enter (vs := [.agg #[i64 s.W, i64 s.H, i64 s.Main.W, i64 s.Main.H, .slice s.Main.Cells.A s.Main.Cells.n s.Main.Cells.c, i64 s.Alt.W, i64 s.Alt.H, .slice s.Alt.Cells.A s.Alt.Cells.n s.Alt.Cells.c, .bool s.OnAlt, i64 s.X, i64 s.Y, .bool s.Wrap, i64 s.A.Fg, i64 s.A.Bg, .bool s.A.Bold, .bool s.A.Under, .bool s.A.Turn, i64 s.Top, i64 s.Bot, .bool s.NoWrap, .bool s.Hide, i64 s.SaveX, i64 s.SaveY, i64 s.SaveA.Fg, i64 s.SaveA.Bg, .bool s.SaveA.Bold, .bool s.SaveA.Under, .bool s.SaveA.Turn, .slice s.Tabs.A s.Tabs.n s.Tabs.c, i64 s.Limit, .slice s.Back.A s.Back.n s.Back.c], .agg #[i64 g.W, i64 g.H, .slice g.Cells.A g.Cells.n g.Cells.c]]) 12 Tryz.func143 rfl Tryz.ntmps143 rfl rfl ?_
 have hs1 := St.takes2 w L_s L_g h_s h_g hd_
 refine WC.sr ?_
 refine WL.bx hs1 rfl (fun b2 _ hs3 => ?_)
 refine WL.bx hs3 rfl (fun b4 _ hs5 => ?_)
 refine WL.al hs5 Tryz.zeroValue33 rfl rfl (fun b6 _ hs7 => ?_)
 refine WL.nil ?_
 refine WC.seq (fun K8 hK8 => ?_)
 refine WC.rr tbk hs7 [2] rfl ⟨rfl, trivial⟩ ?_
 refine WC.cond rfl (fun h9 => ?_) (fun h9 => ?_)
 ·have qh9 := h9
  try simp only [bf, within_iff, within_not] at qh9
  refine WC.region ?_
  refine WL.run tbk 2 hs7 [1] rfl ⟨rfl, trivial⟩ ?_
  refine WL.st tbk hs7 2 rfl rfl (fun _ hs10 => ?_)
  refine WL.nil ?_
  refine hK8 _ _ ?_
  refine WC.sr ?_
  refine WL.run tbk 1 hs10 [2] rfl ⟨rfl, trivial⟩ ?_
  refine WL.st tbk hs10 0 rfl rfl (fun _ hs11 => ?_)
  refine WL.nil ?_
  refine WC.ret ?_
  refine retV1 rfl (resV.cellA tbk hs11 0 rfl rfl rfl rfl) ?_
  obtain ⟨L12, L13, L14, L15, hs20, ho16, ho17, ho18, ho19⟩ := ownScrR.open_ (St.perm hs11 (L' := L_s ++ _) (perm_front (A := [_, _, _]) (List.Perm.refl _))) o_s
  have hs21 := (St.perm (St.perm (St.perm hs20 (L' := [_] ++ _) (perm_front (A := L12) (perm_front (A := L13) (perm_front (A := L14) (perm_front (A := L15) (perm_front (A := [_, _]) (List.Perm.refl _))))))) (L' := [_] ++ _) (perm_front (A := [_]) (perm_front (A := L12) (perm_front (A := L13) (perm_front (A := L14) (perm_front (A := L15) (perm_front (A := [_]) (List.Perm.refl _)))))))) (L' := [_] ++ _) (perm_front (A := [_, _]) (perm_front (A := L12) (perm_front (A := L13) (perm_front (A := L14) (perm_front (A := L15) (List.Perm.refl _)))))))
  obtain ⟨L23, hs22, ho24⟩ := ownScrR.fold ⟨0, 0, ⟨0, 0, ⟨_, _, _, _⟩⟩, ⟨0, 0, ⟨_, _, _, _⟩⟩, false, 0, 0, false, ⟨0, 0, false, false, false⟩, 0, 0, false, false, 0, 0, ⟨0, 0, false, false, false⟩, ⟨_, _, _, _⟩, 0, ⟨_, _, _, _⟩⟩ (St.perm (St.perm (St.perm (St.perm hs21 (L' := L15 ++ _) (perm_front (A := [_, _, _]) (perm_front (A := L12) (perm_front (A := L13) (perm_front (A := L14) (List.Perm.refl _)))))) (L' := L14 ++ _) (perm_front (A := L15) (perm_front (A := [_, _, _]) (perm_front (A := L12) (perm_front (A := L13) (List.Perm.refl _)))))) (L' := L_g ++ _) (perm_front (A := L14) (perm_front (A := L15) (perm_front (A := [_, _, _]) (perm_front (A := L12) (perm_front (A := L13) (List.Perm.refl _))))))) (L' := L12 ++ _) (perm_front (A := L_g) (perm_front (A := L14) (perm_front (A := L15) (perm_front (A := [_, _, _]) (List.Perm.refl _)))))) ho16 o_g ho18 ho19
  have hs25 := (St.perm (St.perm (St.perm hs22 (L' := [_] ++ _) (perm_front (A := L23) (perm_front (A := [_, _]) (List.Perm.refl _)))) (L' := [_] ++ _) (perm_front (A := [_]) (perm_front (A := L23) (perm_front (A := [_]) (List.Perm.refl _))))) (L' := [_] ++ _) (perm_front (A := [_, _]) (perm_front (A := L23) (List.Perm.refl _))))
  refine ⟨⟨s.W, s.H, ⟨s.Main.W, s.Main.H, SlD.of ho16⟩, ⟨g.W, g.H, SlD.of o_g⟩, s.OnAlt, s.X, s.Y, s.Wrap, ⟨s.A.Fg, s.A.Bg, s.A.Bold, s.A.Under, s.A.Turn⟩, s.Top, s.Bot, s.NoWrap, s.Hide, s.SaveX, s.SaveY, ⟨s.SaveA.Fg, s.SaveA.Bg, s.SaveA.Bold, s.SaveA.Under, s.SaveA.Turn⟩, SlD.of ho18, s.Limit, SlD.ofN ho19⟩, _, rfl, (St.keep1 (St.perm hs25 (L' := L23 ++ _) (perm_front (A := [_, _, _]) (List.Perm.refl _)))), ?_, ?_⟩
  · exact (by exact ho24)
  · rw [putD, if_pos (show s.dat.OnAlt = true from by show s.OnAlt = true; have h9 := h9; simpa using h9)]; rfl
 ·have qh9 := h9
  try simp only [bf, within_iff, within_not] at qh9
  refine WC.region ?_
  refine WL.run tbk 2 hs7 [1] rfl ⟨rfl, trivial⟩ ?_
  refine WL.st tbk hs7 2 rfl rfl (fun _ hs26 => ?_)
  refine WL.nil ?_
  refine hK8 _ _ ?_
  refine WC.sr ?_
  refine WL.run tbk 1 hs26 [2] rfl ⟨rfl, trivial⟩ ?_
  refine WL.st tbk hs26 0 rfl rfl (fun _ hs27 => ?_)
  refine WL.nil ?_
  refine WC.ret ?_
  refine retV1 rfl (resV.cellA tbk hs27 0 rfl rfl rfl rfl) ?_
  obtain ⟨L28, L29, L30, L31, hs36, ho32, ho33, ho34, ho35⟩ := ownScrR.open_ (St.perm hs27 (L' := L_s ++ _) (perm_front (A := [_, _, _]) (List.Perm.refl _))) o_s
  have hs37 := (St.perm (St.perm (St.perm hs36 (L' := [_] ++ _) (perm_front (A := L28) (perm_front (A := L29) (perm_front (A := L30) (perm_front (A := L31) (perm_front (A := [_, _]) (List.Perm.refl _))))))) (L' := [_] ++ _) (perm_front (A := [_]) (perm_front (A := L28) (perm_front (A := L29) (perm_front (A := L30) (perm_front (A := L31) (perm_front (A := [_]) (List.Perm.refl _)))))))) (L' := [_] ++ _) (perm_front (A := [_, _]) (perm_front (A := L28) (perm_front (A := L29) (perm_front (A := L30) (perm_front (A := L31) (List.Perm.refl _)))))))
  obtain ⟨L39, hs38, ho40⟩ := ownScrR.fold ⟨0, 0, ⟨0, 0, ⟨_, _, _, _⟩⟩, ⟨0, 0, ⟨_, _, _, _⟩⟩, false, 0, 0, false, ⟨0, 0, false, false, false⟩, 0, 0, false, false, 0, 0, ⟨0, 0, false, false, false⟩, ⟨_, _, _, _⟩, 0, ⟨_, _, _, _⟩⟩ (St.perm (St.perm (St.perm (St.perm hs37 (L' := L31 ++ _) (perm_front (A := [_, _, _]) (perm_front (A := L28) (perm_front (A := L29) (perm_front (A := L30) (List.Perm.refl _)))))) (L' := L30 ++ _) (perm_front (A := L31) (perm_front (A := [_, _, _]) (perm_front (A := L28) (perm_front (A := L29) (List.Perm.refl _)))))) (L' := L29 ++ _) (perm_front (A := L30) (perm_front (A := L31) (perm_front (A := [_, _, _]) (perm_front (A := L28) (List.Perm.refl _)))))) (L' := L_g ++ _) (perm_front (A := L29) (perm_front (A := L30) (perm_front (A := L31) (perm_front (A := [_, _, _]) (perm_front (A := L28) (List.Perm.refl _))))))) o_g ho33 ho34 ho35
  have hs41 := (St.perm (St.perm (St.perm hs38 (L' := [_] ++ _) (perm_front (A := L39) (perm_front (A := [_, _]) (List.Perm.refl _)))) (L' := [_] ++ _) (perm_front (A := [_]) (perm_front (A := L39) (perm_front (A := [_]) (List.Perm.refl _))))) (L' := [_] ++ _) (perm_front (A := [_, _]) (perm_front (A := L39) (List.Perm.refl _))))
  refine ⟨⟨s.W, s.H, ⟨g.W, g.H, SlD.of o_g⟩, ⟨s.Alt.W, s.Alt.H, SlD.of ho33⟩, s.OnAlt, s.X, s.Y, s.Wrap, ⟨s.A.Fg, s.A.Bg, s.A.Bold, s.A.Under, s.A.Turn⟩, s.Top, s.Bot, s.NoWrap, s.Hide, s.SaveX, s.SaveY, ⟨s.SaveA.Fg, s.SaveA.Bg, s.SaveA.Bold, s.SaveA.Under, s.SaveA.Turn⟩, SlD.of ho34, s.Limit, SlD.ofN ho35⟩, _, rfl, (St.keep1 (St.perm hs41 (L' := L39 ++ _) (perm_front (A := [_, _, _]) (List.Perm.refl _)))), ?_, ?_⟩
  · exact (by exact ho40)
  · rw [putD, if_neg (show ¬ s.dat.OnAlt = true from by show ¬ s.OnAlt = true; have h9 := h9; simpa using h9)]; rfl
theorem c_impl_Scr_shown_main (b_s : Nat) (s : ScrR) (L_s : Hp) (w : World) (hb_s : w.heap[b_s]? = some (Obj.cells (List.toArray [i64 s.W, i64 s.H, i64 s.Main.W, i64 s.Main.H, .slice s.Main.Cells.A s.Main.Cells.n s.Main.Cells.c, i64 s.Alt.W, i64 s.Alt.H, .slice s.Alt.Cells.A s.Alt.Cells.n s.Alt.Cells.c, .bool s.OnAlt, i64 s.X, i64 s.Y, .bool s.Wrap, i64 s.A.Fg, i64 s.A.Bg, .bool s.A.Bold, .bool s.A.Under, .bool s.A.Turn, i64 s.Top, i64 s.Bot, .bool s.NoWrap, .bool s.Hide, i64 s.SaveX, i64 s.SaveY, i64 s.SaveA.Fg, i64 s.SaveA.Bg, .bool s.SaveA.Bold, .bool s.SaveA.Under, .bool s.SaveA.Turn, .slice s.Tabs.A s.Tabs.n s.Tabs.c, i64 s.Limit, .slice s.Back.A s.Back.n s.Back.c]) 33 (0, 0))) (o_s : ownScrR s L_s) (h_s : ∀ p, p ∈ L_s → w.heap[p.1]? = some p.2) (hd_ : (b_s :: L_s.map (·.1)).Nodup) (hx : s.OnAlt = false) :
    Calls Tryz.prog 223 #[.pointer (some ⟨b_s, 0, none⟩)] w fun e w' => ∃ r L1, e = .returned (.pointer (some ⟨b_s, 2, none⟩)) ∧ St w (b_s :: L_s.map (·.1)) ([(b_s, Obj.cells (List.toArray [i64 r.W, i64 r.H, i64 r.Main.W, i64 r.Main.H, .slice r.Main.Cells.A r.Main.Cells.n r.Main.Cells.c, i64 r.Alt.W, i64 r.Alt.H, .slice r.Alt.Cells.A r.Alt.Cells.n r.Alt.Cells.c, .bool r.OnAlt, i64 r.X, i64 r.Y, .bool r.Wrap, i64 r.A.Fg, i64 r.A.Bg, .bool r.A.Bold, .bool r.A.Under, .bool r.A.Turn, i64 r.Top, i64 r.Bot, .bool r.NoWrap, .bool r.Hide, i64 r.SaveX, i64 r.SaveY, i64 r.SaveA.Fg, i64 r.SaveA.Bg, .bool r.SaveA.Bold, .bool r.SaveA.Under, .bool r.SaveA.Turn, .slice r.Tabs.A r.Tabs.n r.Tabs.c, i64 r.Limit, .slice r.Back.A r.Back.n r.Back.c]) 33 (0, 0))] ++ L1) w' ∧ ownScrR r L1 ∧ r.dat = s.dat := by
 refine enter (vs := [.pointer (some ⟨b_s, 0, none⟩)]) 13 Tryz.func223 rfl Tryz.ntmps223 rfl rfl ?_
 have hs1 := St.takeP w b_s _ L_s hb_s h_s hd_
 refine WC.rr tbk hs1 [] rfl trivial ?_
 refine WC.seq (fun K2 hK2 => ?_)
 refine WC.sr ?_
 refine WL.run tbk 1 hs1 [] rfl trivial ?_
 refine WL.val rfl rfl rfl (Run.nilCheck rfl rfl) ?_
 refine WL.run tbk 2 hs1 [0] rfl ⟨rfl, trivial⟩ ?_
 refine WL.nil ?_
 refine WC.cond rfl (fun h3 => ?_) (fun h3 => ?_)
 ·have qh3 := h3
  try simp only [bf, within_iff, within_not] at qh3
  exfalso; have h9 := h3; rw [hx] at h9; revert h9; decide
 ·have qh3 := h3
  try simp only [bf, within_iff, within_not] at qh3
  refine WC.skip ?_
  refine hK2 _ _ ?_
  refine WC.sr ?_
  refine WL.run tbk 1 hs1 [] rfl trivial ?_
  refine WL.val rfl rfl rfl (Run.nilCheck rfl rfl) ?_
  refine WL.run tbk 2 hs1 [] rfl trivial ?_
  refine WL.nil ?_
  refine WC.ret ?_
  refine retV1 rfl (resV.tmp rfl) ?_
  refine ⟨s, _, rfl, St.keepP (L1 := L_s) (St.perm (St.perm hs1 (L' := L_s ++ _) (perm_front (A := [_]) (List.Perm.refl _))) (L' := [_] ++ _) (perm_front (A := L_s) (List.Perm.refl _))), o_s, ?_⟩
  · rfl
theorem c_impl_Scr_shown_alt (b_s : Nat) (s : ScrR) (L_s : Hp) (w : World) (hb_s : w.heap[b_s]? = some (Obj.cells (List.toArray [i64 s.W, i64 s.H, i64 s.Main.W, i64 s.Main.H, .slice s.Main.Cells.A s.Main.Cells.n s.Main.Cells.c, i64 s.Alt.W, i64 s.Alt.H, .slice s.Alt.Cells.A s.Alt.Cells.n s.Alt.Cells.c, .bool s.OnAlt, i64 s.X, i64 s.Y, .bool s.Wrap, i64 s.A.Fg, i64 s.A.Bg, .bool s.A.Bold, .bool s.A.Under, .bool s.A.Turn, i64 s.Top, i64 s.Bot, .bool s.NoWrap, .bool s.Hide, i64 s.SaveX, i64 s.SaveY, i64 s.SaveA.Fg, i64 s.SaveA.Bg, .bool s.SaveA.Bold, .bool s.SaveA.Under, .bool s.SaveA.Turn, .slice s.Tabs.A s.Tabs.n s.Tabs.c, i64 s.Limit, .slice s.Back.A s.Back.n s.Back.c]) 33 (0, 0))) (o_s : ownScrR s L_s) (h_s : ∀ p, p ∈ L_s → w.heap[p.1]? = some p.2) (hd_ : (b_s :: L_s.map (·.1)).Nodup) (hx : s.OnAlt = true) :
    Calls Tryz.prog 223 #[.pointer (some ⟨b_s, 0, none⟩)] w fun e w' => ∃ r L1, e = .returned (.pointer (some ⟨b_s, 5, none⟩)) ∧ St w (b_s :: L_s.map (·.1)) ([(b_s, Obj.cells (List.toArray [i64 r.W, i64 r.H, i64 r.Main.W, i64 r.Main.H, .slice r.Main.Cells.A r.Main.Cells.n r.Main.Cells.c, i64 r.Alt.W, i64 r.Alt.H, .slice r.Alt.Cells.A r.Alt.Cells.n r.Alt.Cells.c, .bool r.OnAlt, i64 r.X, i64 r.Y, .bool r.Wrap, i64 r.A.Fg, i64 r.A.Bg, .bool r.A.Bold, .bool r.A.Under, .bool r.A.Turn, i64 r.Top, i64 r.Bot, .bool r.NoWrap, .bool r.Hide, i64 r.SaveX, i64 r.SaveY, i64 r.SaveA.Fg, i64 r.SaveA.Bg, .bool r.SaveA.Bold, .bool r.SaveA.Under, .bool r.SaveA.Turn, .slice r.Tabs.A r.Tabs.n r.Tabs.c, i64 r.Limit, .slice r.Back.A r.Back.n r.Back.c]) 33 (0, 0))] ++ L1) w' ∧ ownScrR r L1 ∧ r.dat = s.dat := by
 refine enter (vs := [.pointer (some ⟨b_s, 0, none⟩)]) 13 Tryz.func223 rfl Tryz.ntmps223 rfl rfl ?_
 have hs1 := St.takeP w b_s _ L_s hb_s h_s hd_
 refine WC.rr tbk hs1 [] rfl trivial ?_
 refine WC.seq (fun K2 hK2 => ?_)
 refine WC.sr ?_
 refine WL.run tbk 1 hs1 [] rfl trivial ?_
 refine WL.val rfl rfl rfl (Run.nilCheck rfl rfl) ?_
 refine WL.run tbk 2 hs1 [0] rfl ⟨rfl, trivial⟩ ?_
 refine WL.nil ?_
 refine WC.cond rfl (fun h3 => ?_) (fun h3 => ?_)
 ·have qh3 := h3
  try simp only [bf, within_iff, within_not] at qh3
  refine WC.sr ?_
  refine WL.run tbk 1 hs1 [] rfl trivial ?_
  refine WL.val rfl rfl rfl (Run.nilCheck rfl rfl) ?_
  refine WL.run tbk 2 hs1 [] rfl trivial ?_
  refine WL.nil ?_
  refine WC.ret ?_
  refine tkR ?_
  clear hK2
  refine retV1 rfl (resV.tmp rfl) ?_
  refine ⟨s, _, rfl, St.keepP (L1 := L_s) (St.perm (St.perm hs1 (L' := L_s ++ _) (perm_front (A := [_]) (List.Perm.refl _))) (L' := [_] ++ _) (perm_front (A := L_s) (List.Perm.refl _))), o_s, ?_⟩
  · rfl
 ·have qh3 := h3
  try simp only [bf, within_iff, within_not] at qh3
  exfalso; have h9 := h3; rw [hx] at h9; revert h9; decide
end Go.Proofs.YtjmegoiclgancaaGreat
namespace Go.Proofs.YtjmegoiclgancaaGreat
open Go Go.RowKit
set_option linter.unusedVariables false
set_option linter.unusedSimpArgs false
theorem c_slices_Delete_impl_Row_impl_Row (v_s : Value) (s : List RowR) (L_s : Hp) (i : Int) (j : Int) (w : World) (o_s : OwnN encRowR ownRowR 98 v_s s L_s) (h_s : ∀ p, p ∈ L_s → w.heap[p.1]? = some p.2) (hd_ : ((L_s).map (·.1)).Nodup) (hi : i = 0) (hj : 0 < j ∧ j ≤ s.length) (hn : s.length ≤ 549755813888) :
    Calls Tryz.prog 260 #[v_s, i64 i, i64 j] w fun e w' => ∃ A c n xs L1, e = .returned (.slice A n c) ∧ St w (L_s.map (·.1)) L1 w' ∧ OwnN encRowR ownRowR 98 (.slice A n c) xs L1 ∧ xs = s.drop j.toNat := by
 obtain ⟨A_s, c_s, rfl⟩ := o_s.shape
 refine enter (vs := [.slice A_s s.length c_s, i64 i, i64 j]) 33 Tryz.func260 rfl Tryz.ntmps260 rfl rfl ?_
 have hs1 := St.takes1 w L_s h_s hd_
 refine WC.rr tbk hs1 [] rfl trivial ?_
 refine WC.sr ?_
 refine WL.run tbk 5 hs1 [] rfl trivial ?_
 have hc_ := OwnN.cap o_s
 refine WL.val rfl rfl rfl (Run.slice3 0 j.toNat s.length Tryz.runUnderlying31 Tryz.sizeOf98 rfl rfl rfl rfl rfl ?_ ?_ ?_ ?_) ?_
 · omega
 · omega
 · rfl
 · omega
 refine WL.nil ?_
 refine WC.seq (fun K2 hK2 => ?_)
 refine WC.rr tbk hs1 [] rfl trivial ?_
 refine WC.cond rfl (fun h3 => ?_) (fun h3 => ?_)
 ·have qh3 := h3
  try simp only [bf, within_iff, within_not] at qh3
  exfalso; omega
 ·have qh3 := h3
  try simp only [bf, within_iff, within_not] at qh3
  refine WC.skip ?_
  refine hK2 _ _ ?_
  refine WC.sr ?_
  obtain ⟨L4, L5, hs8, ho6, ho7⟩ := OwnN.open_ hs1 o_s
  refine WL.run tbk 3 hs8 [] rfl trivial ?_
  refine WL.nil ?_
  refine WC.seq (fun K9 hK9 => ?_)
  refine WC.regionH2 (fun w' => St _ _ _ w') (fun w' => St _ _ _ w') mixed (St.drew (St.drop hs8 (List.sublist_append_right L4 _))) (St.drew hs8) (fun whs10 hs10 => ?_)
  replace hs10 : St _ _ _ _ := hs10
  refine WH.take 0 rfl (by kernel_rfl) rfl rfl rfl (St.drop hs10 (List.sublist_append_right L4 _)) (fun w_ hs_ => (Run.move rfl rfl)) ?_
  refine WH.take 1 rfl (by kernel_rfl) rfl rfl rfl (St.drop hs10 (List.sublist_append_right L4 _)) (fun w_ hs_ => (Run.move rfl rfl)) ?_
  refine WH.take 2 rfl (by kernel_rfl) rfl rfl rfl (St.drop hs10 (List.sublist_append_right L4 _)) (fun w_ hs_ => (Run.sliceH0 0 Tryz.runUnderlying31 Tryz.sizeOf98 rfl rfl rfl ?_ ?_)) ?_
  · exact hi
  · exact Nat.zero_le _
  refine WH.take 3 rfl (by kernel_rfl) rfl rfl rfl (St.drop hs10 (List.sublist_append_right L4 _)) (fun w_ hs_ => (Run.move rfl rfl)) ?_
  refine WH.take 4 rfl (by kernel_rfl) rfl rfl rfl (St.drop hs10 (List.sublist_append_right L4 _)) (fun w_ hs_ => (Run.move rfl rfl)) ?_
  have hc_ := OwnF.cap ho6
  refine WH.take 5 rfl (by kernel_rfl) rfl rfl rfl (St.drop hs10 (List.sublist_append_right L4 _)) (fun w_ hs_ => (Run.sliceL (j.toNat) Tryz.runUnderlying31 Tryz.sizeOf98 rfl rfl rfl ?_ ?_)) ?_
  · first | rfl | (omega)
  · refine ⟨?_, ?_, ?_⟩ <;> (omega)
  refine WH.all [6] (by kernel_rfl) rfl (WHs.cons (i := 6) rfl ?_ WHs.nil)
  refine WL.appendR hs10 (OwnF.take (k := 0) ho6 (Nat.zero_le _)) (SlF.src (SlF.cutL (j.toNat) (SlF.ofOwn ho6 (fun p_ hp_ => (hs10.own p_ (List.mem_append_left _ hp_)).1)) (by refine ⟨?_, ?_, ?_⟩ <;> (omega))) Tryz.underlying31) Tryz.underlying31 info_98 rfl rfl rfl rfl rfl rfl rfl ?_ ?_ (fun L11 whs12 hs12 ho13 => ?_)
  · rw [List.length_drop]; omega
  · omega
  have hdl : 0 + (s.drop j.toNat).length = s.length - j.toNat := by rw [List.length_drop]; omega
  rw [hdl, List.take_zero, List.nil_append] at ho13
  rw [hdl]
  refine WL.nil ⟨(St.drop hs12 (List.sublist_append_right L11 _)), ?_⟩
  refine WH.take 7 rfl (by kernel_rfl) rfl rfl rfl (St.drop hs12 (List.sublist_append_right L11 _)) (fun w_ hs_ => (Run.assign rfl rfl)) ?_
  refine WH.done (by kernel_rfl) ?_
  refine hK9 _ _ ?_
  refine WC.sr ?_
  refine WL.run tbk 4 hs12 [] rfl trivial ?_
  refine WL.val rfl rfl rfl (Run.sliceT (s.length - j.toNat) s.length Tryz.runUnderlying31 Tryz.sizeOf98 rfl rfl rfl rfl ?_ ?_ ?_) ?_
  · omega
  · omega
  · omega
  refine WL.clearT hs12 ho13 Tryz.underlying31 Tryz.zeroValue98 rfl rfl rfl rfl rfl ?_ (fun L14 whs15 hs15 ho16 => ?_)
  · omega
  refine WL.nil ?_
  refine WC.rr tbk hs15 [] rfl trivial ?_
  refine WC.ret ?_
  refine retV1 rfl (resV.tmp rfl) ?_
  obtain ⟨L17, hs18, ho19⟩ := OwnN.foldD (St.perm (St.perm hs15 (L' := L5 ++ _) (perm_front (A := L14) (List.Perm.refl _))) (L' := L14 ++ _) (perm_front (A := L5) (List.Perm.refl _))) ho16 ho7
  exact ⟨_, _, _, _, _, rfl, St.keep1 hs18, ho19, rfl⟩
end Go.Proofs.YtjmegoiclgancaaGreat
namespace Go.Proofs.YtjmegoiclgancaaGreat
open Go Go.RowKit
set_option linter.unusedVariables false
set_option linter.unusedSimpArgs false
theorem c_impl_Scr_keep (b_s : Nat) (s : ScrR) (L_s : Hp) (n : Nat) (w : World) (hb_s : w.heap[b_s]? = some (Obj.cells (List.toArray [i64 s.W, i64 s.H, i64 s.Main.W, i64 s.Main.H, .slice s.Main.Cells.A s.Main.Cells.n s.Main.Cells.c, i64 s.Alt.W, i64 s.Alt.H, .slice s.Alt.Cells.A s.Alt.Cells.n s.Alt.Cells.c, .bool s.OnAlt, i64 s.X, i64 s.Y, .bool s.Wrap, i64 s.A.Fg, i64 s.A.Bg, .bool s.A.Bold, .bool s.A.Under, .bool s.A.Turn, i64 s.Top, i64 s.Bot, .bool s.NoWrap, .bool s.Hide, i64 s.SaveX, i64 s.SaveY, i64 s.SaveA.Fg, i64 s.SaveA.Bg, .bool s.SaveA.Bold, .bool s.SaveA.Under, .bool s.SaveA.Turn, .slice s.Tabs.A s.Tabs.n s.Tabs.c, i64 s.Limit, .slice s.Back.A s.Back.n s.Back.c]) 33 (0, 0))) (o_s : ownScrR s L_s) (h_s : ∀ p, p ∈ L_s → w.heap[p.1]? = some p.2) (hd_ : (b_s :: L_s.map (·.1)).Nodup) (hm : gridOk s.Main.dat = true) (hlim : 0 ≤ s.Limit ∧ s.Limit ≤ 1048576) (hb : (s.Back.xs.length : Int) ≤ s.Limit) (hn : (n : Int) ≤ s.Main.H) (hsm : smScr 1048576 s.dat) :
    Calls Tryz.prog 248 #[.pointer (some ⟨b_s, 0, none⟩), .int .i64 n] w fun e w' => ∃ r L1, e = .returned (.tuple #[]) ∧ St w (b_s :: L_s.map (·.1)) ([(b_s, Obj.cells (List.toArray [i64 r.W, i64 r.H, i64 r.Main.W, i64 r.Main.H, .slice r.Main.Cells.A r.Main.Cells.n r.Main.Cells.c, i64 r.Alt.W, i64 r.Alt.H, .slice r.Alt.Cells.A r.Alt.Cells.n r.Alt.Cells.c, .bool r.OnAlt, i64 r.X, i64 r.Y, .bool r.Wrap, i64 r.A.Fg, i64 r.A.Bg, .bool r.A.Bold, .bool r.A.Under, .bool r.A.Turn, i64 r.Top, i64 r.Bot, .bool r.NoWrap, .bool r.Hide, i64 r.SaveX, i64 r.SaveY, i64 r.SaveA.Fg, i64 r.SaveA.Bg, .bool r.SaveA.Bold, .bool r.SaveA.Under, .bool r.SaveA.Turn, .slice r.Tabs.A r.Tabs.n r.Tabs.c, i64 r.Limit, .slice r.Back.A r.Back.n r.Back.c]) 33 (0, 0))] ++ L1) w' ∧ ownScrR r L1 ∧ r.dat = keepRows s.dat n := by
 have hsmB : smScr 549755813888 s.dat := smScr_mono hsm (by decide)
 have hgb : (1 ≤ s.Main.W ∧ s.Main.W ≤ 120) ∧ (1 ≤ s.Main.H ∧ s.Main.H ≤ 120) ∧ 1 ≤ s.Main.W * s.Main.H ∧ s.Main.W * s.Main.H ≤ 4000 := gridOk_bnd hm
 have hgl : (s.Main.Cells.xs.length : Int) = s.Main.W * s.Main.H := by have h_ := hm; unfold gridOk at h_; rw [Bool.and_eq_true, Bool.and_eq_true, decide_eq_true_eq] at h_; exact h_.1.2
 refine enter (vs := [.pointer (some ⟨b_s, 0, none⟩), .int .i64 n]) 49 Tryz.func248 rfl Tryz.ntmps248 rfl rfl ?_
 have hs1 := St.takeP w b_s _ L_s hb_s h_s hd_
 refine WC.seq (fun K2 hK2 => ?_)
 refine WC.rr tbk hs1 [] rfl trivial ?_
 refine WC.block ?_
 have hM7 := (St.grp1 (L1 := L_s) [_] (St.perm (St.perm hs1 (L' := L_s ++ _) (perm_front (A := [_]) (List.Perm.refl _))) (L' := [_] ++ _) (perm_front (A := L_s) (List.Perm.refl _))))
 refine WC.loopV (α := Hp) [(0, _), (6, _)] ⟨rfl, rfl, trivial⟩ (fun a_ => a_) _ hM7 (fun k_ (a_ : Hp) f => ∃ (i : Nat) (r : ScrR) (L5 : Hp), k_ = n - i ∧ a_ = [(b_s, .cells (List.toArray [i64 r.W, i64 r.H, i64 r.Main.W, i64 r.Main.H, .slice r.Main.Cells.A r.Main.Cells.n r.Main.Cells.c, i64 r.Alt.W, i64 r.Alt.H, .slice r.Alt.Cells.A r.Alt.Cells.n r.Alt.Cells.c, .bool r.OnAlt, i64 r.X, i64 r.Y, .bool r.Wrap, i64 r.A.Fg, i64 r.A.Bg, .bool r.A.Bold, .bool r.A.Under, .bool r.A.Turn, i64 r.Top, i64 r.Bot, .bool r.NoWrap, .bool r.Hide, i64 r.SaveX, i64 r.SaveY, i64 r.SaveA.Fg, i64 r.SaveA.Bg, .bool r.SaveA.Bold, .bool r.SaveA.Under, .bool r.SaveA.Turn, .slice r.Tabs.A r.Tabs.n r.Tabs.c, i64 r.Limit, .slice r.Back.A r.Back.n r.Back.c]) 33 (0, 0))] ++ L5 ∧ (i ≤ n) ∧ (r.dat = keepTo s.dat i) ∧ ownScrR r L5 ∧ Sub [(7, .int .i64 i)] f) (((fun (i : Nat) => n - i) (0))) ?_ ?_
 ·refine ⟨0, s, L_s, rfl, rfl, ?_, ?_, o_s, ⟨rfl, trivial⟩⟩
  · omega
  · exact keepTo_zero.symm
 ·rintro _ _ f w ⟨i, r, L5, rfl, rfl, p0, p1, ho6, hG⟩ hF hs8
  refine WC.sub _ (hG.app hF) ?_
  clear hG hF
  replace hs8 := St.ungrp1 [_] hs8
  have hsmr : smScr 549755813888 r.dat := by rw [p1]; exact keepTo_sm (smScr_mono hsm (by decide)) hm (by simp only [ScrR.dat, List.length_map]; omega) (by decide)
  have hrb : r.Back.xs.length = s.Back.xs.length + i := by have h9 := congrArg (fun d : ScrD => d.Back.length) p1; simpa [ScrR.dat, keepTo] using h9
  have hrm : r.Main.dat = s.Main.dat := congrArg ScrD.Main p1
  have hrW : r.Main.W = s.Main.W := congrArg GridD.W hrm
  have hrC : r.Main.Cells.xs = s.Main.Cells.xs := congrArg GridD.Cells hrm
  have hrL : r.Limit = s.Limit := congrArg ScrD.Limit p1
  obtain ⟨⟨hrn1, hrn2⟩, _, _, hrn3, hrn4⟩ := ownScrR.lens ‹ownScrR r _›
  refine WC.rr tbk hs8 [] rfl trivial ?_
  refine WC.seq (fun K9 hK9 => ?_)
  refine WC.cD rfl (fun qh10 => ?_) (fun qh10 => ?_)
  ·have hv0 : 0 ≤ (i : Int) * r.Main.W := Int.mul_nonneg (by omega) (by omega)
   have hv1 : ((i : Int) + 1) * r.Main.W = (i : Int) * r.Main.W + r.Main.W := by rw [Int.add_mul, Int.one_mul]
   have hv2 : ((i : Int) + 1) * r.Main.W ≤ s.Main.H * s.Main.W := by rw [hrW]; exact Int.mul_le_mul_of_nonneg_right (by omega) (by omega)
   rw [Int.mul_comm s.Main.H] at hv2
   have hrl : r.Main.Cells.xs.length = s.Main.Cells.xs.length := congrArg List.length hrC
   have hrow : (RowD.mk ((r.Main.Cells.xs.drop ((i : Int) * r.Main.W).toNat).take ((((i : Int) + 1) * r.Main.W).toNat - ((i : Int) * r.Main.W).toNat))) = rowAt s.dat.Main i := by
     have e1 : ((i : Int) * r.Main.W).toNat = i * s.Main.W.toNat := by rw [hrW]; exact toNat_mul_nat (by omega)
     have e2 : (((i : Int) + 1) * r.Main.W).toNat - i * s.Main.W.toNat = s.Main.W.toNat := by rw [← e1]; omega
     rw [e1, e2, hrC]; rfl
   refine WC.skip ?_
   refine hK9 _ _ ?_
   refine WC.seq (fun K11 hK11 => ?_)
   refine WC.block ?_
   refine WC.rr tbk hs8 [] rfl trivial ?_
   refine WC.regionG 17 (fun w' => St _ _ _ w') (fun w' => St _ _ _ w') (fun w' => St _ _ _ w') mixed (St.drew (St.drop (St.drop hs8 (List.sublist_append_right [_] _)) (List.sublist_append_right L5 _))) (St.drew (St.drop (St.perm hs8 (L' := L5 ++ _) (perm_front (A := [_]) (List.Perm.refl _))) (List.sublist_append_right L5 _))) (St.drew hs8) (fun whs12 hs12 => ?_)
   replace hs12 : St _ _ _ _ := hs12
   refine WG.take 0 rfl (by kernel_rfl) (by kernel_rfl) rfl rfl rfl (St.drop (St.perm hs12 (L' := L5 ++ _) (perm_front (A := [_]) (List.Perm.refl _))) (List.sublist_append_right L5 _)) (fun w_ hs_ => (Run.move rfl rfl)) ?_
   refine WG.take 1 rfl (by kernel_rfl) (by kernel_rfl) rfl rfl rfl (St.drop (St.perm hs12 (L' := L5 ++ _) (perm_front (A := [_]) (List.Perm.refl _))) (List.sublist_append_right L5 _)) (fun w_ hs_ => (Run.move rfl rfl)) ?_
   refine WG.take 2 rfl (by kernel_rfl) (by kernel_rfl) rfl rfl rfl (St.drop (St.perm hs12 (L' := L5 ++ _) (perm_front (A := [_]) (List.Perm.refl _))) (List.sublist_append_right L5 _)) (fun w_ hs_ => (Run.nilCheck rfl rfl)) ?_
   refine WG.take 3 rfl (by kernel_rfl) (by kernel_rfl) rfl rfl rfl (St.drop (St.perm hs12 (L' := L5 ++ _) (perm_front (A := [_]) (List.Perm.refl _))) (List.sublist_append_right L5 _)) (fun w_ hs_ => (Run.field Tryz.runUnderlying33 rfl rfl rfl Tryz.sizeOf31 rfl)) ?_
   refine WG.take 4 rfl (by kernel_rfl) (by kernel_rfl) rfl rfl rfl (St.drop (St.perm hs12 (L' := L5 ++ _) (perm_front (A := [_]) (List.Perm.refl _))) (List.sublist_append_right L5 _)) (fun w_ hs_ => (Run.loadL (hs_ : St _ _ _ _) 0 Tryz.isAgg31 rfl rfl rfl rfl)) ?_
   refine WG.take 5 rfl (by kernel_rfl) (by kernel_rfl) rfl rfl rfl (St.drop (St.perm hs12 (L' := L5 ++ _) (perm_front (A := [_]) (List.Perm.refl _))) (List.sublist_append_right L5 _)) (fun w_ hs_ => (Run.move rfl rfl)) ?_
   refine WG.take 6 rfl (by kernel_rfl) (by kernel_rfl) rfl rfl rfl (St.drop (St.perm hs12 (L' := L5 ++ _) (perm_front (A := [_]) (List.Perm.refl _))) (List.sublist_append_right L5 _)) (fun w_ hs_ => (Run.nilCheck rfl rfl)) ?_
   refine WG.take 7 rfl (by kernel_rfl) (by kernel_rfl) rfl rfl rfl (St.drop (St.perm hs12 (L' := L5 ++ _) (perm_front (A := [_]) (List.Perm.refl _))) (List.sublist_append_right L5 _)) (fun w_ hs_ => (Run.field Tryz.runUnderlying33 rfl rfl rfl Tryz.sizeOf28 rfl)) ?_
   refine WG.take 8 rfl (by kernel_rfl) (by kernel_rfl) rfl rfl rfl (St.drop (St.perm hs12 (L' := L5 ++ _) (perm_front (A := [_]) (List.Perm.refl _))) (List.sublist_append_right L5 _)) (fun w_ hs_ => (Run.loadLA (hs_ : St _ _ _ _) 0 Tryz.isAgg28 Tryz.sizeOf28 rfl rfl rfl rfl rfl)) ?_
   refine WG.take 9 rfl (by kernel_rfl) (by kernel_rfl) rfl rfl rfl (St.drop (St.perm hs12 (L' := L5 ++ _) (perm_front (A := [_]) (List.Perm.refl _))) (List.sublist_append_right L5 _)) (fun w_ hs_ => (Run.move rfl rfl)) ?_
   refine WG.all [10] (by kernel_rfl) rfl (WGs.cons (i := 10) rfl rfl ?_ WGs.nil)
   refine WL.call rfl rfl rfl (Run.call Tryz.call224 rfl rfl rfl) (c_impl_Grid_row r.Main _ _ (ownScrR.ok (B := 549755813888) ho6 (fun p_ hp_ => (hs12.own p_ (List.mem_append_right [_] (List.mem_append_left _ hp_))).1) hsmr).Main ?_ ?_ ?_ ?_) ?_
   · first | (first | assumption | rfl | omega) | (first | assumption | omega)
   · first | (first | assumption | rfl | omega) | (first | assumption | omega)
   · first | (first | assumption | rfl | omega) | (first | assumption | omega)
   · first | (first | assumption | rfl | omega) | (first | assumption | omega)
   rintro _ whs14 ⟨rfl, hs14⟩
   replace hs14 := hs12.call0 hs14
   refine ⟨_, rfl, ?_⟩
   refine WL.nil ⟨(St.drop (St.perm hs14 (L' := L5 ++ _) (perm_front (A := [_]) (List.Perm.refl _))) (List.sublist_append_right L5 _)), ?_⟩
   refine WG.all [11] (by kernel_rfl) rfl (WGs.cons (i := 11) rfl rfl ?_ WGs.nil)
   refine WL.call rfl rfl rfl (Run.call Tryz.call208 rfl rfl rfl) (c_slices_Clone_impl_Cell_impl_Cell _ _ _ _ _ (SlF.cutC (lo := ((i : Int) * r.Main.W).toNat) (hi := (((i : Int) + 1) * r.Main.W).toNat) (ownScrR.ok (B := 549755813888) ho6 (fun p_ hp_ => (hs14.own p_ (List.mem_append_right [_] (List.mem_append_left _ hp_))).1) hsmr).Main.Cells (by refine ⟨?_, ?_, ?_⟩ <;> (omega))) ?_) ?_
   · first | (first | assumption | rfl | omega) | (first | assumption | omega)
   rintro _ whs15 ⟨A16, c17, L1_18, rfl, hs15, ho19⟩
   replace hs15 := hs14.callF hs15
   refine ⟨_, rfl, ?_⟩
   replace hs15 := St.back [_] hs15
   refine WL.nil ⟨(St.drop (St.perm (St.drop (St.perm hs15 (L' := L1_18 ++ _) (perm_front (A := [_]) (List.Perm.refl _))) (List.sublist_append_right L1_18 _)) (L' := L5 ++ _) (perm_front (A := [_]) (List.Perm.refl _))) (List.sublist_append_right L5 _)), ?_⟩
   refine WG.take 12 rfl (by kernel_rfl) (by kernel_rfl) rfl rfl rfl (St.drop (St.perm (St.drop (St.perm hs15 (L' := L1_18 ++ _) (perm_front (A := [_]) (List.Perm.refl _))) (List.sublist_append_right L1_18 _)) (L' := L5 ++ _) (perm_front (A := [_]) (List.Perm.refl _))) (List.sublist_append_right L5 _)) (fun w_ hs_ => (Run.build rfl rfl rfl rfl (built_98_0 _ _ _))) ?_
   refine WG.all [13] (by kernel_rfl) rfl (WGs.cons (i := 13) rfl rfl ?_ WGs.nil)
   refine WL.buildSlice hs15 Tryz.runUnderlying31 Tryz.sizeOf98 Tryz.zeroValue98 rfl rfl rfl rfl rfl rfl rfl rfl rfl rfl (fun b20 whs21 hs21 => ?_)
   refine WL.nil ⟨(St.drop (St.perm (St.drop (St.perm (St.drop hs21 (List.sublist_append_right [_] _)) (L' := L1_18 ++ _) (perm_front (A := [_]) (List.Perm.refl _))) (List.sublist_append_right L1_18 _)) (L' := L5 ++ _) (perm_front (A := [_]) (List.Perm.refl _))) (List.sublist_append_right L5 _)), ?_⟩
   refine WG.all [14] (by kernel_rfl) rfl (WGs.cons (i := 14) rfl rfl ?_ WGs.nil)
   obtain ⟨L22, L23, L24, L25, hs30, ho26, ho27, ho28, ho29⟩ := ownScrR.open_ (St.perm hs21 (L' := L5 ++ _) (perm_front (A := [_, _]) (perm_front (A := L1_18) (List.Perm.refl _)))) ho6
   have hs31 := (St.perm (St.perm hs30 (L' := [_] ++ _) (perm_front (A := L22) (perm_front (A := L23) (perm_front (A := L24) (perm_front (A := L25) (perm_front (A := [_]) (List.Perm.refl _))))))) (L' := [_] ++ _) (perm_front (A := [_]) (perm_front (A := L22) (perm_front (A := L23) (perm_front (A := L24) (perm_front (A := L25) (List.Perm.refl _)))))))
   obtain ⟨L32, L33, hs36, ho34, ho35⟩ := OwnN.open_ (St.perm hs31 (L' := L25 ++ _) (perm_front (A := [_, _]) (perm_front (A := L22) (perm_front (A := L23) (perm_front (A := L24) (List.Perm.refl _)))))) ho29
   have hs37 := (St.perm (St.perm hs36 (L' := [_] ++ _) (perm_front (A := L32) (perm_front (A := L33) (perm_front (A := [_]) (List.Perm.refl _))))) (L' := [_] ++ _) (perm_front (A := [_]) (perm_front (A := L32) (perm_front (A := L33) (List.Perm.refl _)))))
   refine WL.appendG (St.perm hs37 (L' := L32 ++ _) (perm_front (A := [_, _]) (List.Perm.refl _))) ho34 (srcF (F := encRowR) (ys := [(⟨SlD.of ho19⟩ : RowR)]) Tryz.underlying31 rfl rfl (hs37.own _ (nthL_mem (i := 0) rfl)).1) Tryz.underlying31 info_98 rfl rfl rfl rfl rfl rfl rfl rfl rfl rfl ?_ (fun A41 c42 L38 whs39 hs39 ho40 => ?_)
   · simp; omega
   replace hs39 := St.back [_, _] hs39
   obtain ⟨L43, hs44, hb45⟩ := Bag.put (x := (⟨SlD.of ho19⟩ : RowR)) (St.perm (St.perm hs39 (L' := L1_18 ++ _) (perm_front (A := [_, _]) (perm_front (A := L38) (perm_front (A := L33) (perm_front (A := L22) (perm_front (A := L23) (perm_front (A := L24) (List.Perm.refl _)))))))) (L' := L33 ++ _) (perm_front (A := L1_18) (perm_front (A := [_, _]) (perm_front (A := L38) (List.Perm.refl _))))) ho35 ho19
   have hs46 := (St.perm (St.perm hs44 (L' := [_] ++ _) (perm_front (A := L43) (perm_front (A := [_]) (List.Perm.refl _)))) (L' := [_] ++ _) (perm_front (A := [_]) (perm_front (A := L43) (List.Perm.refl _))))
   obtain ⟨L48, hs47, ho49⟩ := OwnN.fold (St.perm (St.perm hs46 (L' := L43 ++ _) (perm_front (A := [_, _]) (List.Perm.refl _))) (L' := L38 ++ _) (perm_front (A := L43) (perm_front (A := [_, _]) (List.Perm.refl _)))) ho40 hb45
   have hs50 := (St.perm (St.perm hs47 (L' := [_] ++ _) (perm_front (A := L48) (perm_front (A := [_]) (List.Perm.refl _)))) (L' := [_] ++ _) (perm_front (A := [_]) (perm_front (A := L48) (List.Perm.refl _))))
   refine WL.nil ⟨(St.drop (St.perm (St.drop (St.perm (St.drop (St.perm (St.drop (St.perm (St.drop hs50 (List.sublist_append_right [_] _)) (L' := L48 ++ _) (perm_front (A := [_]) (List.Perm.refl _))) (List.sublist_append_right L48 _)) (L' := L22 ++ _) (perm_front (A := [_]) (List.Perm.refl _))) (List.sublist_append_right L22 _)) (L' := L23 ++ _) (perm_front (A := [_]) (List.Perm.refl _))) (List.sublist_append_right L23 _)) (L' := L24 ++ _) (perm_front (A := [_]) (List.Perm.refl _))) (List.sublist_append_right L24 _)), ?_⟩
   refine WG.takeB 15 rfl (by kernel_rfl) rfl rfl rfl rfl (St.drop (St.perm (St.drop (St.perm (St.drop (St.perm (St.drop (St.perm (St.drop hs50 (List.sublist_append_right [_] _)) (L' := L48 ++ _) (perm_front (A := [_]) (List.Perm.refl _))) (List.sublist_append_right L48 _)) (L' := L22 ++ _) (perm_front (A := [_]) (List.Perm.refl _))) (List.sublist_append_right L22 _)) (L' := L23 ++ _) (perm_front (A := [_]) (List.Perm.refl _))) (List.sublist_append_right L23 _)) (L' := L24 ++ _) (perm_front (A := [_]) (List.Perm.refl _))) (List.sublist_append_right L24 _)) (fun w_ => (Run.nilCheck rfl rfl)) ?_
   refine WG.take 16 rfl (by kernel_rfl) (by kernel_rfl) rfl rfl rfl (St.drop (St.perm (St.drop (St.perm (St.drop (St.perm (St.drop (St.perm (St.drop hs50 (List.sublist_append_right [_] _)) (L' := L48 ++ _) (perm_front (A := [_]) (List.Perm.refl _))) (List.sublist_append_right L48 _)) (L' := L22 ++ _) (perm_front (A := [_]) (List.Perm.refl _))) (List.sublist_append_right L22 _)) (L' := L23 ++ _) (perm_front (A := [_]) (List.Perm.refl _))) (List.sublist_append_right L23 _)) (L' := L24 ++ _) (perm_front (A := [_]) (List.Perm.refl _))) (List.sublist_append_right L24 _)) (fun w_ hs_ => (Run.field Tryz.runUnderlying33 rfl rfl rfl Tryz.sizeOf31 rfl)) ?_
   refine WG.all [17] (by kernel_rfl) rfl (WGs.consK rfl ?_ WGs.nil)
   refine WL.st tbk hs50 1 rfl rfl (fun _ hs51 => ?_)
   refine WL.nil ⟨(St.drop (St.drop (St.drop (St.drop (St.drop hs51 (List.sublist_append_right [_, _] _)) (List.sublist_append_right L48 _)) (List.sublist_append_right L22 _)) (List.sublist_append_right L23 _)) (List.sublist_append_right L24 _)), ?_⟩
   refine WH.done (by kernel_rfl) ?_
   refine hK11 _ _ ?_
   refine WC.region ?_
   refine WL.run tbk 2 hs51 [] rfl ⟨by omega, trivial⟩ ?_
   refine WL.nil ?_
   refine tkN ?_
   obtain ⟨L53, hs52, ho54⟩ := ownScrR.fold ⟨0, 0, ⟨0, 0, ⟨_, _, _, _⟩⟩, ⟨0, 0, ⟨_, _, _, _⟩⟩, false, 0, 0, false, ⟨0, 0, false, false, false⟩, 0, 0, false, false, 0, 0, ⟨0, 0, false, false, false⟩, ⟨_, _, _, _⟩, 0, ⟨_, _, _, _⟩⟩ (St.perm (St.perm (St.perm (St.perm hs51 (L' := L48 ++ _) (perm_front (A := [_, _]) (List.Perm.refl _))) (L' := L24 ++ _) (perm_front (A := L48) (perm_front (A := [_, _]) (perm_front (A := L22) (perm_front (A := L23) (List.Perm.refl _)))))) (L' := L23 ++ _) (perm_front (A := L24) (perm_front (A := L48) (perm_front (A := [_, _]) (perm_front (A := L22) (List.Perm.refl _)))))) (L' := L22 ++ _) (perm_front (A := L23) (perm_front (A := L24) (perm_front (A := L48) (perm_front (A := [_, _]) (List.Perm.refl _)))))) ho26 ho27 ho28 ho49
   have hs55 := (St.perm (St.perm hs52 (L' := [_] ++ _) (perm_front (A := L53) (perm_front (A := [_]) (List.Perm.refl _)))) (L' := [_] ++ _) (perm_front (A := [_]) (perm_front (A := L53) (List.Perm.refl _))))
   replace hs55 := St.drop hs55 (List.sublist_append_right [_] _)
   have hF56 := (St.grp1 (L1 := L53) [_] (St.perm (St.perm hs55 (L' := L53 ++ _) (perm_front (A := [_]) (List.Perm.refl _))) (L' := [_] ++ _) (perm_front (A := L53) (List.Perm.refl _))))
   refine ⟨⟨rfl, rfl, trivial⟩, _, hF56, _, ?_, i + 1, ⟨r.W, r.H, ⟨r.Main.W, r.Main.H, SlD.of ho26⟩, ⟨r.Alt.W, r.Alt.H, SlD.of ho27⟩, r.OnAlt, r.X, r.Y, r.Wrap, ⟨r.A.Fg, r.A.Bg, r.A.Bold, r.A.Under, r.A.Turn⟩, r.Top, r.Bot, r.NoWrap, r.Hide, r.SaveX, r.SaveY, ⟨r.SaveA.Fg, r.SaveA.Bg, r.SaveA.Bold, r.SaveA.Under, r.SaveA.Turn⟩, SlD.of ho28, r.Limit, SlD.ofN ho49⟩, L53, rfl, rfl, ?_, ?_, (by exact ho54), ⟨rfl, trivial⟩⟩
   · omega
   · omega
   · rw [keepTo_succ (r := ⟨_⟩) hrow, ← p1]; simp only [ScrR.dat, List.map_append, List.map_cons, List.map_nil]; rfl
  ·have hin : i = n := by omega
   rw [hin] at p1
   have hrd : r.dat.Back.length = r.Back.xs.length := List.length_map _
   refine WC.exit ?_
   refine hK2 _ _ ?_
   refine WC.sq hs8 mixed (by kernel_rfl) ?_
   refine WQ.run tbk 1 [] rfl trivial ?_
   refine WQ.val rfl rfl rfl (fun w_ hs_ => (Run.nilCheck rfl rfl)) ?_
   refine WQ.run tbk 4 [0] rfl ⟨rfl, trivial⟩ ?_
   refine WQ.val rfl rfl rfl (fun w_ hs_ => (Run.nilCheck rfl rfl)) ?_
   refine WQ.run tbk 4 [0] rfl ⟨by omega, rfl, trivial⟩ ?_
   refine WQ.nil (fun _ (hs57 : St _ _ _ _) => ?_)
   refine WC.rr tbk hs57 [] rfl trivial ?_
   refine WC.cD rfl (fun qh58 => ?_) (fun qh58 => ?_)
   ·refine WC.region ?_
    refine WL.run tbk 2 hs57 [] rfl trivial ?_
    refine WL.val rfl rfl rfl (Run.nilCheck rfl rfl) ?_
    refine WL.run tbk 3 hs57 [0] rfl ⟨rfl, trivial⟩ ?_
    obtain ⟨L60, L61, L62, L63, hs68, ho64, ho65, ho66, ho67⟩ := ownScrR.open_ (St.perm hs57 (L' := L5 ++ _) (perm_front (A := [_]) (List.Perm.refl _))) ho6
    have hs69 := (St.perm hs68 (L' := [_] ++ _) (perm_front (A := L60) (perm_front (A := L61) (perm_front (A := L62) (perm_front (A := L63) (List.Perm.refl _))))))
    refine WL.call rfl rfl rfl (Run.call Tryz.call260 rfl rfl rfl) (c_slices_Delete_impl_Row_impl_Row _ _ _ _ _ _ ho67 (fun p_ hp_ => (hs69.own p_ (List.mem_append_right [_] (List.mem_append_right _ (List.mem_append_right _ (List.mem_append_right _ (List.mem_append_left _ hp_)))))).1) (St.nodupL (St.perm hs69 (L' := L63 ++ _) (perm_front (A := [_]) (perm_front (A := L60) (perm_front (A := L61) (perm_front (A := L62) (List.Perm.refl _))))))) ?_ ?_ ?_) ?_
    · first | (first | assumption | rfl | omega) | (first | assumption | omega)
    · first | (first | assumption | rfl | omega) | (first | assumption | omega)
    · first | (first | assumption | rfl | omega) | (first | assumption | omega)
    rintro _ whs59 ⟨A70, c71, n72, xs73, L1_74, rfl, hs59, ho75, hd76⟩
    replace hs59 := St.lend (St.perm hs69 (L' := L63 ++ _) (perm_front (A := [_]) (perm_front (A := L60) (perm_front (A := L61) (perm_front (A := L62) (List.Perm.refl _)))))) hs59
    refine ⟨_, rfl, ?_⟩
    replace hs59 := St.back [_] hs59
    refine WL.val rfl rfl rfl (Run.nilCheck rfl rfl) ?_
    refine WL.run tbk 1 hs59 [] rfl trivial ?_
    refine WL.st tbk hs59 0 rfl rfl (fun _ hs77 => ?_)
    refine WL.nil ?_
    refine retK0 rfl ?_
    obtain ⟨L79, hs78, ho80⟩ := ownScrR.fold ⟨0, 0, ⟨0, 0, ⟨_, _, _, _⟩⟩, ⟨0, 0, ⟨_, _, _, _⟩⟩, false, 0, 0, false, ⟨0, 0, false, false, false⟩, 0, 0, false, false, 0, 0, ⟨0, 0, false, false, false⟩, ⟨_, _, _, _⟩, 0, ⟨_, _, _, _⟩⟩ (St.perm (St.perm (St.perm (St.perm hs77 (L' := L1_74 ++ _) (perm_front (A := [_]) (List.Perm.refl _))) (L' := L62 ++ _) (perm_front (A := L1_74) (perm_front (A := [_]) (perm_front (A := L60) (perm_front (A := L61) (List.Perm.refl _)))))) (L' := L61 ++ _) (perm_front (A := L62) (perm_front (A := L1_74) (perm_front (A := [_]) (perm_front (A := L60) (List.Perm.refl _)))))) (L' := L60 ++ _) (perm_front (A := L61) (perm_front (A := L62) (perm_front (A := L1_74) (perm_front (A := [_]) (List.Perm.refl _)))))) ho64 ho65 ho66 ho75
    have hs81 := (St.perm hs78 (L' := [_] ++ _) (perm_front (A := L79) (List.Perm.refl _)))
    refine ⟨⟨r.W, r.H, ⟨r.Main.W, r.Main.H, SlD.of ho64⟩, ⟨r.Alt.W, r.Alt.H, SlD.of ho65⟩, r.OnAlt, r.X, r.Y, r.Wrap, ⟨r.A.Fg, r.A.Bg, r.A.Bold, r.A.Under, r.A.Turn⟩, r.Top, r.Bot, r.NoWrap, r.Hide, r.SaveX, r.SaveY, ⟨r.SaveA.Fg, r.SaveA.Bg, r.SaveA.Bold, r.SaveA.Under, r.SaveA.Turn⟩, SlD.of ho66, r.Limit, SlD.ofN ho75⟩, _, rfl, St.keepP (L1 := L79) (St.perm (St.perm hs81 (L' := L79 ++ _) (perm_front (A := [_]) (List.Perm.refl _))) (L' := [_] ++ _) (perm_front (A := L79) (List.Perm.refl _))), (by exact ho80), ?_⟩
    · refine Eq.trans ?_ (keepTo_drop p1 (k := ((r.Back.n : Int) - r.Limit).toNat) (by show _ = _ - s.Limit.toNat; omega)); simp only [ScrR.dat, hd76, List.map_drop]
   ·refine WC.skip ?_
    refine retK0 rfl ?_
    refine ⟨r, _, rfl, St.keepP (L1 := L5) (St.perm (St.perm hs57 (L' := L5 ++ _) (perm_front (A := [_]) (List.Perm.refl _))) (L' := [_] ++ _) (perm_front (A := L5) (List.Perm.refl _))), ho6, ?_⟩
    · exact keepTo_all p1 (by show _ ≤ s.Limit.toNat; omega)
end Go.Proofs.YtjmegoiclgancaaGreat
