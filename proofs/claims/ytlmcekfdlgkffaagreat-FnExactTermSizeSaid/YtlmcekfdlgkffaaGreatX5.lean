/- Walks of Go functions, printed by a program (wip/gen). -/
import Derived.Test.YtlmcekfdlgkffaaGreatX3
import Derived.Test.YtlmcekfdlgkffaaGreatM14
namespace Go.Proofs.YtlmcekfdlgkffaaGreat
open Go Go.RowKit
set_option linter.unusedVariables false
set_option linter.unusedSimpArgs false
theorem c_spec_l09Keep (s : ScrR) (L_s : Hp) (y : Nat) (w : World) (o_s : ownScrR s L_s) (h_s : ∀ p, p ∈ L_s → w.heap[p.1]? = some p.2) (hd_ : ((L_s).map (·.1)).Nodup) (hm : gridOk s.Main.dat = true) (hW : s.W = s.Main.W) (hlim : 0 ≤ s.Limit ∧ s.Limit ≤ 1048576) (hb : (s.Back.xs.length : Int) ≤ s.Limit) (hn : (y : Int) < s.Main.H) (hsmB : smScr 549755813888 s.dat) :
    Calls Tryz.prog 131 #[.agg #[i64 s.W, i64 s.H, i64 s.Main.W, i64 s.Main.H, .slice s.Main.Cells.A s.Main.Cells.n s.Main.Cells.c, i64 s.Alt.W, i64 s.Alt.H, .slice s.Alt.Cells.A s.Alt.Cells.n s.Alt.Cells.c, .bool s.OnAlt, i64 s.X, i64 s.Y, .bool s.Wrap, i64 s.A.Fg, i64 s.A.Bg, .bool s.A.Bold, .bool s.A.Under, .bool s.A.Turn, i64 s.Top, i64 s.Bot, .bool s.NoWrap, .bool s.Hide, i64 s.SaveX, i64 s.SaveY, i64 s.SaveA.Fg, i64 s.SaveA.Bg, .bool s.SaveA.Bold, .bool s.SaveA.Under, .bool s.SaveA.Turn, .slice s.Tabs.A s.Tabs.n s.Tabs.c, i64 s.Limit, .slice s.Back.A s.Back.n s.Back.c], .int .i64 y] w fun e w' => ∃ r L1, e = .returned (.agg #[i64 r.W, i64 r.H, i64 r.Main.W, i64 r.Main.H, .slice r.Main.Cells.A r.Main.Cells.n r.Main.Cells.c, i64 r.Alt.W, i64 r.Alt.H, .slice r.Alt.Cells.A r.Alt.Cells.n r.Alt.Cells.c, .bool r.OnAlt, i64 r.X, i64 r.Y, .bool r.Wrap, i64 r.A.Fg, i64 r.A.Bg, .bool r.A.Bold, .bool r.A.Under, .bool r.A.Turn, i64 r.Top, i64 r.Bot, .bool r.NoWrap, .bool r.Hide, i64 r.SaveX, i64 r.SaveY, i64 r.SaveA.Fg, i64 r.SaveA.Bg, .bool r.SaveA.Bold, .bool r.SaveA.Under, .bool r.SaveA.Turn, .slice r.Tabs.A r.Tabs.n r.Tabs.c, i64 r.Limit, .slice r.Back.A r.Back.n r.Back.c]) ∧ St w ((L_s).map (·.1)) L1 w' ∧ ownScrR r L1 ∧ r.dat = keepOne s.dat y := by
 have hgb : (1 ≤ s.Main.W ∧ s.Main.W ≤ 120) ∧ (1 ≤ s.Main.H ∧ s.Main.H ≤ 120) ∧ 1 ≤ s.Main.W * s.Main.H ∧ s.Main.W * s.Main.H ≤ 4000 := gridOk_bnd hm
 have hgl : (s.Main.Cells.xs.length : Int) = s.Main.W * s.Main.H := by have h_ := hm; unfold gridOk at h_; rw [Bool.and_eq_true, Bool.and_eq_true, decide_eq_true_eq] at h_; exact h_.1.2
 obtain ⟨⟨hrn1, hrn2⟩, _, _, hrn3, hrn4⟩ := ownScrR.lens o_s
 have hv0 : 0 ≤ (y : Int) * s.W := Int.mul_nonneg (by omega) (by omega)
 have hv1 : ((y : Int) + 1) * s.W = (y : Int) * s.W + s.W := by rw [Int.add_mul, Int.one_mul]
 have hv2 : ((y : Int) + 1) * s.W ≤ s.Main.H * s.Main.W := by rw [hW]; exact Int.mul_le_mul_of_nonneg_right (by omega) (by omega)
 rw [Int.mul_comm s.Main.H] at hv2
 have hrow : (RowD.mk ((s.Main.Cells.xs.drop ((y : Int) * s.W).toNat).take ((((y : Int) * s.W) + s.W).toNat - ((y : Int) * s.W).toNat))) = rowAt s.dat.Main y := by
   have e1 : ((y : Int) * s.W).toNat = y * s.Main.W.toNat := by rw [hW]; exact toNat_mul_nat (by omega)
   have e2 : (((y : Int) * s.W) + s.W).toNat - y * s.Main.W.toNat = s.Main.W.toNat := by rw [← e1]; omega
   rw [e1, e2]; rfl
 refine enter (vs := [.agg #[i64 s.W, i64 s.H, i64 s.Main.W, i64 s.Main.H, .slice s.Main.Cells.A s.Main.Cells.n s.Main.Cells.c, i64 s.Alt.W, i64 s.Alt.H, .slice s.Alt.Cells.A s.Alt.Cells.n s.Alt.Cells.c, .bool s.OnAlt, i64 s.X, i64 s.Y, .bool s.Wrap, i64 s.A.Fg, i64 s.A.Bg, .bool s.A.Bold, .bool s.A.Under, .bool s.A.Turn, i64 s.Top, i64 s.Bot, .bool s.NoWrap, .bool s.Hide, i64 s.SaveX, i64 s.SaveY, i64 s.SaveA.Fg, i64 s.SaveA.Bg, .bool s.SaveA.Bold, .bool s.SaveA.Under, .bool s.SaveA.Turn, .slice s.Tabs.A s.Tabs.n s.Tabs.c, i64 s.Limit, .slice s.Back.A s.Back.n s.Back.c], .int .i64 y]) 45 Tryz.func131 rfl Tryz.ntmps131 rfl rfl ?_
 have hs1 := St.takes1 w L_s h_s hd_
 refine WC.sr ?_
 refine WL.bx hs1 rfl (fun b2 _ hs3 => ?_)
 refine WL.al hs3 Tryz.zeroValue44 rfl rfl (fun b4 _ hs5 => ?_)
 refine WL.nil ?_
 refine WC.seq (fun K6 hK6 => ?_)
 refine WC.regionG 23 (fun w' => St _ _ _ w') (fun w' => St _ _ _ w') (fun w' => St _ _ _ w') mixed (St.drew (St.drop (St.perm (St.drop hs5 (List.Sublist.cons_cons _ (List.Sublist.cons _ (List.Sublist.refl _)))) (L' := L_s ++ _) (perm_front (A := [_]) (List.Perm.refl _))) (List.sublist_append_right L_s _))) (St.drew (St.drop (St.perm hs5 (L' := L_s ++ _) (perm_front (A := [_, _]) (List.Perm.refl _))) (List.sublist_append_right L_s _))) (St.drew hs5) (fun whs7 hs7 => ?_)
 replace hs7 : St _ _ _ _ := hs7
 refine WG.take 0 rfl (by kernel_rfl) (by kernel_rfl) rfl rfl rfl (St.drop (St.perm hs7 (L' := L_s ++ _) (perm_front (A := [_, _]) (List.Perm.refl _))) (List.sublist_append_right L_s _)) (fun w_ hs_ => (Run.field Tryz.runUnderlying44 rfl rfl rfl Tryz.sizeOf42 rfl)) ?_
 refine WG.take 1 rfl (by kernel_rfl) (by kernel_rfl) rfl rfl rfl (St.drop (St.perm hs7 (L' := L_s ++ _) (perm_front (A := [_, _]) (List.Perm.refl _))) (List.sublist_append_right L_s _)) (fun w_ hs_ => (Run.loadL (hs_ : St _ _ _ _) 1 Tryz.isAgg42 rfl rfl rfl rfl)) ?_
 refine WG.take 3 rfl (by kernel_rfl) (by kernel_rfl) rfl rfl rfl (St.drop (St.perm hs7 (L' := L_s ++ _) (perm_front (A := [_, _]) (List.Perm.refl _))) (List.sublist_append_right L_s _)) (fun w_ hs_ => (Run.field Tryz.runUnderlying44 rfl rfl rfl Tryz.sizeOf40 rfl)) ?_
 refine WG.take 4 rfl (by kernel_rfl) (by kernel_rfl) rfl rfl rfl (St.drop (St.perm hs7 (L' := L_s ++ _) (perm_front (A := [_, _]) (List.Perm.refl _))) (List.sublist_append_right L_s _)) (fun w_ hs_ => (Run.field Tryz.runUnderlying40 rfl rfl rfl Tryz.sizeOf38 rfl)) ?_
 refine WG.take 5 rfl (by kernel_rfl) (by kernel_rfl) rfl rfl rfl (St.drop (St.perm hs7 (L' := L_s ++ _) (perm_front (A := [_, _]) (List.Perm.refl _))) (List.sublist_append_right L_s _)) (fun w_ hs_ => (Run.loadL (hs_ : St _ _ _ _) 1 Tryz.isAgg38 rfl rfl rfl rfl)) ?_
 refine WG.take 6 rfl (by kernel_rfl) (by kernel_rfl) rfl rfl rfl (St.drop (St.perm hs7 (L' := L_s ++ _) (perm_front (A := [_, _]) (List.Perm.refl _))) (List.sublist_append_right L_s _)) (fun w_ hs_ => (Run.move rfl rfl)) ?_
 refine WG.take 7 rfl (by kernel_rfl) (by kernel_rfl) rfl rfl rfl (St.drop (St.perm hs7 (L' := L_s ++ _) (perm_front (A := [_, _]) (List.Perm.refl _))) (List.sublist_append_right L_s _)) (fun w_ hs_ => (Run.field Tryz.runUnderlying44 rfl rfl rfl Tryz.sizeOf3 rfl)) ?_
 refine WG.take 8 rfl (by kernel_rfl) (by kernel_rfl) rfl rfl rfl (St.drop (St.perm hs7 (L' := L_s ++ _) (perm_front (A := [_, _]) (List.Perm.refl _))) (List.sublist_append_right L_s _)) (fun w_ hs_ => (Run.loadL (hs_ : St _ _ _ _) 1 Tryz.isAgg3 rfl rfl rfl rfl)) ?_
 refine WG.take 9 rfl (by kernel_rfl) (by kernel_rfl) rfl rfl rfl (St.drop (St.perm hs7 (L' := L_s ++ _) (perm_front (A := [_, _]) (List.Perm.refl _))) (List.sublist_append_right L_s _)) (fun w_ hs_ => (Run.mul rfl rfl rfl ?_)) ?_
 · constructor <;> first | omega | (simp only [List.length_append, List.length_singleton] at *; omega)
 refine WG.take 10 rfl (by kernel_rfl) (by kernel_rfl) rfl rfl rfl (St.drop (St.perm hs7 (L' := L_s ++ _) (perm_front (A := [_, _]) (List.Perm.refl _))) (List.sublist_append_right L_s _)) (fun w_ hs_ => (Run.move rfl rfl)) ?_
 refine WG.take 11 rfl (by kernel_rfl) (by kernel_rfl) rfl rfl rfl (St.drop (St.perm hs7 (L' := L_s ++ _) (perm_front (A := [_, _]) (List.Perm.refl _))) (List.sublist_append_right L_s _)) (fun w_ hs_ => (Run.field Tryz.runUnderlying44 rfl rfl rfl Tryz.sizeOf3 rfl)) ?_
 refine WG.take 12 rfl (by kernel_rfl) (by kernel_rfl) rfl rfl rfl (St.drop (St.perm hs7 (L' := L_s ++ _) (perm_front (A := [_, _]) (List.Perm.refl _))) (List.sublist_append_right L_s _)) (fun w_ hs_ => (Run.loadL (hs_ : St _ _ _ _) 1 Tryz.isAgg3 rfl rfl rfl rfl)) ?_
 refine WG.take 13 rfl (by kernel_rfl) (by kernel_rfl) rfl rfl rfl (St.drop (St.perm hs7 (L' := L_s ++ _) (perm_front (A := [_, _]) (List.Perm.refl _))) (List.sublist_append_right L_s _)) (fun w_ hs_ => (Run.mul rfl rfl rfl ?_)) ?_
 · constructor <;> first | omega | (simp only [List.length_append, List.length_singleton] at *; omega)
 refine WG.take 14 rfl (by kernel_rfl) (by kernel_rfl) rfl rfl rfl (St.drop (St.perm hs7 (L' := L_s ++ _) (perm_front (A := [_, _]) (List.Perm.refl _))) (List.sublist_append_right L_s _)) (fun w_ hs_ => (Run.field Tryz.runUnderlying44 rfl rfl rfl Tryz.sizeOf3 rfl)) ?_
 refine WG.take 15 rfl (by kernel_rfl) (by kernel_rfl) rfl rfl rfl (St.drop (St.perm hs7 (L' := L_s ++ _) (perm_front (A := [_, _]) (List.Perm.refl _))) (List.sublist_append_right L_s _)) (fun w_ hs_ => (Run.loadL (hs_ : St _ _ _ _) 1 Tryz.isAgg3 rfl rfl rfl rfl)) ?_
 refine WG.take 16 rfl (by kernel_rfl) (by kernel_rfl) rfl rfl rfl (St.drop (St.perm hs7 (L' := L_s ++ _) (perm_front (A := [_, _]) (List.Perm.refl _))) (List.sublist_append_right L_s _)) (fun w_ hs_ => (Run.add rfl rfl rfl ?_)) ?_
 · constructor <;> first | omega | (simp only [List.length_append, List.length_singleton] at *; omega)
 refine WG.take 17 rfl (by kernel_rfl) (by kernel_rfl) rfl rfl rfl (St.drop (St.perm hs7 (L' := L_s ++ _) (perm_front (A := [_, _]) (List.Perm.refl _))) (List.sublist_append_right L_s _)) (fun w_ hs_ => (Run.sliceLH (((y : Int) * s.W).toNat) (((y : Int) * s.W + s.W).toNat) Tryz.runUnderlying38 Tryz.sizeOf65 rfl rfl rfl rfl ?_ ?_ ?_)) ?_
 · first | rfl | (first | omega | (simp only [List.length_append, List.length_singleton] at *; omega))
 · first | rfl | (first | omega | (simp only [List.length_append, List.length_singleton] at *; omega))
 · refine ⟨?_, ?_, ?_⟩ <;> (first | omega | (simp only [List.length_append, List.length_singleton] at *; omega))
 refine WG.all [2] (by kernel_rfl) rfl (WGs.cons (i := 2) rfl rfl ?_ WGs.nil)
 refine WL.buildF (F := encCell) hs7 ([]) Tryz.runUnderlying38 Tryz.sizeOf65 Tryz.zeroValue65 rfl rfl rfl rfl rfl rfl rfl rfl rfl rfl rfl rfl (fun A12 c13 L9 whs10 hs10 ho11 => ?_)
 replace hs10 := St.back [_, _] hs10
 refine WL.nil ⟨(St.drop (St.perm (St.drop (St.perm hs10 (L' := L9 ++ _) (perm_front (A := [_, _]) (List.Perm.refl _))) (List.sublist_append_right L9 _)) (L' := L_s ++ _) (perm_front (A := [_, _]) (List.Perm.refl _))) (List.sublist_append_right L_s _)), ?_⟩
 refine WG.all [18] (by kernel_rfl) rfl (WGs.cons (i := 18) rfl rfl ?_ WGs.nil)
 refine WL.appendG (St.perm hs10 (L' := L9 ++ _) (perm_front (A := [_, _]) (List.Perm.refl _))) ho11 (SlF.src (SlF.cutC (lo := ((y : Int) * s.W).toNat) (hi := ((y : Int) * s.W + s.W).toNat) (ownScrR.ok (B := 549755813888) o_s (fun p_ hp_ => (hs10.own p_ (List.mem_append_right [_, _] (List.mem_append_right _ (List.mem_append_left _ hp_)))).1) (by assumption)).Main.Cells (by refine ⟨?_, ?_, ?_⟩ <;> (first | omega | (simp only [List.length_append, List.length_singleton] at *; omega)))) Tryz.underlying38) Tryz.underlying38 info_65 rfl rfl rfl rfl rfl rfl rfl rfl rfl rfl ?_ (fun A17 c18 L14 whs15 hs15 ho16 => ?_)
 · (try simp only [List.length_append, List.length_take, List.length_drop, List.length_nil, List.nil_append, List.length_singleton]); omega
 replace hs15 := St.back [_, _] hs15
 refine WL.nil ⟨(St.drop (St.perm (St.drop (St.perm hs15 (L' := L14 ++ _) (perm_front (A := [_, _]) (List.Perm.refl _))) (List.sublist_append_right L14 _)) (L' := L_s ++ _) (perm_front (A := [_, _]) (List.Perm.refl _))) (List.sublist_append_right L_s _)), ?_⟩
 refine WG.take 19 rfl (by kernel_rfl) (by kernel_rfl) rfl rfl rfl (St.drop (St.perm (St.drop (St.perm hs15 (L' := L14 ++ _) (perm_front (A := [_, _]) (List.Perm.refl _))) (List.sublist_append_right L14 _)) (L' := L_s ++ _) (perm_front (A := [_, _]) (List.Perm.refl _))) (List.sublist_append_right L_s _)) (fun w_ hs_ => (Run.build rfl rfl rfl rfl (built_111_0 _ _ _))) ?_
 refine WG.all [20] (by kernel_rfl) rfl (WGs.cons (i := 20) rfl rfl ?_ WGs.nil)
 refine WL.buildSlice hs15 Tryz.runUnderlying42 Tryz.sizeOf111 Tryz.zeroValue111 rfl rfl rfl rfl rfl rfl rfl rfl rfl rfl (fun b19 whs20 hs20 => ?_)
 refine WL.nil ⟨(St.drop (St.perm (St.drop (St.perm (St.drop hs20 (List.sublist_append_right [_] _)) (L' := L14 ++ _) (perm_front (A := [_, _]) (List.Perm.refl _))) (List.sublist_append_right L14 _)) (L' := L_s ++ _) (perm_front (A := [_, _]) (List.Perm.refl _))) (List.sublist_append_right L_s _)), ?_⟩
 refine WG.all [21] (by kernel_rfl) rfl (WGs.cons (i := 21) rfl rfl ?_ WGs.nil)
 obtain ⟨L21, L22, L23, L24, hs29, ho25, ho26, ho27, ho28⟩ := ownScrR.open_ (St.perm hs20 (L' := L_s ++ _) (perm_front (A := [_, _, _]) (perm_front (A := L14) (List.Perm.refl _)))) o_s
 have hs30 := (St.perm (St.perm (St.perm hs29 (L' := [_] ++ _) (perm_front (A := L21) (perm_front (A := L22) (perm_front (A := L23) (perm_front (A := L24) (perm_front (A := [_, _]) (List.Perm.refl _))))))) (L' := [_] ++ _) (perm_front (A := [_]) (perm_front (A := L21) (perm_front (A := L22) (perm_front (A := L23) (perm_front (A := L24) (perm_front (A := [_]) (List.Perm.refl _)))))))) (L' := [_] ++ _) (perm_front (A := [_, _]) (perm_front (A := L21) (perm_front (A := L22) (perm_front (A := L23) (perm_front (A := L24) (List.Perm.refl _)))))))
 obtain ⟨L31, L32, hs35, ho33, ho34⟩ := OwnN.open_ (St.perm hs30 (L' := L24 ++ _) (perm_front (A := [_, _, _]) (perm_front (A := L21) (perm_front (A := L22) (perm_front (A := L23) (List.Perm.refl _)))))) ho28
 have hs36 := (St.perm (St.perm (St.perm hs35 (L' := [_] ++ _) (perm_front (A := L31) (perm_front (A := L32) (perm_front (A := [_, _]) (List.Perm.refl _))))) (L' := [_] ++ _) (perm_front (A := [_]) (perm_front (A := L31) (perm_front (A := L32) (perm_front (A := [_]) (List.Perm.refl _)))))) (L' := [_] ++ _) (perm_front (A := [_, _]) (perm_front (A := L31) (perm_front (A := L32) (List.Perm.refl _)))))
 refine WL.appendG (St.perm hs36 (L' := L31 ++ _) (perm_front (A := [_, _, _]) (List.Perm.refl _))) ho33 (srcF (F := encRowR) (ys := [(⟨SlD.of ho16⟩ : RowR)]) Tryz.underlying42 rfl rfl (hs36.own _ (nthL_mem (i := 0) rfl)).1) Tryz.underlying42 info_111 rfl rfl rfl rfl rfl rfl rfl rfl rfl rfl ?_ (fun A40 c41 L37 whs38 hs38 ho39 => ?_)
 · (try simp only [List.length_append, List.length_take, List.length_drop, List.length_nil, List.nil_append, List.length_singleton]); omega
 replace hs38 := St.back [_, _, _] hs38
 obtain ⟨L42, hs43, hb44⟩ := Bag.put (x := (⟨SlD.of ho16⟩ : RowR)) (St.perm (St.perm hs38 (L' := L14 ++ _) (perm_front (A := [_, _, _]) (perm_front (A := L37) (perm_front (A := L32) (perm_front (A := L21) (perm_front (A := L22) (perm_front (A := L23) (List.Perm.refl _)))))))) (L' := L32 ++ _) (perm_front (A := L14) (perm_front (A := [_, _, _]) (perm_front (A := L37) (List.Perm.refl _))))) ho34 ho16
 have hs45 := (St.perm (St.perm (St.perm hs43 (L' := [_] ++ _) (perm_front (A := L42) (perm_front (A := [_, _]) (List.Perm.refl _)))) (L' := [_] ++ _) (perm_front (A := [_]) (perm_front (A := L42) (perm_front (A := [_]) (List.Perm.refl _))))) (L' := [_] ++ _) (perm_front (A := [_, _]) (perm_front (A := L42) (List.Perm.refl _))))
 obtain ⟨L47, hs46, ho48⟩ := OwnN.fold (St.perm (St.perm hs45 (L' := L42 ++ _) (perm_front (A := [_, _, _]) (List.Perm.refl _))) (L' := L37 ++ _) (perm_front (A := L42) (perm_front (A := [_, _, _]) (List.Perm.refl _)))) ho39 hb44
 have hs49 := (St.perm (St.perm (St.perm hs46 (L' := [_] ++ _) (perm_front (A := L47) (perm_front (A := [_, _]) (List.Perm.refl _)))) (L' := [_] ++ _) (perm_front (A := [_]) (perm_front (A := L47) (perm_front (A := [_]) (List.Perm.refl _))))) (L' := [_] ++ _) (perm_front (A := [_, _]) (perm_front (A := L47) (List.Perm.refl _))))
 refine WL.nil ⟨(St.drop (St.perm (St.drop (St.perm (St.drop (St.perm (St.drop (St.perm (St.drop hs49 (List.sublist_append_right [_] _)) (L' := L47 ++ _) (perm_front (A := [_, _]) (List.Perm.refl _))) (List.sublist_append_right L47 _)) (L' := L21 ++ _) (perm_front (A := [_, _]) (List.Perm.refl _))) (List.sublist_append_right L21 _)) (L' := L22 ++ _) (perm_front (A := [_, _]) (List.Perm.refl _))) (List.sublist_append_right L22 _)) (L' := L23 ++ _) (perm_front (A := [_, _]) (List.Perm.refl _))) (List.sublist_append_right L23 _)), ?_⟩
 refine WG.take 22 rfl (by kernel_rfl) (by kernel_rfl) rfl rfl rfl (St.drop (St.perm (St.drop (St.perm (St.drop (St.perm (St.drop (St.perm (St.drop hs49 (List.sublist_append_right [_] _)) (L' := L47 ++ _) (perm_front (A := [_, _]) (List.Perm.refl _))) (List.sublist_append_right L47 _)) (L' := L21 ++ _) (perm_front (A := [_, _]) (List.Perm.refl _))) (List.sublist_append_right L21 _)) (L' := L22 ++ _) (perm_front (A := [_, _]) (List.Perm.refl _))) (List.sublist_append_right L22 _)) (L' := L23 ++ _) (perm_front (A := [_, _]) (List.Perm.refl _))) (List.sublist_append_right L23 _)) (fun w_ hs_ => (Run.field Tryz.runUnderlying44 rfl rfl rfl Tryz.sizeOf42 rfl)) ?_
 refine WG.all [23] (by kernel_rfl) rfl (WGs.consK rfl ?_ WGs.nil)
 refine WL.st tbk hs49 2 rfl rfl (fun _ hs50 => ?_)
 refine WL.nil ⟨(St.drop (St.perm (St.drop (St.perm (St.drop (St.perm (St.drop (St.perm (St.drop hs50 (List.Sublist.cons _ (List.Sublist.cons_cons _ (List.Sublist.cons _ (List.Sublist.refl _))))) (L' := L47 ++ _) (perm_front (A := [_]) (List.Perm.refl _))) (List.sublist_append_right L47 _)) (L' := L21 ++ _) (perm_front (A := [_]) (List.Perm.refl _))) (List.sublist_append_right L21 _)) (L' := L22 ++ _) (perm_front (A := [_]) (List.Perm.refl _))) (List.sublist_append_right L22 _)) (L' := L23 ++ _) (perm_front (A := [_]) (List.Perm.refl _))) (List.sublist_append_right L23 _)), ?_⟩
 refine WH.done (by kernel_rfl) ?_
 refine hK6 _ _ ?_
 refine WC.seq (fun K51 hK51 => ?_)
 refine WC.rr tbk hs50 [2, 2] rfl ⟨rfl, rfl, trivial⟩ ?_
 refine WC.cD rfl (fun qh52 => ?_) (fun qh52 => ?_)
 ·refine WC.region ?_
  refine WL.run tbk 8 hs50 [2, 2, 2] rfl ⟨by first | omega | (simp only [List.length_append, List.length_singleton] at *; omega), rfl, rfl, rfl, trivial⟩ ?_
  have hcN := OwnN.cap ho48
  have hlN := OwnN.len_ ho48
  refine WL.val rfl rfl rfl (Run.sliceL (s.Back.xs.length + 1 - s.Limit.toNat) Tryz.runUnderlying42 Tryz.sizeOf111 rfl rfl rfl ?_ ?_) ?_
  · first | omega | (simp only [List.length_append, List.length_singleton] at *; omega)
  · refine ⟨?_, ?_, ?_⟩ <;> (first | omega | (simp only [List.length_append, List.length_singleton] at *; omega))
  obtain ⟨L53, hs54, ho55⟩ := OwnN.dropE (k := s.Back.xs.length + 1 - s.Limit.toNat) ho48 (by first | omega | (simp only [List.length_append, List.length_singleton] at *; omega)) (St.perm hs50 (L' := L47 ++ _) (perm_front (A := [_, _, _]) (List.Perm.refl _)))
  have hs56 := (St.perm (St.perm (St.perm hs54 (L' := [_] ++ _) (perm_front (A := L53) (perm_front (A := [_, _]) (List.Perm.refl _)))) (L' := [_] ++ _) (perm_front (A := [_]) (perm_front (A := L53) (perm_front (A := [_]) (List.Perm.refl _))))) (L' := [_] ++ _) (perm_front (A := [_, _]) (perm_front (A := L53) (List.Perm.refl _))))
  refine WL.run tbk 1 hs56 [] rfl trivial ?_
  refine WL.st tbk hs56 2 rfl rfl (fun _ hs57 => ?_)
  refine WL.nil ?_
  refine hK51 _ _ ?_
  refine WC.sr ?_
  refine WL.run tbk 1 hs57 [2] rfl ⟨rfl, trivial⟩ ?_
  refine WL.st tbk hs57 1 rfl rfl (fun _ hs58 => ?_)
  refine WL.nil ?_
  refine WC.ret ?_
  refine retV1 rfl (resV.cellA tbk hs58 1 rfl rfl rfl rfl) ?_
  obtain ⟨L60, hs59, ho61⟩ := ownScrR.fold ⟨0, 0, ⟨0, 0, ⟨_, _, _, _⟩⟩, ⟨0, 0, ⟨_, _, _, _⟩⟩, false, 0, 0, false, ⟨0, 0, false, false, false⟩, 0, 0, false, false, 0, 0, ⟨0, 0, false, false, false⟩, ⟨_, _, _, _⟩, 0, ⟨_, _, _, _⟩⟩ (St.perm (St.perm (St.perm (St.perm hs58 (L' := L53 ++ _) (perm_front (A := [_, _, _]) (List.Perm.refl _))) (L' := L23 ++ _) (perm_front (A := L53) (perm_front (A := [_, _, _]) (perm_front (A := L21) (perm_front (A := L22) (List.Perm.refl _)))))) (L' := L22 ++ _) (perm_front (A := L23) (perm_front (A := L53) (perm_front (A := [_, _, _]) (perm_front (A := L21) (List.Perm.refl _)))))) (L' := L21 ++ _) (perm_front (A := L22) (perm_front (A := L23) (perm_front (A := L53) (perm_front (A := [_, _, _]) (List.Perm.refl _)))))) ho25 ho26 ho27 ho55
  have hs62 := (St.perm (St.perm (St.perm hs59 (L' := [_] ++ _) (perm_front (A := L60) (perm_front (A := [_, _]) (List.Perm.refl _)))) (L' := [_] ++ _) (perm_front (A := [_]) (perm_front (A := L60) (perm_front (A := [_]) (List.Perm.refl _))))) (L' := [_] ++ _) (perm_front (A := [_, _]) (perm_front (A := L60) (List.Perm.refl _))))
  refine ⟨⟨s.W, s.H, ⟨s.Main.W, s.Main.H, SlD.of ho25⟩, ⟨s.Alt.W, s.Alt.H, SlD.of ho26⟩, s.OnAlt, s.X, s.Y, s.Wrap, ⟨s.A.Fg, s.A.Bg, s.A.Bold, s.A.Under, s.A.Turn⟩, s.Top, s.Bot, s.NoWrap, s.Hide, s.SaveX, s.SaveY, ⟨s.SaveA.Fg, s.SaveA.Bg, s.SaveA.Bold, s.SaveA.Under, s.SaveA.Turn⟩, SlD.of ho27, s.Limit, SlD.ofN ho55⟩, _, rfl, (St.keep1 (St.perm hs62 (L' := L60 ++ _) (perm_front (A := [_, _, _]) (List.Perm.refl _)))), ?_, ?_⟩
  · exact (by exact ho61)
  · rw [← keepOne_drop (k := s.Back.xs.length + 1 - s.Limit.toNat) (by show _ = (s.Back.xs.map RowR.dat).length + 1 - s.Limit.toNat; rw [List.length_map]), ← hrow]; simp only [ScrR.dat, List.map_drop, List.map_append]; rfl
 ·refine WC.skip ?_
  refine hK51 _ _ ?_
  refine WC.sr ?_
  refine WL.run tbk 1 hs50 [2] rfl ⟨rfl, trivial⟩ ?_
  refine WL.st tbk hs50 1 rfl rfl (fun _ hs63 => ?_)
  refine WL.nil ?_
  refine WC.ret ?_
  refine retV1 rfl (resV.cellA tbk hs63 1 rfl rfl rfl rfl) ?_
  obtain ⟨L65, hs64, ho66⟩ := ownScrR.fold ⟨0, 0, ⟨0, 0, ⟨_, _, _, _⟩⟩, ⟨0, 0, ⟨_, _, _, _⟩⟩, false, 0, 0, false, ⟨0, 0, false, false, false⟩, 0, 0, false, false, 0, 0, ⟨0, 0, false, false, false⟩, ⟨_, _, _, _⟩, 0, ⟨_, _, _, _⟩⟩ (St.perm (St.perm (St.perm (St.perm hs63 (L' := L47 ++ _) (perm_front (A := [_, _, _]) (List.Perm.refl _))) (L' := L23 ++ _) (perm_front (A := L47) (perm_front (A := [_, _, _]) (perm_front (A := L21) (perm_front (A := L22) (List.Perm.refl _)))))) (L' := L22 ++ _) (perm_front (A := L23) (perm_front (A := L47) (perm_front (A := [_, _, _]) (perm_front (A := L21) (List.Perm.refl _)))))) (L' := L21 ++ _) (perm_front (A := L22) (perm_front (A := L23) (perm_front (A := L47) (perm_front (A := [_, _, _]) (List.Perm.refl _)))))) ho25 ho26 ho27 ho48
  have hs67 := (St.perm (St.perm (St.perm hs64 (L' := [_] ++ _) (perm_front (A := L65) (perm_front (A := [_, _]) (List.Perm.refl _)))) (L' := [_] ++ _) (perm_front (A := [_]) (perm_front (A := L65) (perm_front (A := [_]) (List.Perm.refl _))))) (L' := [_] ++ _) (perm_front (A := [_, _]) (perm_front (A := L65) (List.Perm.refl _))))
  refine ⟨⟨s.W, s.H, ⟨s.Main.W, s.Main.H, SlD.of ho25⟩, ⟨s.Alt.W, s.Alt.H, SlD.of ho26⟩, s.OnAlt, s.X, s.Y, s.Wrap, ⟨s.A.Fg, s.A.Bg, s.A.Bold, s.A.Under, s.A.Turn⟩, s.Top, s.Bot, s.NoWrap, s.Hide, s.SaveX, s.SaveY, ⟨s.SaveA.Fg, s.SaveA.Bg, s.SaveA.Bold, s.SaveA.Under, s.SaveA.Turn⟩, SlD.of ho27, s.Limit, SlD.ofN ho48⟩, _, rfl, (St.keep1 (St.perm hs67 (L' := L65 ++ _) (perm_front (A := [_, _, _]) (List.Perm.refl _)))), ?_, ?_⟩
  · exact (by exact ho66)
  · rw [← keepOne_all (by have h9 := qh52; simp only [List.length_append, List.length_singleton] at h9; show (s.Back.xs.map RowR.dat).length + 1 ≤ s.Limit.toNat; rw [List.length_map]; omega), ← hrow]; simp only [ScrR.dat, List.map_append]; rfl
end Go.Proofs.YtlmcekfdlgkffaaGreat
