/- Walks of Go functions, printed by a program (wip/gen). -/
import Derived.Test.YtlmcekfdlgkffaaGreatX2
namespace Go.Proofs.YtlmcekfdlgkffaaGreat
open Go Go.RowKit
set_option linter.unusedVariables false
set_option linter.unusedSimpArgs false
theorem c_slices_Delete_impl_Row_impl_Row (v_s : Value) (s : List RowR) (L_s : Hp) (i : Int) (j : Int) (w : World) (o_s : OwnN encRowR ownRowR 111 v_s s L_s) (h_s : ∀ p, p ∈ L_s → w.heap[p.1]? = some p.2) (hd_ : ((L_s).map (·.1)).Nodup) (hi : i = 0) (hj : 0 < j ∧ j ≤ s.length) (hn : s.length ≤ 549755813888) :
    Calls Tryz.prog 224 #[v_s, i64 i, i64 j] w fun e w' => ∃ A c n xs L1, e = .returned (.slice A n c) ∧ St w (L_s.map (·.1)) L1 w' ∧ OwnN encRowR ownRowR 111 (.slice A n c) xs L1 ∧ xs = s.drop j.toNat := by
 obtain ⟨A_s, c_s, rfl⟩ := o_s.shape
 refine enter (vs := [.slice A_s s.length c_s, i64 i, i64 j]) 33 Tryz.func224 rfl Tryz.ntmps224 rfl rfl ?_
 have hs1 := St.takes1 w L_s h_s hd_
 refine WC.rr tbk hs1 [] rfl trivial ?_
 refine WC.sr ?_
 refine WL.run tbk 5 hs1 [] rfl trivial ?_
 have hc_ := OwnN.cap o_s
 refine WL.val rfl rfl rfl (Run.slice3 0 j.toNat s.length Tryz.runUnderlying42 Tryz.sizeOf111 rfl rfl rfl rfl rfl ?_ ?_ ?_ ?_) ?_
 · omega
 · omega
 · rfl
 · omega
 refine WL.nil ?_
 refine WC.seq (fun K2 hK2 => ?_)
 refine WC.rr tbk hs1 [] rfl trivial ?_
 refine WC.cond rfl (fun h3 => ?_) (fun h3 => ?_)
 ·have qh3 := h3
  try simp only [bf, within_iff, within_not] at qh3
  exfalso; omega
 ·have qh3 := h3
  try simp only [bf, within_iff, within_not] at qh3
  refine WC.skip ?_
  refine hK2 _ _ ?_
  refine WC.sr ?_
  obtain ⟨L4, L5, hs8, ho6, ho7⟩ := OwnN.open_ hs1 o_s
  refine WL.run tbk 3 hs8 [] rfl trivial ?_
  refine WL.nil ?_
  refine WC.seq (fun K9 hK9 => ?_)
  refine WC.regionH2 (fun w' => St _ _ _ w') (fun w' => St _ _ _ w') mixed (St.drew (St.drop hs8 (List.sublist_append_right L4 _))) (St.drew hs8) (fun whs10 hs10 => ?_)
  replace hs10 : St _ _ _ _ := hs10
  refine WH.take 0 rfl (by kernel_rfl) rfl rfl rfl (St.drop hs10 (List.sublist_append_right L4 _)) (fun w_ hs_ => (Run.move rfl rfl)) ?_
  refine WH.take 1 rfl (by kernel_rfl) rfl rfl rfl (St.drop hs10 (List.sublist_append_right L4 _)) (fun w_ hs_ => (Run.move rfl rfl)) ?_
  refine WH.take 2 rfl (by kernel_rfl) rfl rfl rfl (St.drop hs10 (List.sublist_append_right L4 _)) (fun w_ hs_ => (Run.sliceH0 0 Tryz.runUnderlying42 Tryz.sizeOf111 rfl rfl rfl ?_ ?_)) ?_
  · exact hi
  · exact Nat.zero_le _
  refine WH.take 3 rfl (by kernel_rfl) rfl rfl rfl (St.drop hs10 (List.sublist_append_right L4 _)) (fun w_ hs_ => (Run.move rfl rfl)) ?_
  refine WH.take 4 rfl (by kernel_rfl) rfl rfl rfl (St.drop hs10 (List.sublist_append_right L4 _)) (fun w_ hs_ => (Run.move rfl rfl)) ?_
  have hc_ := OwnF.cap ho6
  refine WH.take 5 rfl (by kernel_rfl) rfl rfl rfl (St.drop hs10 (List.sublist_append_right L4 _)) (fun w_ hs_ => (Run.sliceL (j.toNat) Tryz.runUnderlying42 Tryz.sizeOf111 rfl rfl rfl ?_ ?_)) ?_
  · first | rfl | (omega)
  · refine ⟨?_, ?_, ?_⟩ <;> (omega)
  refine WH.all [6] (by kernel_rfl) rfl (WHs.cons (i := 6) rfl ?_ WHs.nil)
  refine WL.appendR hs10 (OwnF.take (k := 0) ho6 (Nat.zero_le _)) (SlF.src (SlF.cutL (j.toNat) (SlF.ofOwn ho6 (fun p_ hp_ => (hs10.own p_ (List.mem_append_left _ hp_)).1)) (by refine ⟨?_, ?_, ?_⟩ <;> (omega))) Tryz.underlying42) Tryz.underlying42 info_111 rfl rfl rfl rfl rfl rfl rfl ?_ ?_ (fun L11 whs12 hs12 ho13 => ?_)
  · rw [List.length_drop]; omega
  · omega
  have hdl : 0 + (s.drop j.toNat).length = s.length - j.toNat := by rw [List.length_drop]; omega
  rw [hdl, List.take_zero, List.nil_append] at ho13
  rw [hdl]
  refine WL.nil ⟨(St.drop hs12 (List.sublist_append_right L11 _)), ?_⟩
  refine WH.take 7 rfl (by kernel_rfl) rfl rfl rfl (St.drop hs12 (List.sublist_append_right L11 _)) (fun w_ hs_ => (Run.assign rfl rfl)) ?_
  refine WH.done (by kernel_rfl) ?_
  refine hK9 _ _ ?_
  refine WC.sr ?_
  refine WL.run tbk 4 hs12 [] rfl trivial ?_
  refine WL.val rfl rfl rfl (Run.sliceT (s.length - j.toNat) s.length Tryz.runUnderlying42 Tryz.sizeOf111 rfl rfl rfl rfl ?_ ?_ ?_) ?_
  · omega
  · omega
  · omega
  refine WL.clearT hs12 ho13 Tryz.underlying42 Tryz.zeroValue111 rfl rfl rfl rfl rfl ?_ (fun L14 whs15 hs15 ho16 => ?_)
  · omega
  refine WL.nil ?_
  refine WC.rr tbk hs15 [] rfl trivial ?_
  refine WC.ret ?_
  refine retV1 rfl (resV.tmp rfl) ?_
  obtain ⟨L17, hs18, ho19⟩ := OwnN.foldD (St.perm (St.perm hs15 (L' := L5 ++ _) (perm_front (A := L14) (List.Perm.refl _))) (L' := L14 ++ _) (perm_front (A := L5) (List.Perm.refl _))) ho16 ho7
  exact ⟨_, _, _, _, _, rfl, St.keep1 hs18, ho19, rfl⟩
end Go.Proofs.YtlmcekfdlgkffaaGreat
