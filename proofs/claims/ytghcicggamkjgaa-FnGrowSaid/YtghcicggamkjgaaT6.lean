/- Walks of Go functions, printed by a program (wip/gen). -/
import Derived.Test.YtghcicggamkjgaaT5
import Derived.Test.YtghcicggamkjgaaT4
namespace Go.Proofs.Ytghcicggamkjgaa
open Go Go.RowKit
set_option linter.unusedVariables false
set_option linter.unusedSimpArgs false
theorem c_impl_Swap (A_t : Option Addr) (n_t c_t : Nat) (t : List NodeD) (a : Int) (b : Int) (w : World) (f_t : SlF encNode w A_t n_t t) (hn : n_t ≤ 268435456) :
    Calls Try.prog 31 #[.slice A_t n_t c_t, i64 a, i64 b] w fun e w' => ∃ A c L1, e = .returned (.tuple #[.slice A (swapL t a b).length c, .bool (swapOk t a b)]) ∧ St w [] L1 w' ∧ OwnF encNode 62 (.slice A (swapL t a b).length c) (swapL t a b) L1 := by
  refine enter (vs := [.slice A_t n_t c_t, i64 a, i64 b]) 41 Try.func31 rfl Try.ntmps31 rfl rfl ?_
  have hs1 := St.init w
  refine WC.seq (fun K2 hK2 => ?_)
  refine WC.region ?_
  refine WL.val rfl rfl rfl (Run.assign rfl rfl) ?_
  refine WL.val rfl rfl rfl (Run.assign rfl rfl) ?_
  refine WL.nil ?_
  refine tkN ?_
  refine hK2 _ _ ?_
  clear hK2
  refine WC.seq (fun K3 hK3 => ?_)
  refine WC.region ?_
  refine WL.val rfl rfl rfl (Run.move rfl rfl) ?_
  refine WL.val rfl rfl rfl (Run.move rfl rfl) ?_
  refine WL.call rfl rfl rfl (Run.call Try.call65 rfl rfl rfl) (c_impl_leafAt _ _ _ _ _ _ (SlF.st0 f_t hs1) ?_) ?_
  · first | assumption | rfl | omega
  rintro _ whs4 ⟨rfl, hs4⟩
  replace hs4 := hs1.call0 hs4
  refine ⟨_, rfl, ?_⟩
  refine WL.val rfl rfl rfl (Run.move rfl rfl) ?_
  refine WL.val rfl rfl rfl (Run.move rfl rfl) ?_
  refine WL.call rfl rfl rfl (Run.call Try.call65 rfl rfl rfl) (c_impl_leafAt _ _ _ _ _ _ (SlF.st0 f_t hs4) ?_) ?_
  · first | assumption | rfl | omega
  rintro _ whs5 ⟨rfl, hs5⟩
  replace hs5 := hs4.call0 hs5
  refine ⟨_, rfl, ?_⟩
  refine WL.val rfl rfl rfl (Run.assign rfl rfl) ?_
  refine WL.val rfl rfl rfl (Run.assign rfl rfl) ?_
  refine WL.nil ?_
  refine tkN ?_
  refine hK3 _ _ ?_
  clear hK3
  refine WC.seq (fun K6 hK6 => ?_)
  refine WC.seq (fun K7 hK7 => ?_)
  refine WC.region ?_
  refine WL.val rfl rfl rfl (Run.move rfl rfl) ?_
  refine WL.call rfl rfl rfl (Run.call Try.call20 rfl rfl rfl) (c_impl_TreeOk _ _ _ _ _ (SlF.st0 f_t hs5) ?_) ?_
  · first | assumption | rfl | omega
  rintro _ whs8 ⟨rfl, hs8⟩
  replace hs8 := hs5.call0 hs8
  refine ⟨_, rfl, ?_⟩
  refine WL.val rfl rfl rfl (Run.not rfl rfl) ?_
  refine WL.val rfl rfl rfl (Run.move rfl rfl) ?_
  apply WL.meetOr 3 20 23 [(0, _), (1, _), (2, _), (6, _), (7, _), (8, _), (9, _), (11, _), (12, _), (13, _), (14, _), (15, _), (16, _)] rfl hs8
  · intro g9 J10
    have qg9 := g9
    try simp only [decide_eq_true_eq, decide_eq_false_iff_not, Bool.not_eq_true', Bool.not_eq_false'] at qg9
    refine WL.val (wantF rfl g9) rfl rfl (Run.move rfl rfl) ?_
    refine WL.val (wantF rfl g9) rfl rfl (Run.lss rfl rfl rfl) ?_
    refine WL.val rfl rfl rfl (Run.pickF rfl rfl g9 rfl) ?_
    exact WL.fin J10 hs8 rfl (orF g9) ⟨rfl, rfl, rfl, rfl, rfl, rfl, rfl, rfl, rfl, rfl, rfl, rfl, rfl, trivial⟩
  · intro g9 J10
    refine WL.skip (wantNF rfl g9) rfl rfl ?_
    refine WL.skip (wantNF rfl g9) rfl rfl ?_
    refine WL.val rfl rfl rfl (Run.pickT rfl rfl g9 rfl) ?_
    exact WL.fin J10 hs8 rfl (orT g9) ⟨rfl, rfl, rfl, rfl, rfl, rfl, rfl, rfl, rfl, rfl, rfl, rfl, rfl, trivial⟩
  · intro whs11 hs11
    refine WL.val rfl rfl rfl (Run.move rfl rfl) ?_
    apply WL.meetOr 3 24 27 [(0, _), (1, _), (2, _), (6, _), (7, _), (8, _), (9, _), (11, _), (12, _), (13, _), (14, _), (15, _), (16, _)] rfl hs11
    · intro g12 J13
      have qg12 := g12
      try simp only [decide_eq_true_eq, decide_eq_false_iff_not, Bool.not_eq_true', Bool.not_eq_false'] at qg12
      refine WL.val (wantF rfl g12) rfl rfl (Run.move rfl rfl) ?_
      refine WL.val (wantF rfl g12) rfl rfl (Run.lss rfl rfl rfl) ?_
      refine WL.val rfl rfl rfl (Run.pickF rfl rfl g12 rfl) ?_
      exact WL.fin J13 hs11 rfl (orF g12) ⟨rfl, rfl, rfl, rfl, rfl, rfl, rfl, rfl, rfl, rfl, rfl, rfl, rfl, trivial⟩
    · intro g12 J13
      refine WL.skip (wantNF rfl g12) rfl rfl ?_
      refine WL.skip (wantNF rfl g12) rfl rfl ?_
      refine WL.val rfl rfl rfl (Run.pickT rfl rfl g12 rfl) ?_
      exact WL.fin J13 hs11 rfl (orT g12) ⟨rfl, rfl, rfl, rfl, rfl, rfl, rfl, rfl, rfl, rfl, rfl, rfl, rfl, trivial⟩
    · intro whs14 hs14
      refine WL.nil ?_
      refine tkN ?_
      refine hK7 _ _ ?_
      clear hK7
      refine WC.cond rfl (fun h15 => ?_) (fun h15 => ?_)
      · have qh15 := h15
        try simp only [decide_eq_true_eq, decide_eq_false_iff_not, Bool.not_eq_true', Bool.not_eq_false', Bool.and_eq_true, Bool.or_eq_false_iff, within_iff, within_not] at qh15
        have hk : swapOk t a b = false := by
          cases hh : swapOk t a b with
          | false => rfl
          | true =>
            simp [swapOk] at hh
            simp [hh] at qh15
            omega
        refine WC.seq (fun K16 hK16 => ?_)
        refine WC.region ?_
        refine WL.val rfl rfl rfl (Run.assign rfl rfl) ?_
        refine WL.val rfl rfl rfl (Run.assign rfl rfl) ?_
        refine WL.nil ?_
        refine tkN ?_
        refine hK16 _ _ ?_
        clear hK16
        refine WC.ret ?_
        refine tkR ?_
        clear hK6
        refine retV2 rfl (resV.tmp rfl) (resV.tmp rfl) ?_
        rw [hk]
        have hx_ := OwnF.eqOf (xs := swapL t a b) (OwnF.nil encNode 62) (by simp [swapL, hk])
        rw [← hx_]
        exact ⟨_, _, _, rfl, hs14.nil, (OwnF.nil encNode 62)⟩
      · have qh15 := h15
        try simp only [decide_eq_true_eq, decide_eq_false_iff_not, Bool.not_eq_true', Bool.not_eq_false', Bool.and_eq_true, Bool.or_eq_false_iff, within_iff, within_not] at qh15
        have hk : swapOk t a b = true := by simp at qh15; simp [swapOk, qh15]
        have hla := atL_lt t a
        have hlb := atL_lt t b
        have hk2 := hk
        simp [swapOk] at hk2
        have hl := f_t.len
        refine WC.skip ?_
        refine tkN ?_
        refine hK6 _ _ ?_
        clear hK6
        refine WC.seq (fun K17 hK17 => ?_)
        refine WC.region ?_
        refine WL.val rfl rfl rfl (Run.move rfl rfl) ?_
        refine WL.call rfl rfl rfl (Run.call Try.call66 rfl rfl rfl) (c_slices_Clone_impl_Node_impl_Node _ _ _ _ _ (SlF.st0 f_t hs14) ?_) ?_
        · first | assumption | rfl | omega
        rintro _ whs18 ⟨A19, c20, L121, rfl, hs18, ho22⟩
        replace hs18 := hs14.callF hs18
        refine ⟨_, rfl, ?_⟩
        refine WL.val rfl rfl rfl (Run.assign rfl rfl) ?_
        refine WL.nil ?_
        refine tkN ?_
        refine hK17 _ _ ?_
        clear hK17
        refine WC.seq (fun K23 hK23 => ?_)
        refine WC.region ?_
        refine WL.val rfl rfl rfl (Run.move rfl rfl) ?_
        refine WL.val rfl rfl rfl (Run.move rfl rfl) ?_
        refine WL.val rfl rfl rfl (Run.move rfl rfl) ?_
        refine WL.val rfl rfl rfl (Run.move rfl rfl) ?_
        refine WL.val rfl rfl rfl (Run.move rfl rfl) ?_
        refine WL.val rfl rfl rfl (Run.move rfl rfl) ?_
        refine WL.val rfl rfl rfl (Run.idxK ((atL t a).toNat) Try.runUnderlying25 Try.sizeOf62 rfl rfl rfl ?_ ?_ ?_) ?_
        · exact SlF.some_ (SlF.ofOwn ho22 (fun p_ hp_ => (hs18.own p_ (List.mem_append_left _ hp_)).1))
        · omega
        · omega
        refine WL.val rfl rfl rfl (Run.fieldO Try.runUnderlying62 rfl rfl rfl Try.sizeOf3 rfl) ?_
        refine WL.storeF (x' := ⟨b, (gat encNode t (atL t a).toNat).Down, (gat encNode t (atL t a).toNat).First⟩) hs18 ho22 Try.sizeOf3 rfl rfl rfl rfl rfl rfl rfl rfl rfl ?_ rfl (fun L24 whs25 hs25 ho26 _ => ?_)
        · omega
        refine WL.val rfl rfl rfl (Run.idxK ((atL t b).toNat) Try.runUnderlying25 Try.sizeOf62 rfl rfl rfl ?_ ?_ ?_) ?_
        · exact SlF.some_ (SlF.ofOwn ho26 (fun p_ hp_ => (hs25.own p_ (List.mem_append_left _ hp_)).1))
        · omega
        · omega
        refine WL.val rfl rfl rfl (Run.fieldO Try.runUnderlying62 rfl rfl rfl Try.sizeOf3 rfl) ?_
        refine WL.storeF (x' := ⟨a, (gat encNode (setPane t (atL t a).toNat b) (atL t b).toNat).Down, (gat encNode (setPane t (atL t a).toNat b) (atL t b).toNat).First⟩) hs25 ho26 Try.sizeOf3 rfl rfl rfl rfl rfl rfl rfl rfl rfl ?_ rfl (fun L27 whs28 hs28 ho29 _ => ?_)
        · omega
        refine WL.nil ?_
        refine tkN ?_
        refine hK23 _ _ ?_
        clear hK23
        refine WC.seq (fun K30 hK30 => ?_)
        refine WC.region ?_
        refine WL.val rfl rfl rfl (Run.move rfl rfl) ?_
        refine WL.val rfl rfl rfl (Run.assign rfl rfl) ?_
        refine WL.val rfl rfl rfl (Run.assign rfl rfl) ?_
        refine WL.nil ?_
        refine tkN ?_
        refine hK30 _ _ ?_
        clear hK30
        refine WC.ret ?_
        refine retV2 rfl (resV.tmp rfl) (resV.tmp rfl) ?_
        rw [hk]
        have hx_ := OwnF.eqOf (xs := swapL t a b) ho29 (by simp only [swapL, hk, if_true]; rfl)
        rw [← hx_]
        first | exact ⟨_, _, _, rfl, (St.keep1 hs28), ho29⟩ | exact ⟨A19, c20, _, by rw [OwnF.len_ ho29], (St.keep1 hs28), by rw [OwnF.len_ ho29]; exact ho29⟩
end Go.Proofs.Ytghcicggamkjgaa
