/- Walks of Go functions, printed by a program (wip/gen). -/
import Derived.Test.YtghcicggamkjgaaN5
import Derived.Test.YtghcicggamkjgaaT6
namespace Go.Proofs.Ytghcicggamkjgaa
open Go Go.RowKit
set_option linter.unusedVariables false
set_option linter.unusedSimpArgs false
theorem c_slices_Grow_impl_Node_impl_Node (n : Nat) (w : World) (hn : n ≤ 268435456) :
    Calls Try.prog 89 #[.slice none 0 0, .int .i64 n] w fun e w' => ∃ A c L1, e = .returned (.slice A 0 c) ∧ St w [] L1 w' ∧ OwnF encNode 62 (.slice A 0 c) [] L1 := by
  refine enter (vs := [.slice none 0 0, .int .i64 n]) 27 Try.func89 rfl Try.ntmps89 rfl rfl ?_
  have hs1 := St.init w
  refine WC.seq (fun K2 hK2 => ?_)
  refine WC.region ?_
  refine WL.val rfl rfl rfl (Run.assign rfl rfl) ?_
  refine WL.nil ?_
  refine tkN ?_
  refine hK2 _ _ ?_
  clear hK2
  refine WC.seq (fun K3 hK3 => ?_)
  refine WC.seq (fun K4 hK4 => ?_)
  refine WC.region ?_
  refine WL.val rfl rfl rfl (Run.move rfl rfl) ?_
  refine WL.val rfl rfl rfl (Run.lss rfl rfl rfl) ?_
  refine WL.nil ?_
  refine tkN ?_
  refine hK4 _ _ ?_
  clear hK4
  refine WC.condF rfl (by simp) ?_
  refine WC.skip ?_
  refine tkN ?_
  refine hK3 _ _ ?_
  clear hK3
  refine WC.seq (fun K6 hK6 => ?_)
  refine WC.seq (fun K7 hK7 => ?_)
  refine WC.region ?_
  refine WL.val rfl rfl rfl (Run.move rfl rfl) ?_
  refine WL.val rfl rfl rfl (Run.move rfl rfl) ?_
  refine WL.val rfl rfl rfl (Run.capSl Try.runUnderlying25 rfl rfl) ?_
  refine WL.val rfl rfl rfl (Run.move rfl rfl) ?_
  refine WL.val rfl rfl rfl (Run.lenSl Try.runUnderlying25 rfl rfl) ?_
  refine WL.val rfl rfl rfl (Run.sub rfl rfl rfl ?_) ?_
  · constructor <;> omega
  refine WL.val rfl rfl rfl (Run.sub rfl rfl rfl ?_) ?_
  · constructor <;> omega
  refine WL.val rfl rfl rfl (Run.assign rfl rfl) ?_
  refine WL.nil ?_
  refine tkN ?_
  refine hK7 _ _ ?_
  clear hK7
  refine WC.seq (fun K8 hK8 => ?_)
  refine WC.region ?_
  refine WL.val rfl rfl rfl (Run.move rfl rfl) ?_
  refine WL.val rfl rfl rfl (Run.gtr rfl rfl rfl) ?_
  refine WL.nil ?_
  refine tkN ?_
  refine hK8 _ _ ?_
  clear hK8
  refine WC.cond rfl (fun h9 => ?_) (fun h9 => ?_)
  · have qh9 := h9
    try simp only [decide_eq_true_eq, decide_eq_false_iff_not, Bool.not_eq_true', Bool.not_eq_false', Bool.and_eq_true, Bool.or_eq_false_iff, within_iff, within_not] at qh9
    refine WC.region ?_
    refine WL.val rfl rfl rfl (Run.move rfl rfl) ?_
    refine WL.val rfl rfl rfl (Run.move rfl rfl) ?_
    refine WL.val rfl rfl rfl (Run.capSl Try.runUnderlying25 rfl rfl) ?_
    refine WL.val rfl rfl rfl (Run.sliceH0 (0) Try.runUnderlying25 Try.sizeOf62 rfl rfl rfl ?_ ?_) ?_
    · first | rfl | (omega)
    · first | (exact Nat.zero_le _) | (omega)
    refine WL.val rfl rfl rfl (Run.move rfl rfl) ?_
    refine WL.appendZ (F := encNode) (n) hs1 Try.underlying25 Try.underlying3 info_62 rfl rfl rfl rfl rfl rfl rfl rfl rfl rfl ?_ ?_ ?_ (fun A13 c14 L10 whs11 _ hs11 ho12 => ?_)
    · first | rfl | (omega)
    · omega
    · omega
    refine WL.val rfl rfl rfl (Run.move rfl rfl) ?_
    refine WL.val rfl rfl rfl (Run.lenSl Try.runUnderlying25 rfl rfl) ?_
    refine WL.val rfl rfl rfl (Run.sliceH0 (0) Try.runUnderlying25 Try.sizeOf62 rfl rfl rfl ?_ ?_) ?_
    · first | rfl | (omega)
    · first | (exact Nat.zero_le _) | (omega)
    refine WL.val rfl rfl rfl (Run.assign rfl rfl) ?_
    refine WL.nil ?_
    refine tkN ?_
    refine hK6 _ _ ?_
    clear hK6
    refine WC.seq (fun K15 hK15 => ?_)
    refine WC.region ?_
    refine WL.val rfl rfl rfl (Run.move rfl rfl) ?_
    refine WL.val rfl rfl rfl (Run.assign rfl rfl) ?_
    refine WL.nil ?_
    refine tkN ?_
    refine hK15 _ _ ?_
    clear hK15
    refine WC.ret ?_
    refine retV1 rfl (resV.tmp rfl) ?_
    exact ⟨_, _, _, rfl, (St.keep1 hs11), ho12⟩
  · have qh9 := h9
    try simp only [decide_eq_true_eq, decide_eq_false_iff_not, Bool.not_eq_true', Bool.not_eq_false', Bool.and_eq_true, Bool.or_eq_false_iff, within_iff, within_not] at qh9
    refine WC.skip ?_
    refine tkN ?_
    refine hK6 _ _ ?_
    clear hK6
    refine WC.seq (fun K16 hK16 => ?_)
    refine WC.region ?_
    refine WL.val rfl rfl rfl (Run.move rfl rfl) ?_
    refine WL.val rfl rfl rfl (Run.assign rfl rfl) ?_
    refine WL.nil ?_
    refine tkN ?_
    refine hK16 _ _ ?_
    clear hK16
    refine WC.ret ?_
    refine retV1 rfl (resV.tmp rfl) ?_
    exact ⟨_, _, _, rfl, hs1.nil, OwnF.nil encNode 62⟩
theorem c_slices_Concat_impl_Node_impl_Node (A_s : Option Addr) (n_s c_s : Nat) (hs : List HdrD) (xss : List (List NodeD)) (w : World) (f_s : SlF encH w A_s n_s hs) (hf : ∀ i, i < n_s → SlF encNode w (gat encH hs i).A (gat encH hs i).n (xss.getD i [])) (hl : xss.length = n_s) (ht : xss.flatten.length ≤ 268435456) (hn : n_s ≤ 1000) :
    Calls Try.prog 69 #[.slice A_s n_s c_s] w fun e w' => ∃ A c L1, e = .returned (.slice A (xss.flatten).length c) ∧ St w [] L1 w' ∧ OwnF encNode 62 (.slice A (xss.flatten).length c) (xss.flatten) L1 := by
  refine enter (vs := [.slice A_s n_s c_s]) 36 Try.func69 rfl Try.ntmps69 rfl rfl ?_
  have hs1 := St.init w
  refine WC.seq (fun K2 hK2 => ?_)
  refine WC.region ?_
  refine WL.val rfl rfl rfl (Run.assign rfl rfl) ?_
  refine WL.nil ?_
  refine tkN ?_
  refine hK2 _ _ ?_
  clear hK2
  refine WC.seq (fun K3 hK3 => ?_)
  refine WC.region ?_
  refine WL.val rfl rfl rfl (Run.assign rfl rfl) ?_
  refine WL.nil ?_
  refine tkN ?_
  refine hK3 _ _ ?_
  clear hK3
  refine WC.seq (fun K4 hK4 => ?_)
  refine WC.seq (fun K5 hK5 => ?_)
  refine WC.region ?_
  refine WL.val rfl rfl rfl (Run.move rfl rfl) ?_
  refine WL.val rfl rfl rfl (Run.lenSl Try.runUnderlying93 rfl rfl) ?_
  refine WL.val rfl rfl rfl (Run.move rfl rfl) ?_
  refine WL.nil ?_
  refine tkN ?_
  refine hK5 _ _ ?_
  clear hK5
  refine WC.block ?_
  refine WC.loopS [(0, _), (2, _), (9, _), (10, _)] ⟨rfl, rfl, rfl, rfl, trivial⟩ hs1 (fun k_ f w' => ∃ (i : Nat) (q : Int), k_ = n_s - i ∧ (i ≤ n_s) ∧ (q = (((xss.take i).flatten).length : Int)) ∧ Sub [(11, .int .i64 i), (3, .int .i64 q)] f) ((fun (i : Nat) (q : Int) => n_s - i) (0) (0)) ?_ ?_
  · refine ⟨0, 0, rfl, ?_, ?_, ⟨rfl, rfl, trivial⟩⟩
    · exact Nat.zero_le _
    · simp
  · clear hs1
    rintro _ f w ⟨i, q, rfl, p0, p1, hG⟩ hF hs6
    refine WC.sub _ (hG.app hF) ?_
    clear hG hF
    have hle := flat_le (xss := xss) (i := i)
    have hle2 := flat_le (xss := xss) (i := i + 1)
    refine WC.seq (fun K7 hK7 => ?_)
    refine WC.region ?_
    refine WL.val rfl rfl rfl (Run.lss rfl rfl rfl) ?_
    refine WL.nil ?_
    refine tkN ?_
    refine hK7 _ _ ?_
    clear hK7
    refine WC.seq (fun K8 hK8 => ?_)
    refine WC.cond rfl (fun h9 => ?_) (fun h9 => ?_)
    · have qh9 := h9
      try simp only [decide_eq_true_eq, decide_eq_false_iff_not, Bool.not_eq_true', Bool.not_eq_false', Bool.and_eq_true, Bool.or_eq_false_iff, within_iff, within_not] at qh9
      have hli := (hf i (by omega)).len
      have hft := congrArg List.length (flat_take (xss := xss) (i := i) (by omega))
      simp only [List.length_append] at hft
      refine WC.skip ?_
      refine tkN ?_
      refine hK8 _ _ ?_
      clear hK8
      refine WC.seq (fun K10 hK10 => ?_)
      refine WC.block ?_
      refine WC.seq (fun K11 hK11 => ?_)
      refine WC.region ?_
      refine WL.val rfl rfl rfl (Run.idxN Try.runUnderlying93 Try.sizeOf25 rfl rfl rfl ?_ ?_ ?_) ?_
      · exact SlF.some_ (SlF.st0 f_s hs6)
      · omega
      · omega
      refine WL.val rfl rfl rfl (Run.load Try.isAgg25 rfl rfl (SlF.one1 (SlF.st0 f_s hs6) ?_ rfl)) ?_
      · omega
      refine WL.val rfl rfl rfl (Run.assign rfl rfl) ?_
      refine WL.nil ?_
      refine tkN ?_
      refine hK11 _ _ ?_
      clear hK11
      refine WC.seq (fun K12 hK12 => ?_)
      refine WC.region ?_
      refine WL.val rfl rfl rfl (Run.move rfl rfl) ?_
      refine WL.val rfl rfl rfl (Run.move rfl rfl) ?_
      refine WL.val rfl rfl rfl (Run.lenSl Try.runUnderlying25 rfl rfl) ?_
      refine WL.val rfl rfl rfl (Run.add rfl rfl rfl ?_) ?_
      · constructor <;> omega
      refine WL.val rfl rfl rfl (Run.assign rfl rfl) ?_
      refine WL.nil ?_
      refine tkN ?_
      refine hK12 _ _ ?_
      clear hK12
      refine WC.seq (fun K13 hK13 => ?_)
      refine WC.region ?_
      refine WL.val rfl rfl rfl (Run.move rfl rfl) ?_
      refine WL.val rfl rfl rfl (Run.lss rfl rfl rfl) ?_
      refine WL.nil ?_
      refine tkN ?_
      refine hK13 _ _ ?_
      clear hK13
      refine WC.condF rfl (by simp; omega) ?_
      refine WC.skip ?_
      refine ibN ?_
      refine tkN ?_
      refine hK10 _ _ ?_
      clear hK10
      refine WC.region ?_
      refine WL.val rfl rfl rfl (Run.add rfl rfl rfl ?_) ?_
      · constructor <;> omega
      refine WL.val rfl rfl rfl (Run.move rfl rfl) ?_
      refine WL.nil ?_
      refine tkN ?_
      refine ⟨⟨rfl, rfl, rfl, rfl, trivial⟩, hs6, _, ?_, i + 1, _, rfl, ?_, ?_, ⟨rfl, rfl, trivial⟩⟩
      · omega
      · omega
      · rw [flat_take (by omega), List.length_append, p1, (hf i (by omega)).len]; simp
    · have qh9 := h9
      try simp only [decide_eq_true_eq, decide_eq_false_iff_not, Bool.not_eq_true', Bool.not_eq_false', Bool.and_eq_true, Bool.or_eq_false_iff, within_iff, within_not] at qh9
      have hqf : xss.take i = xss := List.take_of_length_le (by omega)
      rw [hqf] at p1
      subst p1
      refine WC.exit ?_
      refine tkE ?_
      refine tkE ?_
      refine ibE ?_
      refine tkN ?_
      refine hK4 _ _ ?_
      clear hK4
      refine WC.seq (fun K15 hK15 => ?_)
      refine WC.region ?_
      refine WL.val rfl rfl rfl (Run.move rfl rfl) ?_
      refine WL.call rfl rfl rfl (Run.call Try.call89 rfl rfl rfl) (c_slices_Grow_impl_Node_impl_Node (xss.flatten.length) _ ?_) ?_
      · omega
      rintro _ whs16 ⟨A17, c18, L119, rfl, hs16, ho20⟩
      replace hs16 := hs6.callF hs16
      refine ⟨_, rfl, ?_⟩
      refine WL.val rfl rfl rfl (Run.assign rfl rfl) ?_
      refine WL.nil ?_
      refine tkN ?_
      refine hK15 _ _ ?_
      clear hK15
      refine WC.seq (fun K21 hK21 => ?_)
      refine WC.seq (fun K22 hK22 => ?_)
      refine WC.region ?_
      refine WL.val rfl rfl rfl (Run.move rfl rfl) ?_
      refine WL.val rfl rfl rfl (Run.lenSl Try.runUnderlying93 rfl rfl) ?_
      refine WL.val rfl rfl rfl (Run.move rfl rfl) ?_
      refine WL.nil ?_
      refine tkN ?_
      refine hK22 _ _ ?_
      clear hK22
      refine WC.block ?_
      refine WC.loopO [(0, _), (2, _), (3, _), (9, _), (10, _), (11, _), (12, _), (23, _), (24, _), (25, _), (26, _)] ⟨rfl, rfl, rfl, rfl, rfl, rfl, rfl, rfl, rfl, rfl, rfl, trivial⟩ hs16 (fun k_ f L_ => ∃ (zs : List NodeD) (i : Nat) (A23 : Option Addr) (c24 : Nat), k_ = n_s - i ∧ (i ≤ n_s) ∧ (zs = (xss.take i).flatten) ∧ OwnF encNode 62 (.slice A23 (zs.length) c24) (zs) L_ ∧ Sub [(6, .slice A23 (zs.length) c24), (27, .int .i64 i)] f) (((fun (zs : List NodeD) (i : Nat) => n_s - i) ([]) (0))) ?_ ?_
      · refine ⟨[], 0, _, _, rfl, ?_, ?_, ho20, ⟨rfl, rfl, trivial⟩⟩
        · exact Nat.zero_le _
        · simp
      · clear hs16
        rintro _ f w L25 ⟨zs, i, A23, c24, rfl, p0, p1, ho26, hG⟩ hF hs27
        refine WC.sub _ (hG.app hF) ?_
        clear hG hF
        have hle := flat_le (xss := xss) (i := i)
        have hle2 := flat_le (xss := xss) (i := i + 1)
        refine WC.seq (fun K28 hK28 => ?_)
        refine WC.region ?_
        refine WL.val rfl rfl rfl (Run.lss rfl rfl rfl) ?_
        refine WL.nil ?_
        refine tkN ?_
        refine hK28 _ _ ?_
        clear hK28
        refine WC.seq (fun K29 hK29 => ?_)
        refine WC.cond rfl (fun h30 => ?_) (fun h30 => ?_)
        · have qh30 := h30
          try simp only [decide_eq_true_eq, decide_eq_false_iff_not, Bool.not_eq_true', Bool.not_eq_false', Bool.and_eq_true, Bool.or_eq_false_iff, within_iff, within_not] at qh30
          have hli := (hf i (by omega)).len
          have hft := congrArg List.length (flat_take (xss := xss) (i := i) (by omega))
          simp only [List.length_append] at hft
          refine WC.skip ?_
          refine tkN ?_
          refine hK29 _ _ ?_
          clear hK29
          refine WC.seq (fun K31 hK31 => ?_)
          refine WC.block ?_
          refine WC.seq (fun K32 hK32 => ?_)
          refine WC.region ?_
          refine WL.val rfl rfl rfl (Run.idxN Try.runUnderlying93 Try.sizeOf25 rfl rfl rfl ?_ ?_ ?_) ?_
          · exact SlF.some_ (SlF.st0 f_s hs27)
          · omega
          · omega
          refine WL.val rfl rfl rfl (Run.load Try.isAgg25 rfl rfl (SlF.one1 (SlF.st0 f_s hs27) ?_ rfl)) ?_
          · omega
          refine WL.val rfl rfl rfl (Run.assign rfl rfl) ?_
          refine WL.nil ?_
          refine tkN ?_
          refine hK32 _ _ ?_
          clear hK32
          refine WC.region ?_
          refine WL.val rfl rfl rfl (Run.move rfl rfl) ?_
          refine WL.val rfl rfl rfl (Run.move rfl rfl) ?_
          refine WL.appendG hs27 ho26 (SlF.src (SlF.st0 (hf i (by omega)) hs27) Try.underlying25) Try.underlying25 info_62 rfl rfl rfl rfl rfl rfl rfl rfl rfl rfl ?_ (fun A36 c37 L33 whs34 hs34 ho35 => ?_)
          · rw [p1]; omega
          refine WL.val rfl rfl rfl (Run.assign rfl rfl) ?_
          refine WL.nil ?_
          refine ibN ?_
          refine tkN ?_
          refine hK31 _ _ ?_
          clear hK31
          refine WC.region ?_
          refine WL.val rfl rfl rfl (Run.add rfl rfl rfl ?_) ?_
          · constructor <;> omega
          refine WL.val rfl rfl rfl (Run.move rfl rfl) ?_
          refine WL.nil ?_
          refine tkN ?_
          refine ⟨⟨rfl, rfl, rfl, rfl, rfl, rfl, rfl, rfl, rfl, rfl, rfl, trivial⟩, _, hs34, _, ?_, _, i + 1, _, _, rfl, ?_, ?_, ho35, ⟨rfl, rfl, trivial⟩⟩
          · omega
          · omega
          · rw [flat_take (by omega), p1]
        · have qh30 := h30
          try simp only [decide_eq_true_eq, decide_eq_false_iff_not, Bool.not_eq_true', Bool.not_eq_false', Bool.and_eq_true, Bool.or_eq_false_iff, within_iff, within_not] at qh30
          refine WC.exit ?_
          refine tkE ?_
          refine tkE ?_
          refine ibE ?_
          refine tkN ?_
          refine hK21 _ _ ?_
          clear hK21
          refine WC.seq (fun K38 hK38 => ?_)
          refine WC.region ?_
          refine WL.val rfl rfl rfl (Run.move rfl rfl) ?_
          refine WL.val rfl rfl rfl (Run.assign rfl rfl) ?_
          refine WL.nil ?_
          refine tkN ?_
          refine hK38 _ _ ?_
          clear hK38
          refine WC.ret ?_
          refine retV1 rfl (resV.tmp rfl) ?_
          have hx_ := OwnF.eqOf (xs := xss.flatten) ho26 (by rw [p1, List.take_of_length_le (by omega)])
          rw [← hx_]
          first | exact ⟨_, _, _, rfl, (St.keep1 hs27), ho26⟩ | exact ⟨A23, c24, _, by rw [OwnF.len_ ho26], (St.keep1 hs27), by rw [OwnF.len_ ho26]; exact ho26⟩
theorem c_impl_splitsOver (A_t : Option Addr) (n_t c_t : Nat) (t : List NodeD) (at_ : Int) (w : World) (f_t : SlF encNode w A_t n_t t) (hn : n_t ≤ 268435456) (h0 : 0 ≤ at_) (ha : at_ ≤ n_t) :
    Calls Try.prog 68 #[.slice A_t n_t c_t, i64 at_] w fun e w' => ∃ A c L1, e = .returned (.slice A (overL (isOver t at_.toNat) at_.toNat).length c) ∧ St w [] L1 w' ∧ OwnF encI 3 (.slice A (overL (isOver t at_.toNat) at_.toNat).length c) (overL (isOver t at_.toNat) at_.toNat) L1 := by
  obtain ⟨k, rfl⟩ : ∃ k : Nat, at_ = (k : Int) := ⟨at_.toNat, by omega⟩
  have hl := f_t.len
  rw [Int.toNat_natCast]
  refine enter (vs := [.slice A_t n_t c_t, .int .i64 (k : Int)]) 31 Try.func68 rfl Try.ntmps68 rfl rfl ?_
  have hs1 := St.init w
  refine WC.seq (fun K2 hK2 => ?_)
  refine WC.region ?_
  refine WL.val rfl rfl rfl (Run.assign rfl rfl) ?_
  refine WL.nil ?_
  refine tkN ?_
  refine hK2 _ _ ?_
  clear hK2
  refine WC.seq (fun K3 hK3 => ?_)
  refine WC.region ?_
  refine WL.buildF (F := encI) hs1 ([]) Try.runUnderlying31 Try.sizeOf3 Try.zeroValue3 rfl rfl rfl rfl rfl rfl rfl rfl rfl rfl rfl rfl (fun A7 c8 L4 whs5 hs5 ho6 => ?_)
  refine WL.val rfl rfl rfl (Run.assign rfl rfl) ?_
  refine WL.nil ?_
  refine tkN ?_
  refine hK3 _ _ ?_
  clear hK3
  refine WC.seq (fun K9 hK9 => ?_)
  refine WC.seq (fun K10 hK10 => ?_)
  refine WC.region ?_
  refine WL.val rfl rfl rfl (Run.move rfl rfl) ?_
  refine WL.val rfl rfl rfl (Run.move rfl rfl) ?_
  refine WL.nil ?_
  refine tkN ?_
  refine hK10 _ _ ?_
  clear hK10
  refine WC.block ?_
  refine WC.loopO [(0, _), (1, _), (4, _), (7, _), (8, _)] ⟨rfl, rfl, rfl, rfl, rfl, trivial⟩ hs5 (fun k_ f L_ => ∃ (zs : List Int) (i : Nat) (A11 : Option Addr) (c12 : Nat), k_ = k - i ∧ (i ≤ k) ∧ (zs = overL (isOver t k) i) ∧ OwnF encI 3 (.slice A11 (zs.length) c12) (zs) L_ ∧ Sub [(5, .slice A11 (zs.length) c12), (9, .int .i64 i)] f) (((fun (zs : List Int) (i : Nat) => k - i) ([]) (0))) ?_ ?_
  · refine ⟨[], 0, _, _, rfl, ?_, ?_, ho6, ⟨rfl, rfl, trivial⟩⟩
    · exact Nat.zero_le _
    · simp [overL]
  · clear hs5
    rintro _ f w L13 ⟨zs, i, A11, c12, rfl, p0, p1, ho14, hG⟩ hF hs15
    refine WC.sub _ (hG.app hF) ?_
    clear hG hF
    have hzl : zs.length ≤ i := by rw [p1]; exact overL_len _ _
    refine WC.seq (fun K16 hK16 => ?_)
    refine WC.region ?_
    refine WL.val rfl rfl rfl (Run.lss rfl rfl rfl) ?_
    refine WL.nil ?_
    refine tkN ?_
    refine hK16 _ _ ?_
    clear hK16
    refine WC.seq (fun K17 hK17 => ?_)
    refine WC.cond rfl (fun h18 => ?_) (fun h18 => ?_)
    · have qh18 := h18
      try simp only [decide_eq_true_eq, decide_eq_false_iff_not, Bool.not_eq_true', Bool.not_eq_false', Bool.and_eq_true, Bool.or_eq_false_iff, within_iff, within_not] at qh18
      refine WC.skip ?_
      refine tkN ?_
      refine hK17 _ _ ?_
      clear hK17
      refine WC.seq (fun K19 hK19 => ?_)
      refine WC.block ?_
      refine WC.seq (fun K20 hK20 => ?_)
      refine WC.region ?_
      refine WL.val rfl rfl rfl (Run.move rfl rfl) ?_
      refine WL.val rfl rfl rfl (Run.assign rfl rfl) ?_
      refine WL.nil ?_
      refine tkN ?_
      refine hK20 _ _ ?_
      clear hK20
      refine WC.seq (fun K21 hK21 => ?_)
      refine WC.region ?_
      refine WL.val rfl rfl rfl (Run.move rfl rfl) ?_
      refine WL.val rfl rfl rfl (Run.move rfl rfl) ?_
      refine WL.val rfl rfl rfl (Run.idxN Try.runUnderlying25 Try.sizeOf62 rfl rfl rfl ?_ ?_ ?_) ?_
      · exact SlF.some_ (SlF.st0 f_t hs15)
      · omega
      · omega
      refine WL.val rfl rfl rfl (Run.loadA Try.isAgg62 Try.sizeOf62 rfl rfl (SlF.whole (SlF.st0 f_t hs15) ?_)) ?_
      · omega
      refine WL.call rfl rfl rfl (Run.call Try.call84 rfl rfl rfl) (c_impl_Node_isLeaf _ _ _ _) ?_
      rintro _ whs22 ⟨rfl, hs22⟩
      replace hs22 := hs15.call0 hs22
      refine ⟨_, rfl, ?_⟩
      refine WL.val rfl rfl rfl (Run.not rfl rfl) ?_
      refine WL.val rfl rfl rfl (Run.move rfl rfl) ?_
      apply WL.meetAnd 6 18 24 [(0, _), (1, _), (4, _), (5, _), (6, _), (7, _), (8, _), (9, _), (10, _), (11, _)] rfl hs22
      · intro g23 J24
        have qg23 := g23
        try simp only [decide_eq_true_eq, decide_eq_false_iff_not, Bool.not_eq_true', Bool.not_eq_false'] at qg23
        refine WL.val (wantT rfl g23) rfl rfl (Run.move rfl rfl) ?_
        refine WL.val (wantT rfl g23) rfl rfl (Run.move rfl rfl) ?_
        refine WL.call (wantT rfl g23) rfl rfl (Run.call Try.call56 rfl rfl rfl) (c_impl_endOf _ _ _ _ _ _ (SlF.st0 f_t hs22) ?_) ?_
        · first | assumption | rfl | omega
        rintro _ whs25 ⟨rfl, hs25⟩
        replace hs25 := hs22.call0 hs25
        refine ⟨_, rfl, ?_⟩
        refine WL.val (wantT rfl g23) rfl rfl (Run.move rfl rfl) ?_
        refine WL.val (wantT rfl g23) rfl rfl (Run.gtr rfl rfl rfl) ?_
        refine WL.val rfl rfl rfl (Run.pickT rfl rfl g23 rfl) ?_
        exact WL.fin J24 hs25 rfl (andT g23) ⟨rfl, rfl, rfl, rfl, rfl, rfl, rfl, rfl, rfl, rfl, trivial⟩
      · intro g23 J24
        refine WL.skip (wantNT rfl g23) rfl rfl ?_
        refine WL.skip (wantNT rfl g23) rfl rfl ?_
        refine WL.skip (wantNT rfl g23) rfl rfl ?_
        refine WL.skip (wantNT rfl g23) rfl rfl ?_
        refine WL.skip (wantNT rfl g23) rfl rfl ?_
        refine WL.val rfl rfl rfl (Run.pickF rfl rfl g23 rfl) ?_
        exact WL.fin J24 hs22 rfl (andF g23) ⟨rfl, rfl, rfl, rfl, rfl, rfl, rfl, rfl, rfl, rfl, trivial⟩
      · intro whs26 hs26
        refine WL.nil ?_
        refine tkN ?_
        refine hK21 _ _ ?_
        clear hK21
        refine WC.cond rfl (fun h27 => ?_) (fun h27 => ?_)
        · have qh27 := h27
          try simp only [decide_eq_true_eq, decide_eq_false_iff_not, Bool.not_eq_true', Bool.not_eq_false', Bool.and_eq_true, Bool.or_eq_false_iff, within_iff, within_not] at qh27
          have hb : isOver t k i = true := by simp only [isOver, isSplit]; simpa using h27
          refine WC.region ?_
          refine WL.val rfl rfl rfl (Run.move rfl rfl) ?_
          refine WL.val rfl rfl rfl (Run.move rfl rfl) ?_
          refine WL.buildSlice hs26 Try.runUnderlying31 Try.sizeOf3 Try.zeroValue3 rfl rfl rfl rfl rfl rfl rfl rfl rfl rfl (fun b28 whs29 hs29 => ?_)
          refine WL.appendG (St.perm hs29 (L' := L13 ++ _) (perm_front (A := [_]) (List.Perm.refl _))) ho14 (srcI1 Try.underlying31 (hs29.own _ (nthL_mem (i := 0) rfl)).1) Try.underlying31 info_3 rfl rfl rfl rfl rfl rfl rfl rfl rfl rfl ?_ (fun A33 c34 L30 whs31 hs31 ho32 => ?_)
          · simp; omega
          replace hs31 := St.back [_] hs31
          refine WL.val rfl rfl rfl (Run.assign rfl rfl) ?_
          refine WL.nil ?_
          refine ibN ?_
          refine tkN ?_
          refine hK19 _ _ ?_
          clear hK19
          refine WC.region ?_
          refine WL.val rfl rfl rfl (Run.add rfl rfl rfl ?_) ?_
          · constructor <;> omega
          refine WL.val rfl rfl rfl (Run.move rfl rfl) ?_
          refine WL.nil ?_
          refine tkN ?_
          replace hs31 := St.drop hs31 (List.sublist_append_right [_] _)
          refine ⟨⟨rfl, rfl, rfl, rfl, rfl, trivial⟩, _, hs31, _, ?_, _, i + 1, _, _, rfl, ?_, ?_, ho32, ⟨rfl, rfl, trivial⟩⟩
          · omega
          · omega
          · rw [overL_succ, p1]; first | (rw [if_pos hb]) | (rw [hb]; simp)
        · have qh27 := h27
          try simp only [decide_eq_true_eq, decide_eq_false_iff_not, Bool.not_eq_true', Bool.not_eq_false', Bool.and_eq_true, Bool.or_eq_false_iff, within_iff, within_not] at qh27
          have hb : isOver t k i = false := by simp only [isOver, isSplit]; simpa using h27
          refine WC.skip ?_
          refine ibN ?_
          refine tkN ?_
          refine hK19 _ _ ?_
          clear hK19
          refine WC.region ?_
          refine WL.val rfl rfl rfl (Run.add rfl rfl rfl ?_) ?_
          · constructor <;> omega
          refine WL.val rfl rfl rfl (Run.move rfl rfl) ?_
          refine WL.nil ?_
          refine tkN ?_
          refine ⟨⟨rfl, rfl, rfl, rfl, rfl, trivial⟩, _, hs26, _, ?_, _, i + 1, _, _, rfl, ?_, ?_, ho14, ⟨rfl, rfl, trivial⟩⟩
          · omega
          · omega
          · rw [overL_succ, p1]; first | (rw [if_pos hb]) | (rw [hb]; simp)
    · have qh18 := h18
      try simp only [decide_eq_true_eq, decide_eq_false_iff_not, Bool.not_eq_true', Bool.not_eq_false', Bool.and_eq_true, Bool.or_eq_false_iff, within_iff, within_not] at qh18
      refine WC.exit ?_
      refine tkE ?_
      refine tkE ?_
      refine ibE ?_
      refine tkN ?_
      refine hK9 _ _ ?_
      clear hK9
      refine WC.seq (fun K35 hK35 => ?_)
      refine WC.region ?_
      refine WL.val rfl rfl rfl (Run.move rfl rfl) ?_
      refine WL.val rfl rfl rfl (Run.assign rfl rfl) ?_
      refine WL.nil ?_
      refine tkN ?_
      refine hK35 _ _ ?_
      clear hK35
      refine WC.ret ?_
      refine retV1 rfl (resV.tmp rfl) ?_
      have hx_ := OwnF.eqOf (xs := overL (isOver t k) k) ho14 (by rw [p1, show i = k by omega])
      rw [← hx_]
      first | exact ⟨_, _, _, rfl, (St.keep1 hs15), ho14⟩ | exact ⟨A11, c12, _, by rw [OwnF.len_ ho14], (St.keep1 hs15), by rw [OwnF.len_ ho14]; exact ho14⟩
theorem c_spec_l13Up (A_t : Option Addr) (n_t c_t : Nat) (t : List NodeD) (at_ : Int) (w : World) (f_t : SlF encNode w A_t n_t t) (hn : n_t ≤ 268435456) (h0 : 0 ≤ at_) (ha : at_ ≤ n_t) :
    Calls Try.prog 67 #[.slice A_t n_t c_t, i64 at_] w fun e w' => e = .returned (.int .i64 (lastI (isUp t at_.toNat) at_.toNat)) ∧ St w [] [] w' := by
  obtain ⟨k0, rfl⟩ : ∃ k : Nat, at_ = (k : Int) := ⟨at_.toNat, by omega⟩
  have hl := f_t.len
  rw [Int.toNat_natCast]
  refine enter (vs := [.slice A_t n_t c_t, .int .i64 (k0 : Int)]) 33 Try.func67 rfl Try.ntmps67 rfl rfl ?_
  have hs1 := St.init w
  refine WC.seq (fun K2 hK2 => ?_)
  refine WC.region ?_
  refine WL.val rfl rfl rfl (Run.assign rfl rfl) ?_
  refine WL.nil ?_
  refine tkN ?_
  refine hK2 _ _ ?_
  clear hK2
  refine WC.seq (fun K3 hK3 => ?_)
  refine WC.seq (fun K4 hK4 => ?_)
  refine WC.region ?_
  refine WL.val rfl rfl rfl (Run.move rfl rfl) ?_
  refine WL.val rfl rfl rfl (Run.sub rfl rfl rfl ?_) ?_
  · constructor <;> omega
  refine WL.val rfl rfl rfl (Run.assign rfl rfl) ?_
  refine WL.nil ?_
  refine tkN ?_
  refine hK4 _ _ ?_
  clear hK4
  refine WC.block ?_
  refine WC.loopS [(0, _), (1, _), (6, _), (7, _)] ⟨rfl, rfl, rfl, rfl, trivial⟩ hs1 (fun k_ f w' => ∃ (q : Int) (k : Nat), k_ = k + 1 ∧ (q = (k : Int) - 1) ∧ (k ≤ k0) ∧ (lastI (isUp t k0) k0 = lastI (isUp t k0) k) ∧ Sub [(5, .int .i64 q)] f) ((fun (q : Int) (k : Nat) => k + 1) (((k0 : Int) - 1)) (k0)) ?_ ?_
  · refine ⟨((k0 : Int) - 1), k0, rfl, ?_, ?_, ?_, ⟨rfl, trivial⟩⟩
    · rfl
    · exact Nat.le_refl _
    · rfl
  · clear hs1
    rintro _ f w ⟨q, k, rfl, p0, p1, p2, hG⟩ hF hs5
    refine WC.sub _ (hG.app hF) ?_
    clear hG hF
    refine WC.seq (fun K6 hK6 => ?_)
    refine WC.seq (fun K7 hK7 => ?_)
    refine WC.region ?_
    refine WL.val rfl rfl rfl (Run.move rfl rfl) ?_
    refine WL.val rfl rfl rfl (Run.geq rfl rfl rfl) ?_
    refine WL.nil ?_
    refine tkN ?_
    refine hK7 _ _ ?_
    clear hK7
    refine WC.cond rfl (fun h8 => ?_) (fun h8 => ?_)
    · have qh8 := h8
      try simp only [decide_eq_true_eq, decide_eq_false_iff_not, Bool.not_eq_true', Bool.not_eq_false', Bool.and_eq_true, Bool.or_eq_false_iff, within_iff, within_not] at qh8
      obtain ⟨i, rfl⟩ : ∃ i : Nat, q = (i : Int) := ⟨q.toNat, by omega⟩
      obtain rfl : k = i + 1 := by omega
      refine WC.skip ?_
      refine tkN ?_
      refine hK6 _ _ ?_
      clear hK6
      refine WC.seq (fun K9 hK9 => ?_)
      refine WC.block ?_
      refine WC.seq (fun K10 hK10 => ?_)
      refine WC.region ?_
      refine WL.val rfl rfl rfl (Run.move rfl rfl) ?_
      refine WL.val rfl rfl rfl (Run.move rfl rfl) ?_
      refine WL.val rfl rfl rfl (Run.idxK (i) Try.runUnderlying25 Try.sizeOf62 rfl rfl rfl ?_ ?_ ?_) ?_
      · exact SlF.some_ (SlF.st0 f_t hs5)
      · omega
      · omega
      refine WL.val rfl rfl rfl (Run.fieldO Try.runUnderlying62 rfl rfl rfl Try.sizeOf3 rfl) ?_
      refine WL.val rfl rfl rfl (Run.load Try.isAgg3 rfl rfl (SlF.fld (SlF.st0 f_t hs5) ?_ rfl)) ?_
      · omega
      refine WL.val rfl rfl rfl (Run.eql rfl rfl rfl) ?_
      refine WL.val rfl rfl rfl (Run.move rfl rfl) ?_
      apply WL.meetAnd 13 18 31 [(0, _), (1, _), (5, _), (6, _), (7, _), (8, _), (9, _)] rfl hs5
      · intro g11 J12
        have qg11 := g11
        try simp only [decide_eq_true_eq, decide_eq_false_iff_not, Bool.not_eq_true', Bool.not_eq_false'] at qg11
        refine WL.val (wantT rfl g11) rfl rfl (Run.move rfl rfl) ?_
        refine WL.val (wantT rfl g11) rfl rfl (Run.add rfl rfl rfl ?_) ?_
        · constructor <;> omega
        refine WL.val (wantT rfl g11) rfl rfl (Run.move rfl rfl) ?_
        refine WL.val (wantT rfl g11) rfl rfl (Run.eql rfl rfl rfl) ?_
        refine WL.val (wantT rfl g11) rfl rfl (Run.move rfl rfl) ?_
        apply WL.meetOr 7 23 30 [(0, _), (1, _), (5, _), (6, _), (7, _), (8, _), (9, _), (18, _)] rfl hs5
        · intro g13 J14
          have qg13 := g13
          try simp only [decide_eq_true_eq, decide_eq_false_iff_not, Bool.not_eq_true', Bool.not_eq_false'] at qg13
          refine WL.val (wantF rfl g13) rfl rfl (Run.move rfl rfl) ?_
          refine WL.val (wantF rfl g13) rfl rfl (Run.move rfl rfl) ?_
          refine WL.val (wantF rfl g13) rfl rfl (Run.add rfl rfl rfl ?_) ?_
          · constructor <;> omega
          refine WL.call (wantF rfl g13) rfl rfl (Run.call Try.call53 rfl rfl rfl) (c_spec_l13End _ _ _ _ (i + 1) _ (SlF.st0 f_t hs5) ?_ ?_) ?_
          · omega
          · omega
          rintro _ whs15 ⟨rfl, hs15⟩
          replace hs15 := hs5.call0 hs15
          refine ⟨_, rfl, ?_⟩
          refine WL.val (wantF rfl g13) rfl rfl (Run.move rfl rfl) ?_
          refine WL.val (wantF rfl g13) rfl rfl (Run.eql rfl rfl rfl) ?_
          refine WL.val (wantT rfl g11) rfl rfl (Run.pickF rfl rfl g13 rfl) ?_
          exact WL.fin J14 hs15 rfl (orF g13) ⟨rfl, rfl, rfl, rfl, rfl, rfl, rfl, rfl, trivial⟩
        · intro g13 J14
          refine WL.skip (wantNF rfl g13) rfl rfl ?_
          refine WL.skip (wantNF rfl g13) rfl rfl ?_
          refine WL.skip (wantNF rfl g13) rfl rfl ?_
          refine WL.skip (wantNF rfl g13) rfl rfl ?_
          refine WL.skip (wantNF rfl g13) rfl rfl ?_
          refine WL.skip (wantNF rfl g13) rfl rfl ?_
          refine WL.val (wantT rfl g11) rfl rfl (Run.pickT rfl rfl g13 rfl) ?_
          exact WL.fin J14 hs5 rfl (orT g13) ⟨rfl, rfl, rfl, rfl, rfl, rfl, rfl, rfl, trivial⟩
        · intro whs16 hs16
          refine WL.val rfl rfl rfl (Run.pickT rfl rfl g11 rfl) ?_
          exact WL.fin J12 hs16 rfl (andT g11) ⟨rfl, rfl, rfl, rfl, rfl, rfl, rfl, trivial⟩
      · intro g11 J12
        refine WL.skip (wantNT rfl g11) rfl rfl ?_
        refine WL.skip (wantNT rfl g11) rfl rfl ?_
        refine WL.skip (wantNT rfl g11) rfl rfl ?_
        refine WL.skip (wantNT rfl g11) rfl rfl ?_
        refine WL.skip (wantNT rfl g11) rfl rfl ?_
        refine WL.skip rfl rfl rfl ?_
        refine WL.skip rfl rfl rfl ?_
        refine WL.skip rfl rfl rfl ?_
        refine WL.skip rfl rfl rfl ?_
        refine WL.skip rfl rfl rfl ?_
        refine WL.skip rfl rfl rfl ?_
        refine WL.skip (wantNT rfl g11) rfl rfl ?_
        refine WL.val rfl rfl rfl (Run.pickF rfl rfl g11 rfl) ?_
        exact WL.fin J12 hs5 rfl (andF g11) ⟨rfl, rfl, rfl, rfl, rfl, rfl, rfl, trivial⟩
      · intro whs17 hs17
        refine WL.nil ?_
        refine tkN ?_
        refine hK10 _ _ ?_
        clear hK10
        refine WC.cond rfl (fun h18 => ?_) (fun h18 => ?_)
        · have qh18 := h18
          try simp only [decide_eq_true_eq, decide_eq_false_iff_not, Bool.not_eq_true', Bool.not_eq_false', Bool.and_eq_true, Bool.or_eq_false_iff, within_iff, within_not] at qh18
          have hb : isUp t k0 i = true := by
            simp only [isUp, isSplit, Bool.and_eq_true, Bool.or_eq_true, decide_eq_true_eq] at *; omega
          refine WC.seq (fun K19 hK19 => ?_)
          refine WC.region ?_
          refine WL.val rfl rfl rfl (Run.move rfl rfl) ?_
          refine WL.val rfl rfl rfl (Run.assign rfl rfl) ?_
          refine WL.nil ?_
          refine tkN ?_
          refine hK19 _ _ ?_
          clear hK19
          refine WC.ret ?_
          refine ibR ?_
          refine tkR ?_
          refine tkR ?_
          refine ibR ?_
          refine tkR ?_
          clear hK9 hK3
          refine retV1 rfl (resV.tmp rfl) ?_
          refine ⟨congrArg Ending.returned ?_, hs17.nil⟩
          rw [p2, lastI, if_pos hb]
        · have qh18 := h18
          try simp only [decide_eq_true_eq, decide_eq_false_iff_not, Bool.not_eq_true', Bool.not_eq_false', Bool.and_eq_true, Bool.or_eq_false_iff, within_iff, within_not] at qh18
          have hb : isUp t k0 i = false := by
            rw [← Bool.not_eq_true]; intro h_; simp only [isUp, isSplit, Bool.and_eq_true, Bool.or_eq_true, decide_eq_true_eq, Bool.and_eq_false_imp, Bool.or_eq_false_iff, decide_eq_false_iff_not] at *; omega
          refine WC.skip ?_
          refine ibN ?_
          refine tkN ?_
          refine hK9 _ _ ?_
          clear hK9
          refine WC.region ?_
          refine WL.val rfl rfl rfl (Run.move rfl rfl) ?_
          refine WL.val rfl rfl rfl (Run.sub rfl rfl rfl ?_) ?_
          · constructor <;> omega
          refine WL.val rfl rfl rfl (Run.assign rfl rfl) ?_
          refine WL.nil ?_
          refine tkN ?_
          refine ⟨⟨rfl, rfl, rfl, rfl, trivial⟩, hs17, _, ?_, _, i, rfl, ?_, ?_, ?_, ⟨rfl, trivial⟩⟩
          · omega
          · omega
          · omega
          · rw [p2, lastI, hb]; simp
    · have qh8 := h8
      try simp only [decide_eq_true_eq, decide_eq_false_iff_not, Bool.not_eq_true', Bool.not_eq_false', Bool.and_eq_true, Bool.or_eq_false_iff, within_iff, within_not] at qh8
      obtain rfl : k = 0 := by omega
      refine WC.exit ?_
      refine tkE ?_
      refine tkE ?_
      refine ibE ?_
      refine tkN ?_
      refine hK3 _ _ ?_
      clear hK3
      refine WC.seq (fun K20 hK20 => ?_)
      refine WC.region ?_
      refine WL.val rfl rfl rfl (Run.assign rfl rfl) ?_
      refine WL.nil ?_
      refine tkN ?_
      refine hK20 _ _ ?_
      clear hK20
      refine WC.ret ?_
      refine retV1 rfl (resV.tmp rfl) ?_
      refine ⟨congrArg Ending.returned ?_, hs5.nil⟩
      rw [p2, lastI]
end Go.Proofs.Ytghcicggamkjgaa
