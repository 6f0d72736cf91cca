/- Walks of Go functions, printed by a program (wip/gen). -/
import Derived.Test.YtghcicggamkjgaaE12
import Derived.Test.YtghcicggamkjgaaG1
namespace Go.Proofs.Ytghcicggamkjgaa
open Go Go.RowKit
set_option linter.unusedVariables false
set_option linter.unusedSimpArgs false
theorem built_86_0_2 (x0 : Option Addr) (x1 : Nat) (x2 : Nat) (x3 : Int) : Try.prog.built 86 [(0, .slice x0 x1 x2), (2, .int .i64 x3)] = some (List.toArray [.slice x0 x1 x2, .int .i64 0, .int .i64 x3]) := by kernel_rfl
theorem c_spec_l01New (A_s : Option Addr) (n_s c_s : Nat) (s : List UInt8) (w : World) (f_s : SlF encB w A_s n_s s) (hn : n_s ≤ 1048576) :
    Calls Try.prog 72 #[.slice A_s n_s c_s] w fun e w' => ∃ b h, e = .returned (.pointer (some ⟨b, 0, none⟩)) ∧ St w [] [(b, Obj.cells (List.toArray [.slice A_s n_s c_s, i64 (0), i64 (h)]) 86 (0, 0))] w' := by
  have hl := f_s.len
  refine enter (vs := [.slice A_s n_s c_s]) 32 Try.func72 rfl Try.ntmps72 rfl rfl ?_
  have hs1 := St.init w
  refine WC.seq (fun K2 hK2 => ?_)
  refine WC.region ?_
  refine WL.val rfl rfl rfl (Run.assign rfl rfl) ?_
  refine WL.nil ?_
  refine tkN ?_
  refine hK2 _ _ ?_
  clear hK2
  refine WC.seq (fun K3 hK3 => ?_)
  refine WC.region ?_
  refine WL.val rfl rfl rfl (Run.move rfl rfl) ?_
  refine WL.val rfl rfl rfl (Run.lenSl Try.runUnderlying45 rfl rfl) ?_
  refine WL.val rfl rfl rfl (Run.add rfl rfl rfl ?_) ?_
  · constructor <;> omega
  refine WL.val rfl rfl rfl (Run.assign rfl rfl) ?_
  refine WL.nil ?_
  refine tkN ?_
  refine hK3 _ _ ?_
  clear hK3
  refine WC.seq (fun K4 hK4 => ?_)
  refine WC.seq (fun K5 hK5 => ?_)
  refine WC.region ?_
  refine WL.val rfl rfl rfl (Run.assign rfl rfl) ?_
  refine WL.nil ?_
  refine tkN ?_
  refine hK5 _ _ ?_
  clear hK5
  refine WC.block ?_
  refine WC.loopS [(0, _), (2, _), (5, _), (6, _), (7, _)] ⟨rfl, rfl, rfl, rfl, rfl, trivial⟩ hs1 (fun k_ f w' => ∃ (i : Nat) (h : Int), k_ = n_s - i ∧ (i ≤ n_s) ∧ (0 ≤ h ∧ h ≤ 1073741823) ∧ Sub [(4, .int .i64 i), (3, .int .i64 h)] f) ((fun (i : Nat) (h : Int) => n_s - i) (0) (612857 + (n_s : Int))) ?_ ?_
  · refine ⟨0, 612857 + (n_s : Int), rfl, ?_, ?_, ⟨rfl, rfl, trivial⟩⟩
    · exact Nat.zero_le _
    · omega
  · clear hs1
    rintro _ f w ⟨i, h, rfl, p0, p1, hG⟩ hF hs6
    refine WC.sub _ (hG.app hF) ?_
    clear hG hF
    refine WC.seq (fun K7 hK7 => ?_)
    refine WC.seq (fun K8 hK8 => ?_)
    refine WC.region ?_
    refine WL.val rfl rfl rfl (Run.move rfl rfl) ?_
    refine WL.val rfl rfl rfl (Run.move rfl rfl) ?_
    refine WL.val rfl rfl rfl (Run.lenSl Try.runUnderlying45 rfl rfl) ?_
    refine WL.val rfl rfl rfl (Run.lss rfl rfl rfl) ?_
    refine WL.val rfl rfl rfl (Run.move rfl rfl) ?_
    apply WL.meetAnd 3 12 15 [(0, _), (2, _), (3, _), (4, _), (5, _), (6, _), (7, _)] rfl hs6
    · intro g9 J10
      have qg9 := g9
      try simp only [decide_eq_true_eq, decide_eq_false_iff_not, Bool.not_eq_true', Bool.not_eq_false'] at qg9
      refine WL.val (wantT rfl g9) rfl rfl (Run.move rfl rfl) ?_
      refine WL.val (wantT rfl g9) rfl rfl (Run.lss rfl rfl rfl) ?_
      refine WL.val rfl rfl rfl (Run.pickT rfl rfl g9 rfl) ?_
      exact WL.fin J10 hs6 rfl (andT g9) ⟨rfl, rfl, rfl, rfl, rfl, rfl, rfl, trivial⟩
    · intro g9 J10
      refine WL.skip (wantNT rfl g9) rfl rfl ?_
      refine WL.skip (wantNT rfl g9) rfl rfl ?_
      refine WL.val rfl rfl rfl (Run.pickF rfl rfl g9 rfl) ?_
      exact WL.fin J10 hs6 rfl (andF g9) ⟨rfl, rfl, rfl, rfl, rfl, rfl, rfl, trivial⟩
    · intro whs11 hs11
      refine WL.nil ?_
      refine tkN ?_
      refine hK8 _ _ ?_
      clear hK8
      refine WC.cond rfl (fun h12 => ?_) (fun h12 => ?_)
      · have qh12 := h12
        try simp only [decide_eq_true_eq, decide_eq_false_iff_not, Bool.not_eq_true', Bool.not_eq_false', Bool.and_eq_true, Bool.or_eq_false_iff, within_iff, within_not] at qh12
        have hbt := UInt8.toNat_lt (gat encB s i)
        refine WC.skip ?_
        refine tkN ?_
        refine hK7 _ _ ?_
        clear hK7
        refine WC.seq (fun K13 hK13 => ?_)
        refine WC.block ?_
        refine WC.region ?_
        refine WL.val rfl rfl rfl (Run.move rfl rfl) ?_
        refine WL.val rfl rfl rfl (Run.mul rfl rfl rfl ?_) ?_
        · constructor <;> omega
        refine WL.val rfl rfl rfl (Run.move rfl rfl) ?_
        refine WL.val rfl rfl rfl (Run.move rfl rfl) ?_
        refine WL.val rfl rfl rfl (Run.idxN Try.runUnderlying45 Try.sizeOf5 rfl rfl rfl ?_ ?_ ?_) ?_
        · exact SlF.some_ (SlF.st0 f_s hs11)
        · omega
        · omega
        refine WL.val rfl rfl rfl (Run.load Try.isAgg5 rfl rfl (SlF.one1 (SlF.st0 f_s hs11) ?_ rfl)) ?_
        · omega
        refine WL.val rfl rfl rfl (Run.convB Try.runUnderlying5 Try.runUnderlying3 rfl rfl) ?_
        refine WL.val rfl rfl rfl (Run.add rfl rfl rfl ?_) ?_
        · constructor <;> omega
        refine WL.val rfl rfl rfl (Run.add rfl rfl rfl ?_) ?_
        · constructor <;> omega
        refine WL.val rfl rfl rfl (Run.andB rfl rfl rfl) ?_
        refine WL.val rfl rfl rfl (Run.assign rfl rfl) ?_
        refine WL.nil ?_
        refine ibN ?_
        refine tkN ?_
        refine hK13 _ _ ?_
        clear hK13
        refine WC.region ?_
        refine WL.val rfl rfl rfl (Run.move rfl rfl) ?_
        refine WL.val rfl rfl rfl (Run.add rfl rfl rfl ?_) ?_
        · constructor <;> omega
        refine WL.val rfl rfl rfl (Run.assign rfl rfl) ?_
        refine WL.nil ?_
        refine tkN ?_
        refine ⟨⟨rfl, rfl, rfl, rfl, rfl, trivial⟩, hs11, _, ?_, i + 1, _, rfl, ?_, ?_, ⟨rfl, rfl, trivial⟩⟩
        · omega
        · omega
        · exact bitsAnd_mask _ (by omega) (by omega)
      · have qh12 := h12
        try simp only [decide_eq_true_eq, decide_eq_false_iff_not, Bool.not_eq_true', Bool.not_eq_false', Bool.and_eq_true, Bool.or_eq_false_iff, within_iff, within_not] at qh12
        refine WC.exit ?_
        refine tkE ?_
        refine tkE ?_
        refine ibE ?_
        refine tkN ?_
        refine hK4 _ _ ?_
        clear hK4
        refine WC.seq (fun K14 hK14 => ?_)
        refine WC.region ?_
        refine WL.val rfl rfl rfl (Run.move rfl rfl) ?_
        refine WL.val rfl rfl rfl (Run.move rfl rfl) ?_
        refine WL.val rfl rfl rfl (Run.build rfl rfl rfl rfl (built_86_0_2 _ _ _ _)) ?_
        refine WL.box hs11 rfl rfl rfl rfl rfl rfl (fun b15 whs16 hs16 => ?_)
        refine WL.val rfl rfl rfl (Run.assign rfl rfl) ?_
        refine WL.nil ?_
        refine tkN ?_
        refine hK14 _ _ ?_
        clear hK14
        refine WC.ret ?_
        refine retV1 rfl (resV.tmp rfl) ?_
        exact ⟨_, _, rfl, hs16⟩
theorem c_spec_l01Byte (b_c : Nat) (A_s : Option Addr) (n_s c_s : Nat) (s : List UInt8) (i h : Int)  (w : World) (hc : w.heap[b_c]? = some (Obj.cells (List.toArray [.slice A_s n_s c_s, i64 (i), i64 (h)]) 86 (0, 0))) (f_s : SlF encB w A_s n_s s) (s_s : 0 < n_s → (adr A_s).block ∉ [b_c]) (hn : n_s ≤ 1099511627776) (hi : 0 ≤ i ∧ i ≤ n_s) :
    Calls Try.prog 90 #[.pointer (some ⟨b_c, 0, none⟩)] w fun e w' => ∃ r i' h', e = .returned (.int .i64 r) ∧ St w [b_c] [(b_c, Obj.cells (List.toArray [.slice A_s n_s c_s, i64 (i'), i64 (h')]) 86 (0, 0))] w' ∧ (0 ≤ r ∧ r ≤ 255) ∧ (0 ≤ i' ∧ i' ≤ n_s) := by
  have hl := f_s.len
  refine enter (vs := [.pointer (some ⟨b_c, 0, none⟩)]) 58 Try.func90 rfl Try.ntmps90 rfl rfl ?_
  have hs1 := St.take1 w b_c _ hc
  refine WC.seq (fun K2 hK2 => ?_)
  refine WC.region ?_
  refine WL.val rfl rfl rfl (Run.assign rfl rfl) ?_
  refine WL.nil ?_
  refine tkN ?_
  refine hK2 _ _ ?_
  clear hK2
  refine WC.seq (fun K3 hK3 => ?_)
  refine WC.region ?_
  refine WL.val rfl rfl rfl (Run.move rfl rfl) ?_
  refine WL.val rfl rfl rfl (Run.move rfl rfl) ?_
  refine WL.val rfl rfl rfl (Run.nilCheck rfl rfl) ?_
  refine WL.val rfl rfl rfl (Run.field Try.runUnderlying86 rfl rfl rfl Try.sizeOf3 rfl) ?_
  refine WL.val rfl rfl rfl (Run.loadL hs1 0 Try.isAgg3 rfl rfl rfl rfl) ?_
  refine WL.val rfl rfl rfl (Run.mulW rfl rfl rfl) ?_
  refine WL.val rfl rfl rfl (Run.addW rfl rfl rfl) ?_
  refine WL.val rfl rfl rfl (Run.nilCheck rfl rfl) ?_
  refine WL.val rfl rfl rfl (Run.field Try.runUnderlying86 rfl rfl rfl Try.sizeOf3 rfl) ?_
  refine WL.store hs1 0 Try.sizeOf3 rfl rfl rfl rfl rfl rfl rfl rfl rfl rfl (fun whs4 hs4 => ?_)
  refine WL.nil ?_
  refine tkN ?_
  refine hK3 _ _ ?_
  clear hK3
  refine WC.seq (fun K5 hK5 => ?_)
  refine WC.regionQ (fun w' => St _ _ _ w') mixed (by kernel_rfl) hs4.drew ?_
  refine WQ.val rfl rfl rfl (fun w_ hs_ => (Run.move rfl rfl)) ?_
  refine WQ.val rfl rfl rfl (fun w_ hs_ => (Run.nilCheck rfl rfl)) ?_
  refine WQ.val rfl rfl rfl (fun w_ hs_ => (Run.field Try.runUnderlying86 rfl rfl rfl Try.sizeOf3 rfl)) ?_
  refine WQ.val rfl rfl rfl (fun w_ hs_ => (Run.loadL (hs_ : St _ _ _ _) 0 Try.isAgg3 rfl rfl rfl rfl)) ?_
  refine WQ.val rfl rfl rfl (fun w_ hs_ => (Run.shr rfl rfl rfl ?_ ?_)) ?_
  · omega
  · omega
  refine WQ.val rfl rfl rfl (fun w_ hs_ => (Run.move rfl rfl)) ?_
  refine WQ.val rfl rfl rfl (fun w_ hs_ => (Run.nilCheck rfl rfl)) ?_
  refine WQ.val rfl rfl rfl (fun w_ hs_ => (Run.field Try.runUnderlying86 rfl rfl rfl Try.sizeOf3 rfl)) ?_
  refine WQ.val rfl rfl rfl (fun w_ hs_ => (Run.loadL (hs_ : St _ _ _ _) 0 Try.isAgg3 rfl rfl rfl rfl)) ?_
  refine WQ.val rfl rfl rfl (fun w_ hs_ => (Run.shr rfl rfl rfl ?_ ?_)) ?_
  · omega
  · omega
  refine WQ.val rfl rfl rfl (fun w_ hs_ => (Run.xorB rfl rfl rfl)) ?_
  refine WQ.val rfl rfl rfl (fun w_ hs_ => (Run.andB rfl rfl rfl)) ?_
  refine WQ.val rfl rfl rfl (fun w_ hs_ => (Run.assign rfl rfl)) ?_
  refine WQ.nil (fun whs6 hs6 => ?_)
  replace hs6 : St _ _ _ _ := hs6
  refine tkN ?_
  refine hK5 _ _ ?_
  clear hK5
  refine WC.seq (fun K7 hK7 => ?_)
  refine WC.seq (fun K8 hK8 => ?_)
  refine WC.regionQ (fun w' => St _ _ _ w') mixed (by kernel_rfl) hs6.drew ?_
  refine WQ.val rfl rfl rfl (fun w_ hs_ => (Run.move rfl rfl)) ?_
  refine WQ.val rfl rfl rfl (fun w_ hs_ => (Run.nilCheck rfl rfl)) ?_
  refine WQ.val rfl rfl rfl (fun w_ hs_ => (Run.field Try.runUnderlying86 rfl rfl rfl Try.sizeOf3 rfl)) ?_
  refine WQ.val rfl rfl rfl (fun w_ hs_ => (Run.loadL (hs_ : St _ _ _ _) 0 Try.isAgg3 rfl rfl rfl rfl)) ?_
  refine WQ.val rfl rfl rfl (fun w_ hs_ => (Run.move rfl rfl)) ?_
  refine WQ.val rfl rfl rfl (fun w_ hs_ => (Run.nilCheck rfl rfl)) ?_
  refine WQ.val rfl rfl rfl (fun w_ hs_ => (Run.field Try.runUnderlying86 rfl rfl rfl Try.sizeOf45 rfl)) ?_
  refine WQ.val rfl rfl rfl (fun w_ hs_ => (Run.loadL (hs_ : St _ _ _ _) 0 Try.isAgg45 rfl rfl rfl rfl)) ?_
  refine WQ.val rfl rfl rfl (fun w_ hs_ => (Run.lenSl Try.runUnderlying45 rfl rfl)) ?_
  refine WQ.val rfl rfl rfl (fun w_ hs_ => (Run.lss rfl rfl rfl)) ?_
  refine WQ.nil (fun whs9 hs9 => ?_)
  replace hs9 : St _ _ _ _ := hs9
  refine tkN ?_
  refine hK8 _ _ ?_
  clear hK8
  refine WC.cond rfl (fun h10 => ?_) (fun h10 => ?_)
  · have qh10 := h10
    try simp only [decide_eq_true_eq, decide_eq_false_iff_not, Bool.not_eq_true', Bool.not_eq_false', Bool.and_eq_true, Bool.or_eq_false_iff, within_iff, within_not] at qh10
    refine WC.seq (fun K11 hK11 => ?_)
    refine WC.regionQ (fun w' => St _ _ _ w') mixed (by kernel_rfl) hs9.drew ?_
    refine WQ.val rfl rfl rfl (fun w_ hs_ => (Run.move rfl rfl)) ?_
    refine WQ.val rfl rfl rfl (fun w_ hs_ => (Run.move rfl rfl)) ?_
    refine WQ.val rfl rfl rfl (fun w_ hs_ => (Run.nilCheck rfl rfl)) ?_
    refine WQ.val rfl rfl rfl (fun w_ hs_ => (Run.field Try.runUnderlying86 rfl rfl rfl Try.sizeOf45 rfl)) ?_
    refine WQ.val rfl rfl rfl (fun w_ hs_ => (Run.loadL (hs_ : St _ _ _ _) 0 Try.isAgg45 rfl rfl rfl rfl)) ?_
    refine WQ.val rfl rfl rfl (fun w_ hs_ => (Run.move rfl rfl)) ?_
    refine WQ.val rfl rfl rfl (fun w_ hs_ => (Run.nilCheck rfl rfl)) ?_
    refine WQ.val rfl rfl rfl (fun w_ hs_ => (Run.field Try.runUnderlying86 rfl rfl rfl Try.sizeOf3 rfl)) ?_
    refine WQ.val rfl rfl rfl (fun w_ hs_ => (Run.loadL (hs_ : St _ _ _ _) 0 Try.isAgg3 rfl rfl rfl rfl)) ?_
    refine WQ.val rfl rfl rfl (fun w_ hs_ => (Run.idxK (i.toNat) Try.runUnderlying45 Try.sizeOf5 rfl rfl rfl ?_ ?_ ?_)) ?_
    · exact SlF.some_ (SlF.st f_s (hs_ : St _ _ _ _) s_s)
    · omega
    · omega
    refine WQ.val rfl rfl rfl (fun w_ hs_ => (Run.load Try.isAgg5 rfl rfl (SlF.one1 (SlF.st f_s (hs_ : St _ _ _ _) s_s) ?_ rfl))) ?_
    · omega
    refine WQ.val rfl rfl rfl (fun w_ hs_ => (Run.convB Try.runUnderlying5 Try.runUnderlying3 rfl rfl)) ?_
    refine WQ.val rfl rfl rfl (fun w_ hs_ => (Run.addW rfl rfl rfl)) ?_
    refine WQ.val rfl rfl rfl (fun w_ hs_ => (Run.andB rfl rfl rfl)) ?_
    refine WQ.val rfl rfl rfl (fun w_ hs_ => (Run.assign rfl rfl)) ?_
    refine WQ.nil (fun whs12 hs12 => ?_)
    replace hs12 : St _ _ _ _ := hs12
    refine tkN ?_
    refine hK11 _ _ ?_
    clear hK11
    refine WC.region ?_
    refine WL.val rfl rfl rfl (Run.move rfl rfl) ?_
    refine WL.val rfl rfl rfl (Run.move rfl rfl) ?_
    refine WL.val rfl rfl rfl (Run.nilCheck rfl rfl) ?_
    refine WL.val rfl rfl rfl (Run.field Try.runUnderlying86 rfl rfl rfl Try.sizeOf3 rfl) ?_
    refine WL.val rfl rfl rfl (Run.loadL hs12 0 Try.isAgg3 rfl rfl rfl rfl) ?_
    refine WL.val rfl rfl rfl (Run.add rfl rfl rfl ?_) ?_
    · constructor <;> omega
    refine WL.val rfl rfl rfl (Run.nilCheck rfl rfl) ?_
    refine WL.val rfl rfl rfl (Run.field Try.runUnderlying86 rfl rfl rfl Try.sizeOf3 rfl) ?_
    refine WL.store hs12 0 Try.sizeOf3 rfl rfl rfl rfl rfl rfl rfl rfl rfl rfl (fun whs13 hs13 => ?_)
    refine WL.nil ?_
    refine tkN ?_
    refine hK7 _ _ ?_
    clear hK7
    refine WC.seq (fun K14 hK14 => ?_)
    refine WC.region ?_
    refine WL.val rfl rfl rfl (Run.move rfl rfl) ?_
    refine WL.val rfl rfl rfl (Run.assign rfl rfl) ?_
    refine WL.nil ?_
    refine tkN ?_
    refine hK14 _ _ ?_
    clear hK14
    refine WC.ret ?_
    refine retV1 rfl (resV.tmp rfl) ?_
    exact ⟨_, _, _, rfl, hs13, bitsAnd_mask _ (by omega) (by omega), by omega⟩
  · have qh10 := h10
    try simp only [decide_eq_true_eq, decide_eq_false_iff_not, Bool.not_eq_true', Bool.not_eq_false', Bool.and_eq_true, Bool.or_eq_false_iff, within_iff, within_not] at qh10
    refine WC.skip ?_
    refine tkN ?_
    refine hK7 _ _ ?_
    clear hK7
    refine WC.seq (fun K15 hK15 => ?_)
    refine WC.region ?_
    refine WL.val rfl rfl rfl (Run.move rfl rfl) ?_
    refine WL.val rfl rfl rfl (Run.assign rfl rfl) ?_
    refine WL.nil ?_
    refine tkN ?_
    refine hK15 _ _ ?_
    clear hK15
    refine WC.ret ?_
    refine retV1 rfl (resV.tmp rfl) ?_
    exact ⟨_, _, _, rfl, hs9, bitsAnd_mask _ (by omega) (by omega), by omega⟩
theorem c_spec_l01Below (b_c : Nat) (A_s : Option Addr) (n_s c_s : Nat) (s : List UInt8) (i h : Int) (n : Int) (w : World) (hc : w.heap[b_c]? = some (Obj.cells (List.toArray [.slice A_s n_s c_s, i64 (i), i64 (h)]) 86 (0, 0))) (f_s : SlF encB w A_s n_s s) (s_s : 0 < n_s → (adr A_s).block ∉ [b_c]) (hn : n_s ≤ 1099511627776) (hi : 0 ≤ i ∧ i ≤ n_s) :
    Calls Try.prog 73 #[.pointer (some ⟨b_c, 0, none⟩), i64 n] w fun e w' => ∃ r i' h', e = .returned (.int .i64 r) ∧ St w [b_c] [(b_c, Obj.cells (List.toArray [.slice A_s n_s c_s, i64 (i'), i64 (h')]) 86 (0, 0))] w' ∧ (0 ≤ r ∧ (0 < n → r < n)) ∧ (0 ≤ i' ∧ i' ≤ n_s) := by
  have hl := f_s.len
  refine enter (vs := [.pointer (some ⟨b_c, 0, none⟩), i64 n]) 37 Try.func73 rfl Try.ntmps73 rfl rfl ?_
  have hs1 := St.take1 w b_c _ hc
  refine WC.seq (fun K2 hK2 => ?_)
  refine WC.region ?_
  refine WL.val rfl rfl rfl (Run.assign rfl rfl) ?_
  refine WL.nil ?_
  refine tkN ?_
  refine hK2 _ _ ?_
  clear hK2
  refine WC.seq (fun K3 hK3 => ?_)
  refine WC.seq (fun K4 hK4 => ?_)
  refine WC.region ?_
  refine WL.val rfl rfl rfl (Run.move rfl rfl) ?_
  refine WL.val rfl rfl rfl (Run.leq rfl rfl rfl) ?_
  refine WL.nil ?_
  refine tkN ?_
  refine hK4 _ _ ?_
  clear hK4
  refine WC.cond rfl (fun h5 => ?_) (fun h5 => ?_)
  · have qh5 := h5
    try simp only [decide_eq_true_eq, decide_eq_false_iff_not, Bool.not_eq_true', Bool.not_eq_false', Bool.and_eq_true, Bool.or_eq_false_iff, within_iff, within_not] at qh5
    refine WC.seq (fun K6 hK6 => ?_)
    refine WC.region ?_
    refine WL.val rfl rfl rfl (Run.assign rfl rfl) ?_
    refine WL.nil ?_
    refine tkN ?_
    refine hK6 _ _ ?_
    clear hK6
    refine WC.ret ?_
    refine tkR ?_
    clear hK3
    refine retV1 rfl (resV.tmp rfl) ?_
    exact ⟨_, _, _, rfl, hs1, ⟨by omega, by omega⟩, by omega⟩
  · have qh5 := h5
    try simp only [decide_eq_true_eq, decide_eq_false_iff_not, Bool.not_eq_true', Bool.not_eq_false', Bool.and_eq_true, Bool.or_eq_false_iff, within_iff, within_not] at qh5
    refine WC.skip ?_
    refine tkN ?_
    refine hK3 _ _ ?_
    clear hK3
    refine WC.seq (fun K7 hK7 => ?_)
    refine WC.seq (fun K8 hK8 => ?_)
    refine WC.region ?_
    refine WL.val rfl rfl rfl (Run.move rfl rfl) ?_
    refine WL.val rfl rfl rfl (Run.leq rfl rfl rfl) ?_
    refine WL.nil ?_
    refine tkN ?_
    refine hK8 _ _ ?_
    clear hK8
    refine WC.cond rfl (fun h9 => ?_) (fun h9 => ?_)
    · have qh9 := h9
      try simp only [decide_eq_true_eq, decide_eq_false_iff_not, Bool.not_eq_true', Bool.not_eq_false', Bool.and_eq_true, Bool.or_eq_false_iff, within_iff, within_not] at qh9
      refine WC.seq (fun K10 hK10 => ?_)
      refine WC.region ?_
      refine WL.val rfl rfl rfl (Run.move rfl rfl) ?_
      have hF11 : St _ _ ([(b_c, _)] ++ _) _ := hs1
      refine WL.call rfl rfl rfl (Run.call Try.call90 rfl rfl rfl) (c_spec_l01Byte _ _ _ _ _ _ _ _ (hF11.own _ List.mem_cons_self).1 (SlF.st f_s hs1 s_s) (St.sepT hF11 f_s s_s) ?_ ?_) ?_
      · omega
      · omega
      rintro _ whs17 ⟨r12, i13, h14, rfl, hs17, hr15, hi16⟩
      replace hs17 := St.lend hF11 hs17
      refine ⟨_, rfl, ?_⟩
      refine WL.val rfl rfl rfl (Run.move rfl rfl) ?_
      refine WL.val rfl rfl rfl (Run.rem rfl rfl rfl ?_ ?_) ?_
      · omega
      · omega
      refine WL.val rfl rfl rfl (Run.assign rfl rfl) ?_
      refine WL.nil ?_
      refine tkN ?_
      refine hK10 _ _ ?_
      clear hK10
      refine WC.ret ?_
      refine tkR ?_
      clear hK7
      refine retV1 rfl (resV.tmp rfl) ?_
      exact ⟨_, _, _, rfl, hs17, ⟨Int.emod_nonneg _ (by omega), fun h_ => Int.emod_lt_of_pos _ h_⟩, by omega⟩
    · have qh9 := h9
      try simp only [decide_eq_true_eq, decide_eq_false_iff_not, Bool.not_eq_true', Bool.not_eq_false', Bool.and_eq_true, Bool.or_eq_false_iff, within_iff, within_not] at qh9
      refine WC.skip ?_
      refine tkN ?_
      refine hK7 _ _ ?_
      clear hK7
      refine WC.seq (fun K18 hK18 => ?_)
      refine WC.region ?_
      refine WL.val rfl rfl rfl (Run.move rfl rfl) ?_
      have hF19 : St _ _ ([(b_c, _)] ++ _) _ := hs1
      refine WL.call rfl rfl rfl (Run.call Try.call90 rfl rfl rfl) (c_spec_l01Byte _ _ _ _ _ _ _ _ (hF19.own _ List.mem_cons_self).1 (SlF.st f_s hs1 s_s) (St.sepT hF19 f_s s_s) ?_ ?_) ?_
      · omega
      · omega
      rintro _ whs25 ⟨r20, i21, h22, rfl, hs25, hr23, hi24⟩
      replace hs25 := St.lend hF19 hs25
      refine ⟨_, rfl, ?_⟩
      refine WL.val rfl rfl rfl (Run.assign rfl rfl) ?_
      refine WL.nil ?_
      refine tkN ?_
      refine hK18 _ _ ?_
      clear hK18
      refine WC.seq (fun K26 hK26 => ?_)
      refine WC.region ?_
      refine WL.val rfl rfl rfl (Run.move rfl rfl) ?_
      have hF27 : St _ _ ([(b_c, _)] ++ _) _ := hs25
      refine WL.call rfl rfl rfl (Run.call Try.call90 rfl rfl rfl) (c_spec_l01Byte _ _ _ _ _ _ _ _ (hF27.own _ List.mem_cons_self).1 (SlF.st f_s hs25 s_s) (St.sepT hF27 f_s s_s) ?_ ?_) ?_
      · omega
      · omega
      rintro _ whs33 ⟨r28, i29, h30, rfl, hs33, hr31, hi32⟩
      replace hs33 := St.lend hF27 hs33
      refine ⟨_, rfl, ?_⟩
      refine WL.val rfl rfl rfl (Run.assign rfl rfl) ?_
      refine WL.nil ?_
      refine tkN ?_
      refine hK26 _ _ ?_
      clear hK26
      refine WC.seq (fun K34 hK34 => ?_)
      refine WC.region ?_
      refine WL.val rfl rfl rfl (Run.move rfl rfl) ?_
      have hF35 : St _ _ ([(b_c, _)] ++ _) _ := hs33
      refine WL.call rfl rfl rfl (Run.call Try.call90 rfl rfl rfl) (c_spec_l01Byte _ _ _ _ _ _ _ _ (hF35.own _ List.mem_cons_self).1 (SlF.st f_s hs33 s_s) (St.sepT hF35 f_s s_s) ?_ ?_) ?_
      · omega
      · omega
      rintro _ whs41 ⟨r36, i37, h38, rfl, hs41, hr39, hi40⟩
      replace hs41 := St.lend hF35 hs41
      refine ⟨_, rfl, ?_⟩
      refine WL.val rfl rfl rfl (Run.assign rfl rfl) ?_
      refine WL.nil ?_
      refine tkN ?_
      refine hK34 _ _ ?_
      clear hK34
      refine WC.seq (fun K42 hK42 => ?_)
      refine WC.region ?_
      refine WL.val rfl rfl rfl (Run.move rfl rfl) ?_
      have hF43 : St _ _ ([(b_c, _)] ++ _) _ := hs41
      refine WL.call rfl rfl rfl (Run.call Try.call90 rfl rfl rfl) (c_spec_l01Byte _ _ _ _ _ _ _ _ (hF43.own _ List.mem_cons_self).1 (SlF.st f_s hs41 s_s) (St.sepT hF43 f_s s_s) ?_ ?_) ?_
      · omega
      · omega
      rintro _ whs49 ⟨r44, i45, h46, rfl, hs49, hr47, hi48⟩
      replace hs49 := St.lend hF43 hs49
      refine ⟨_, rfl, ?_⟩
      refine WL.val rfl rfl rfl (Run.assign rfl rfl) ?_
      refine WL.nil ?_
      refine tkN ?_
      refine hK42 _ _ ?_
      clear hK42
      refine WC.seq (fun K50 hK50 => ?_)
      refine WC.region ?_
      refine WL.val rfl rfl rfl (Run.move rfl rfl) ?_
      refine WL.val rfl rfl rfl (Run.mul rfl rfl rfl ?_) ?_
      · constructor <;> omega
      refine WL.val rfl rfl rfl (Run.move rfl rfl) ?_
      refine WL.val rfl rfl rfl (Run.mul rfl rfl rfl ?_) ?_
      · constructor <;> omega
      refine WL.val rfl rfl rfl (Run.add rfl rfl rfl ?_) ?_
      · constructor <;> omega
      refine WL.val rfl rfl rfl (Run.move rfl rfl) ?_
      refine WL.val rfl rfl rfl (Run.mul rfl rfl rfl ?_) ?_
      · constructor <;> omega
      refine WL.val rfl rfl rfl (Run.add rfl rfl rfl ?_) ?_
      · constructor <;> omega
      refine WL.val rfl rfl rfl (Run.move rfl rfl) ?_
      refine WL.val rfl rfl rfl (Run.add rfl rfl rfl ?_) ?_
      · constructor <;> omega
      refine WL.val rfl rfl rfl (Run.move rfl rfl) ?_
      refine WL.val rfl rfl rfl (Run.rem rfl rfl rfl ?_ ?_) ?_
      · omega
      · omega
      refine WL.val rfl rfl rfl (Run.assign rfl rfl) ?_
      refine WL.nil ?_
      refine tkN ?_
      refine hK50 _ _ ?_
      clear hK50
      refine WC.ret ?_
      refine retV1 rfl (resV.tmp rfl) ?_
      exact ⟨_, _, _, rfl, hs49, ⟨Int.emod_nonneg _ (by omega), fun h_ => Int.emod_lt_of_pos _ h_⟩, by omega⟩
end Go.Proofs.Ytghcicggamkjgaa
