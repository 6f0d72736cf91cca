/- Walks of Go functions, printed by a program (wip/gen). -/
import Derived.Test.YtpiimkfonlijdaaC1
namespace Go.Proofs.Ytpiimkfonlijdaa
open Go Go.RowKit
set_option linter.unusedVariables false
set_option linter.unusedSimpArgs false
theorem c_laws_markByteS (v_a : Value) (a : List UInt8) (L_a : Hp) (k : Int) (w : World) (o_a : OwnF encB 5 v_a a L_a) (h_a : ∀ p, p ∈ L_a → w.heap[p.1]? = some p.2) (h1 : 0 ≤ k) (h2 : k ≤ 1099511627776) (h3 : a.length ≤ 1099511627776) :
    Calls Try.prog 22 #[v_a, i64 k] w fun e w' => ∃ L1, e = .returned (.int .i64 (k + 1 * a.length)) ∧ St w (L_a.map (·.1)) L1 w' ∧ OwnF encB 5 v_a (marks ub 1 k a.length) L1 := by
  obtain ⟨A_a, c_a, rfl⟩ := o_a.shape
  refine enter (vs := [.slice A_a a.length c_a, i64 k]) 20 Try.func22 rfl Try.ntmps22 rfl rfl ?_
  have hs1 := St.lent1 w L_a o_a h_a
  refine WC.seq (fun K2 hK2 => ?_)
  refine WC.region ?_
  refine WL.val rfl rfl rfl (Run.assign rfl rfl) ?_
  refine WL.nil ?_
  refine tkN ?_
  refine hK2 _ _ ?_
  clear hK2
  refine WC.seq (fun K3 hK3 => ?_)
  refine WC.seq (fun K4 hK4 => ?_)
  refine WC.region ?_
  refine WL.val rfl rfl rfl (Run.assign rfl rfl) ?_
  refine WL.nil ?_
  refine tkN ?_
  refine hK4 _ _ ?_
  clear hK4
  refine WC.block ?_
  refine WC.loopO [(4, _)] ⟨rfl, trivial⟩ hs1 (fun k_ f L_ => ∃ (i : Nat) (q : Int), k_ = a.length - i ∧ (i ≤ a.length) ∧ (q = k + 1 * i) ∧ OwnF encB 5 (.slice A_a (a.length) c_a) (fillM ub 1 k a i) L_ ∧ Sub [(0, .slice A_a (a.length) c_a), (5, .int .i64 i), (1, .int .i64 q)] f) (((fun (i : Nat) (q : Int) => a.length - i) (0) (k))) ?_ ?_
  · refine ⟨0, k, rfl, ?_, ?_, (fillM_zero.symm ▸ o_a), ⟨rfl, rfl, rfl, trivial⟩⟩
    · exact Nat.zero_le _
    · simp
  · clear hs1
    rintro _ f w L7 ⟨i, q, rfl, p0, p1, ho8, hG⟩ hF hs9
    refine WC.sub _ (hG.app hF) ?_
    clear hG hF
    have hfl : (fillM ub 1 k a i).length = a.length := fillM_len p0
    have hq : k + ((1 : Nat) : Int) * (i : Int) = q := by omega
    refine WC.seq (fun K10 hK10 => ?_)
    refine WC.seq (fun K11 hK11 => ?_)
    refine WC.region ?_
    refine WL.val rfl rfl rfl (Run.move rfl rfl) ?_
    refine WL.val rfl rfl rfl (Run.move rfl rfl) ?_
    refine WL.val rfl rfl rfl (Run.lenSl Try.runUnderlying22 rfl rfl) ?_
    refine WL.val rfl rfl rfl (Run.lss rfl rfl rfl) ?_
    refine WL.nil ?_
    refine tkN ?_
    refine hK11 _ _ ?_
    clear hK11
    refine WC.cond rfl (fun h12 => ?_) (fun h12 => ?_)
    · have qh12 := h12
      try simp only [decide_eq_true_eq, decide_eq_false_iff_not, Bool.not_eq_true', Bool.not_eq_false', Bool.and_eq_true, Bool.or_eq_false_iff, within_iff, within_not] at qh12
      refine WC.skip ?_
      refine tkN ?_
      refine hK10 _ _ ?_
      clear hK10
      refine WC.seq (fun K13 hK13 => ?_)
      refine WC.block ?_
      refine WC.seq (fun K14 hK14 => ?_)
      refine WC.region ?_
      refine WL.val rfl rfl rfl (Run.move rfl rfl) ?_
      refine WL.val rfl rfl rfl (Run.move rfl rfl) ?_
      refine WL.val rfl rfl rfl (Run.move rfl rfl) ?_
      refine WL.val rfl rfl rfl (Run.convU8 Try.runUnderlying3 Try.runUnderlying5 rfl rfl) ?_
      refine WL.val rfl rfl rfl (Run.idx Try.runUnderlying22 Try.sizeOf5 rfl rfl rfl ?_ ?_ ?_) ?_
      · exact SlF.some_ (SlF.ofOwn ho8 (fun p_ hp_ => (hs9.own p_ (List.mem_append_left _ hp_)).1))
      · omega
      · omega
      refine WL.storeF1 (x' := _) hs9 ho8 Try.sizeOf5 rfl rfl rfl rfl rfl rfl rfl rfl rfl ?_ (by first | rfl | (rw [gat_set (by (try simp only [List.length_set]); omega) rfl]; rfl)) (fun L15 whs16 hs16 ho17 _ => ?_)
      · omega
      refine WL.nil ?_
      refine tkN ?_
      refine hK14 _ _ ?_
      clear hK14
      refine WC.region ?_
      refine WL.val rfl rfl rfl (Run.move rfl rfl) ?_
      refine WL.val rfl rfl rfl (Run.add rfl rfl rfl ?_) ?_
      · constructor <;> omega
      refine WL.val rfl rfl rfl (Run.assign rfl rfl) ?_
      refine WL.nil ?_
      refine ibN ?_
      refine tkN ?_
      refine hK13 _ _ ?_
      clear hK13
      refine WC.region ?_
      refine WL.val rfl rfl rfl (Run.move rfl rfl) ?_
      refine WL.val rfl rfl rfl (Run.add rfl rfl rfl ?_) ?_
      · constructor <;> omega
      refine WL.val rfl rfl rfl (Run.assign rfl rfl) ?_
      refine WL.nil ?_
      refine tkN ?_
      try simp only [List.set_set] at ho17
      rw [fillM_set (i := i) (by omega) (by rw [hq]) (by simp)] at ho17
      refine ⟨⟨rfl, trivial⟩, _, hs16, _, ?_, i + 1, _, rfl, ?_, ?_, ho17, ⟨rfl, rfl, rfl, trivial⟩⟩
      · omega
      · omega
      · omega
    · have qh12 := h12
      try simp only [decide_eq_true_eq, decide_eq_false_iff_not, Bool.not_eq_true', Bool.not_eq_false', Bool.and_eq_true, Bool.or_eq_false_iff, within_iff, within_not] at qh12
      refine WC.exit ?_
      refine tkE ?_
      refine tkE ?_
      refine ibE ?_
      refine tkN ?_
      refine hK3 _ _ ?_
      clear hK3
      refine WC.seq (fun K18 hK18 => ?_)
      refine WC.region ?_
      refine WL.val rfl rfl rfl (Run.move rfl rfl) ?_
      refine WL.val rfl rfl rfl (Run.assign rfl rfl) ?_
      refine WL.nil ?_
      refine tkN ?_
      refine hK18 _ _ ?_
      clear hK18
      refine WC.ret ?_
      refine retV1 rfl (resV.tmp rfl) ?_
      have hx_ := OwnF.eqOf (xs := marks ub 1 k a.length) ho8 (fillM_full (by omega))
      have hi_ : i = a.length := by omega
      refine ⟨_, ?_, (St.keep1 hs9), hx_ ▸ ho8⟩
      rw [p1, hi_]
theorem c_laws_heldByteS (A_a : Option Addr) (n_a c_a : Nat) (a : List UInt8) (k : Int) (w : World) (f_a : SlF encB w A_a n_a a) (h1 : 0 ≤ k) (h2 : k ≤ 1099511627776) (h3 : n_a ≤ 1099511627776) (hm : a = marks ub 1 k n_a) :
    Calls Try.prog 23 #[.slice A_a n_a c_a, i64 k] w fun e w' => e = .returned (.int .i64 (k + 1 * n_a)) ∧ St w [] [] w' := by
  refine enter (vs := [.slice A_a n_a c_a, i64 k]) 22 Try.func23 rfl Try.ntmps23 rfl rfl ?_
  have hs1 := St.init w
  refine WC.seq (fun K2 hK2 => ?_)
  refine WC.region ?_
  refine WL.val rfl rfl rfl (Run.assign rfl rfl) ?_
  refine WL.nil ?_
  refine tkN ?_
  refine hK2 _ _ ?_
  clear hK2
  refine WC.seq (fun K3 hK3 => ?_)
  refine WC.seq (fun K4 hK4 => ?_)
  refine WC.region ?_
  refine WL.val rfl rfl rfl (Run.assign rfl rfl) ?_
  refine WL.nil ?_
  refine tkN ?_
  refine hK4 _ _ ?_
  clear hK4
  refine WC.block ?_
  refine WC.loopS [(0, _)] ⟨rfl, trivial⟩ hs1 (fun k_ f w' => ∃ (i : Nat) (q : Int), k_ = n_a - i ∧ (i ≤ n_a) ∧ (q = k + 1 * i) ∧ Sub [(5, .int .i64 i), (1, .int .i64 q)] f) ((fun (i : Nat) (q : Int) => n_a - i) (0) (k)) ?_ ?_
  · refine ⟨0, k, rfl, ?_, ?_, ⟨rfl, rfl, trivial⟩⟩
    · exact Nat.zero_le _
    · simp
  · clear hs1
    rintro _ f w ⟨i, q, rfl, p0, p1, hG⟩ hF hs5
    refine WC.sub _ (hG.app hF) ?_
    clear hG hF
    have hq : k + ((1 : Nat) : Int) * (i : Int) = q := by omega
    refine WC.seq (fun K6 hK6 => ?_)
    refine WC.seq (fun K7 hK7 => ?_)
    refine WC.region ?_
    refine WL.val rfl rfl rfl (Run.move rfl rfl) ?_
    refine WL.val rfl rfl rfl (Run.move rfl rfl) ?_
    refine WL.val rfl rfl rfl (Run.lenSl Try.runUnderlying22 rfl rfl) ?_
    refine WL.val rfl rfl rfl (Run.lss rfl rfl rfl) ?_
    refine WL.nil ?_
    refine tkN ?_
    refine hK7 _ _ ?_
    clear hK7
    refine WC.cond rfl (fun h8 => ?_) (fun h8 => ?_)
    · have qh8 := h8
      try simp only [decide_eq_true_eq, decide_eq_false_iff_not, Bool.not_eq_true', Bool.not_eq_false', Bool.and_eq_true, Bool.or_eq_false_iff, within_iff, within_not] at qh8
      have hg : gat encB a i = ub q := by rw [hm, marks_gat (by omega), hq]
      refine WC.skip ?_
      refine tkN ?_
      refine hK6 _ _ ?_
      clear hK6
      refine WC.seq (fun K9 hK9 => ?_)
      refine WC.block ?_
      refine WC.seq (fun K10 hK10 => ?_)
      refine WC.seq (fun K11 hK11 => ?_)
      refine WC.region ?_
      refine WL.val rfl rfl rfl (Run.move rfl rfl) ?_
      refine WL.val rfl rfl rfl (Run.move rfl rfl) ?_
      refine WL.val rfl rfl rfl (Run.idx Try.runUnderlying22 Try.sizeOf5 rfl rfl rfl ?_ ?_ ?_) ?_
      · exact SlF.some_ (SlF.st0 f_a hs5)
      · omega
      · omega
      refine WL.val rfl rfl rfl (Run.load Try.isAgg5 rfl rfl (SlF.one1 (SlF.st0 f_a hs5) ?_ rfl)) ?_
      · omega
      refine WL.val rfl rfl rfl (Run.move rfl rfl) ?_
      refine WL.val rfl rfl rfl (Run.convU8 Try.runUnderlying3 Try.runUnderlying5 rfl rfl) ?_
      refine WL.val rfl rfl rfl (Run.neq rfl rfl rfl) ?_
      refine WL.nil ?_
      refine tkN ?_
      refine hK11 _ _ ?_
      clear hK11
      refine WC.condF rfl (by simp [hg]) ?_
      refine WC.skip ?_
      refine tkN ?_
      refine hK10 _ _ ?_
      clear hK10
      refine WC.region ?_
      refine WL.val rfl rfl rfl (Run.move rfl rfl) ?_
      refine WL.val rfl rfl rfl (Run.add rfl rfl rfl ?_) ?_
      · constructor <;> omega
      refine WL.val rfl rfl rfl (Run.assign rfl rfl) ?_
      refine WL.nil ?_
      refine ibN ?_
      refine tkN ?_
      refine hK9 _ _ ?_
      clear hK9
      refine WC.region ?_
      refine WL.val rfl rfl rfl (Run.move rfl rfl) ?_
      refine WL.val rfl rfl rfl (Run.add rfl rfl rfl ?_) ?_
      · constructor <;> omega
      refine WL.val rfl rfl rfl (Run.assign rfl rfl) ?_
      refine WL.nil ?_
      refine tkN ?_
      refine ⟨⟨rfl, trivial⟩, hs5, _, ?_, i + 1, _, rfl, ?_, ?_, ⟨rfl, rfl, trivial⟩⟩
      · omega
      · omega
      · omega
    · have qh8 := h8
      try simp only [decide_eq_true_eq, decide_eq_false_iff_not, Bool.not_eq_true', Bool.not_eq_false', Bool.and_eq_true, Bool.or_eq_false_iff, within_iff, within_not] at qh8
      refine WC.exit ?_
      refine tkE ?_
      refine tkE ?_
      refine ibE ?_
      refine tkN ?_
      refine hK3 _ _ ?_
      clear hK3
      refine WC.seq (fun K13 hK13 => ?_)
      refine WC.region ?_
      refine WL.val rfl rfl rfl (Run.move rfl rfl) ?_
      refine WL.val rfl rfl rfl (Run.assign rfl rfl) ?_
      refine WL.nil ?_
      refine tkN ?_
      refine hK13 _ _ ?_
      clear hK13
      refine WC.ret ?_
      refine retV1 rfl (resV.tmp rfl) ?_
      refine ⟨congrArg Ending.returned ?_, hs5.nil⟩
      rw [p1, show i = n_a from by omega]
theorem c_laws_markCellS (v_a : Value) (a : List CellD) (L_a : Hp) (k : Int) (w : World) (o_a : OwnF encCell 81 v_a a L_a) (h_a : ∀ p, p ∈ L_a → w.heap[p.1]? = some p.2) (h1 : 0 ≤ k) (h2 : k ≤ 1099511627776) (h3 : a.length ≤ 1099511627776) :
    Calls Try.prog 21 #[v_a, i64 k] w fun e w' => ∃ L1, e = .returned (.int .i64 (k + 6 * a.length)) ∧ St w (L_a.map (·.1)) L1 w' ∧ OwnF encCell 81 v_a (marks mkCell 6 k a.length) L1 := by
  obtain ⟨A_a, c_a, rfl⟩ := o_a.shape
  refine enter (vs := [.slice A_a a.length c_a, i64 k]) 66 Try.func21 rfl Try.ntmps21 rfl rfl ?_
  have hs1 := St.lent1 w L_a o_a h_a
  refine WC.seq (fun K2 hK2 => ?_)
  refine WC.region ?_
  refine WL.val rfl rfl rfl (Run.assign rfl rfl) ?_
  refine WL.nil ?_
  refine tkN ?_
  refine hK2 _ _ ?_
  clear hK2
  refine WC.seq (fun K3 hK3 => ?_)
  refine WC.seq (fun K4 hK4 => ?_)
  refine WC.region ?_
  refine WL.val rfl rfl rfl (Run.assign rfl rfl) ?_
  refine WL.nil ?_
  refine tkN ?_
  refine hK4 _ _ ?_
  clear hK4
  refine WC.block ?_
  refine WC.loopO [(4, _)] ⟨rfl, trivial⟩ hs1 (fun k_ f L_ => ∃ (i : Nat) (q : Int), k_ = a.length - i ∧ (i ≤ a.length) ∧ (q = k + 6 * i) ∧ OwnF encCell 81 (.slice A_a (a.length) c_a) (fillM mkCell 6 k a i) L_ ∧ Sub [(0, .slice A_a (a.length) c_a), (5, .int .i64 i), (1, .int .i64 q)] f) (((fun (i : Nat) (q : Int) => a.length - i) (0) (k))) ?_ ?_
  · refine ⟨0, k, rfl, ?_, ?_, (fillM_zero.symm ▸ o_a), ⟨rfl, rfl, rfl, trivial⟩⟩
    · exact Nat.zero_le _
    · simp
  · clear hs1
    rintro _ f w L7 ⟨i, q, rfl, p0, p1, ho8, hG⟩ hF hs9
    refine WC.sub _ (hG.app hF) ?_
    clear hG hF
    have hfl : (fillM mkCell 6 k a i).length = a.length := fillM_len p0
    have hq : k + ((6 : Nat) : Int) * (i : Int) = q := by omega
    refine WC.seq (fun K10 hK10 => ?_)
    refine WC.seq (fun K11 hK11 => ?_)
    refine WC.region ?_
    refine WL.val rfl rfl rfl (Run.move rfl rfl) ?_
    refine WL.val rfl rfl rfl (Run.move rfl rfl) ?_
    refine WL.val rfl rfl rfl (Run.lenSl Try.runUnderlying35 rfl rfl) ?_
    refine WL.val rfl rfl rfl (Run.lss rfl rfl rfl) ?_
    refine WL.nil ?_
    refine tkN ?_
    refine hK11 _ _ ?_
    clear hK11
    refine WC.cond rfl (fun h12 => ?_) (fun h12 => ?_)
    · have qh12 := h12
      try simp only [decide_eq_true_eq, decide_eq_false_iff_not, Bool.not_eq_true', Bool.not_eq_false', Bool.and_eq_true, Bool.or_eq_false_iff, within_iff, within_not] at qh12
      refine WC.skip ?_
      refine tkN ?_
      refine hK10 _ _ ?_
      clear hK10
      refine WC.seq (fun K13 hK13 => ?_)
      refine WC.block ?_
      refine WC.seq (fun K14 hK14 => ?_)
      refine WC.region ?_
      refine WL.val rfl rfl rfl (Run.move rfl rfl) ?_
      refine WL.val rfl rfl rfl (Run.move rfl rfl) ?_
      refine WL.val rfl rfl rfl (Run.move rfl rfl) ?_
      refine WL.val rfl rfl rfl (Run.idx Try.runUnderlying35 Try.sizeOf81 rfl rfl rfl ?_ ?_ ?_) ?_
      · exact SlF.some_ (SlF.ofOwn ho8 (fun p_ hp_ => (hs9.own p_ (List.mem_append_left _ hp_)).1))
      · omega
      · omega
      refine WL.val rfl rfl rfl (Run.fieldO Try.runUnderlying81 rfl rfl rfl Try.sizeOf3 rfl) ?_
      refine WL.storeF (x' := ⟨q, ⟨(gat encCell (fillM mkCell 6 k a i) i).A.Fg, (gat encCell (fillM mkCell 6 k a i) i).A.Bg, (gat encCell (fillM mkCell 6 k a i) i).A.Bold, (gat encCell (fillM mkCell 6 k a i) i).A.Under, (gat encCell (fillM mkCell 6 k a i) i).A.Turn⟩⟩) hs9 ho8 Try.sizeOf3 rfl rfl rfl rfl rfl rfl rfl rfl rfl ?_ (by first | rfl | (rw [gat_set (by (try simp only [List.length_set]); omega) rfl]; rfl)) (fun L15 whs16 hs16 ho17 _ => ?_)
      · omega
      refine WL.nil ?_
      refine tkN ?_
      refine hK14 _ _ ?_
      clear hK14
      refine WC.seq (fun K18 hK18 => ?_)
      refine WC.region ?_
      refine WL.val rfl rfl rfl (Run.move rfl rfl) ?_
      refine WL.val rfl rfl rfl (Run.add rfl rfl rfl ?_) ?_
      · constructor <;> omega
      refine WL.val rfl rfl rfl (Run.assign rfl rfl) ?_
      refine WL.nil ?_
      refine tkN ?_
      refine hK18 _ _ ?_
      clear hK18
      refine WC.seq (fun K19 hK19 => ?_)
      refine WC.region ?_
      refine WL.val rfl rfl rfl (Run.move rfl rfl) ?_
      refine WL.val rfl rfl rfl (Run.move rfl rfl) ?_
      refine WL.val rfl rfl rfl (Run.move rfl rfl) ?_
      refine WL.val rfl rfl rfl (Run.idx Try.runUnderlying35 Try.sizeOf81 rfl rfl rfl ?_ ?_ ?_) ?_
      · exact SlF.some_ (SlF.ofOwn ho17 (fun p_ hp_ => (hs16.own p_ (List.mem_append_left _ hp_)).1))
      · omega
      · omega
      refine WL.val rfl rfl rfl (Run.fieldO Try.runUnderlying81 rfl rfl rfl Try.sizeOf57 rfl) ?_
      refine WL.val rfl rfl rfl (Run.fieldE Try.runUnderlying57 rfl rfl rfl Try.sizeOf3 rfl) ?_
      refine WL.storeF (x' := ⟨q, ⟨(q + 1), (gat encCell (fillM mkCell 6 k a i) i).A.Bg, (gat encCell (fillM mkCell 6 k a i) i).A.Bold, (gat encCell (fillM mkCell 6 k a i) i).A.Under, (gat encCell (fillM mkCell 6 k a i) i).A.Turn⟩⟩) hs16 ho17 Try.sizeOf3 rfl rfl rfl rfl rfl rfl rfl rfl rfl ?_ (by first | rfl | (rw [gat_set (by (try simp only [List.length_set]); omega) rfl]; rfl)) (fun L20 whs21 hs21 ho22 _ => ?_)
      · omega
      refine WL.nil ?_
      refine tkN ?_
      refine hK19 _ _ ?_
      clear hK19
      refine WC.seq (fun K23 hK23 => ?_)
      refine WC.region ?_
      refine WL.val rfl rfl rfl (Run.move rfl rfl) ?_
      refine WL.val rfl rfl rfl (Run.add rfl rfl rfl ?_) ?_
      · constructor <;> omega
      refine WL.val rfl rfl rfl (Run.assign rfl rfl) ?_
      refine WL.nil ?_
      refine tkN ?_
      refine hK23 _ _ ?_
      clear hK23
      refine WC.seq (fun K24 hK24 => ?_)
      refine WC.region ?_
      refine WL.val rfl rfl rfl (Run.move rfl rfl) ?_
      refine WL.val rfl rfl rfl (Run.move rfl rfl) ?_
      refine WL.val rfl rfl rfl (Run.move rfl rfl) ?_
      refine WL.val rfl rfl rfl (Run.idx Try.runUnderlying35 Try.sizeOf81 rfl rfl rfl ?_ ?_ ?_) ?_
      · exact SlF.some_ (SlF.ofOwn ho22 (fun p_ hp_ => (hs21.own p_ (List.mem_append_left _ hp_)).1))
      · omega
      · omega
      refine WL.val rfl rfl rfl (Run.fieldO Try.runUnderlying81 rfl rfl rfl Try.sizeOf57 rfl) ?_
      refine WL.val rfl rfl rfl (Run.fieldE Try.runUnderlying57 rfl rfl rfl Try.sizeOf3 rfl) ?_
      refine WL.storeF (x' := ⟨q, ⟨(q + 1), (q + 1 + 1), (gat encCell (fillM mkCell 6 k a i) i).A.Bold, (gat encCell (fillM mkCell 6 k a i) i).A.Under, (gat encCell (fillM mkCell 6 k a i) i).A.Turn⟩⟩) hs21 ho22 Try.sizeOf3 rfl rfl rfl rfl rfl rfl rfl rfl rfl ?_ (by first | rfl | (rw [gat_set (by (try simp only [List.length_set]); omega) rfl]; rfl)) (fun L25 whs26 hs26 ho27 _ => ?_)
      · omega
      refine WL.nil ?_
      refine tkN ?_
      refine hK24 _ _ ?_
      clear hK24
      refine WC.seq (fun K28 hK28 => ?_)
      refine WC.region ?_
      refine WL.val rfl rfl rfl (Run.move rfl rfl) ?_
      refine WL.val rfl rfl rfl (Run.add rfl rfl rfl ?_) ?_
      · constructor <;> omega
      refine WL.val rfl rfl rfl (Run.assign rfl rfl) ?_
      refine WL.nil ?_
      refine tkN ?_
      refine hK28 _ _ ?_
      clear hK28
      refine WC.seq (fun K29 hK29 => ?_)
      refine WC.region ?_
      refine WL.val rfl rfl rfl (Run.move rfl rfl) ?_
      refine WL.val rfl rfl rfl (Run.move rfl rfl) ?_
      refine WL.val rfl rfl rfl (Run.move rfl rfl) ?_
      refine WL.val rfl rfl rfl (Run.rem rfl rfl rfl ?_ ?_) ?_
      · omega
      · omega
      refine WL.val rfl rfl rfl (Run.eql rfl rfl rfl) ?_
      refine WL.val rfl rfl rfl (Run.idx Try.runUnderlying35 Try.sizeOf81 rfl rfl rfl ?_ ?_ ?_) ?_
      · exact SlF.some_ (SlF.ofOwn ho27 (fun p_ hp_ => (hs26.own p_ (List.mem_append_left _ hp_)).1))
      · omega
      · omega
      refine WL.val rfl rfl rfl (Run.fieldO Try.runUnderlying81 rfl rfl rfl Try.sizeOf57 rfl) ?_
      refine WL.val rfl rfl rfl (Run.fieldE Try.runUnderlying57 rfl rfl rfl Try.sizeOf4 rfl) ?_
      refine WL.storeF (x' := ⟨q, ⟨(q + 1), (q + 1 + 1), decide ((q + 1 + 1 + 1) % 3 = 0), (gat encCell (fillM mkCell 6 k a i) i).A.Under, (gat encCell (fillM mkCell 6 k a i) i).A.Turn⟩⟩) hs26 ho27 Try.sizeOf4 rfl rfl rfl rfl rfl rfl rfl rfl rfl ?_ (by first | rfl | (rw [gat_set (by (try simp only [List.length_set]); omega) rfl]; rfl)) (fun L30 whs31 hs31 ho32 _ => ?_)
      · omega
      refine WL.nil ?_
      refine tkN ?_
      refine hK29 _ _ ?_
      clear hK29
      refine WC.seq (fun K33 hK33 => ?_)
      refine WC.region ?_
      refine WL.val rfl rfl rfl (Run.move rfl rfl) ?_
      refine WL.val rfl rfl rfl (Run.add rfl rfl rfl ?_) ?_
      · constructor <;> omega
      refine WL.val rfl rfl rfl (Run.assign rfl rfl) ?_
      refine WL.nil ?_
      refine tkN ?_
      refine hK33 _ _ ?_
      clear hK33
      refine WC.seq (fun K34 hK34 => ?_)
      refine WC.region ?_
      refine WL.val rfl rfl rfl (Run.move rfl rfl) ?_
      refine WL.val rfl rfl rfl (Run.move rfl rfl) ?_
      refine WL.val rfl rfl rfl (Run.move rfl rfl) ?_
      refine WL.val rfl rfl rfl (Run.rem rfl rfl rfl ?_ ?_) ?_
      · omega
      · omega
      refine WL.val rfl rfl rfl (Run.eql rfl rfl rfl) ?_
      refine WL.val rfl rfl rfl (Run.idx Try.runUnderlying35 Try.sizeOf81 rfl rfl rfl ?_ ?_ ?_) ?_
      · exact SlF.some_ (SlF.ofOwn ho32 (fun p_ hp_ => (hs31.own p_ (List.mem_append_left _ hp_)).1))
      · omega
      · omega
      refine WL.val rfl rfl rfl (Run.fieldO Try.runUnderlying81 rfl rfl rfl Try.sizeOf57 rfl) ?_
      refine WL.val rfl rfl rfl (Run.fieldE Try.runUnderlying57 rfl rfl rfl Try.sizeOf4 rfl) ?_
      refine WL.storeF (x' := ⟨q, ⟨(q + 1), (q + 1 + 1), decide ((q + 1 + 1 + 1) % 3 = 0), decide ((q + 1 + 1 + 1 + 1) % 3 = 0), (gat encCell (fillM mkCell 6 k a i) i).A.Turn⟩⟩) hs31 ho32 Try.sizeOf4 rfl rfl rfl rfl rfl rfl rfl rfl rfl ?_ (by first | rfl | (rw [gat_set (by (try simp only [List.length_set]); omega) rfl]; rfl)) (fun L35 whs36 hs36 ho37 _ => ?_)
      · omega
      refine WL.nil ?_
      refine tkN ?_
      refine hK34 _ _ ?_
      clear hK34
      refine WC.seq (fun K38 hK38 => ?_)
      refine WC.region ?_
      refine WL.val rfl rfl rfl (Run.move rfl rfl) ?_
      refine WL.val rfl rfl rfl (Run.add rfl rfl rfl ?_) ?_
      · constructor <;> omega
      refine WL.val rfl rfl rfl (Run.assign rfl rfl) ?_
      refine WL.nil ?_
      refine tkN ?_
      refine hK38 _ _ ?_
      clear hK38
      refine WC.seq (fun K39 hK39 => ?_)
      refine WC.region ?_
      refine WL.val rfl rfl rfl (Run.move rfl rfl) ?_
      refine WL.val rfl rfl rfl (Run.move rfl rfl) ?_
      refine WL.val rfl rfl rfl (Run.move rfl rfl) ?_
      refine WL.val rfl rfl rfl (Run.rem rfl rfl rfl ?_ ?_) ?_
      · omega
      · omega
      refine WL.val rfl rfl rfl (Run.eql rfl rfl rfl) ?_
      refine WL.val rfl rfl rfl (Run.idx Try.runUnderlying35 Try.sizeOf81 rfl rfl rfl ?_ ?_ ?_) ?_
      · exact SlF.some_ (SlF.ofOwn ho37 (fun p_ hp_ => (hs36.own p_ (List.mem_append_left _ hp_)).1))
      · omega
      · omega
      refine WL.val rfl rfl rfl (Run.fieldO Try.runUnderlying81 rfl rfl rfl Try.sizeOf57 rfl) ?_
      refine WL.val rfl rfl rfl (Run.fieldE Try.runUnderlying57 rfl rfl rfl Try.sizeOf4 rfl) ?_
      refine WL.storeF (x' := ⟨q, ⟨(q + 1), (q + 1 + 1), decide ((q + 1 + 1 + 1) % 3 = 0), decide ((q + 1 + 1 + 1 + 1) % 3 = 0), decide ((q + 1 + 1 + 1 + 1 + 1) % 3 = 0)⟩⟩) hs36 ho37 Try.sizeOf4 rfl rfl rfl rfl rfl rfl rfl rfl rfl ?_ (by first | rfl | (rw [gat_set (by (try simp only [List.length_set]); omega) rfl]; rfl)) (fun L40 whs41 hs41 ho42 _ => ?_)
      · omega
      refine WL.nil ?_
      refine tkN ?_
      refine hK39 _ _ ?_
      clear hK39
      refine WC.region ?_
      refine WL.val rfl rfl rfl (Run.move rfl rfl) ?_
      refine WL.val rfl rfl rfl (Run.add rfl rfl rfl ?_) ?_
      · constructor <;> omega
      refine WL.val rfl rfl rfl (Run.assign rfl rfl) ?_
      refine WL.nil ?_
      refine ibN ?_
      refine tkN ?_
      refine hK13 _ _ ?_
      clear hK13
      refine WC.region ?_
      refine WL.val rfl rfl rfl (Run.move rfl rfl) ?_
      refine WL.val rfl rfl rfl (Run.add rfl rfl rfl ?_) ?_
      · constructor <;> omega
      refine WL.val rfl rfl rfl (Run.assign rfl rfl) ?_
      refine WL.nil ?_
      refine tkN ?_
      try simp only [List.set_set] at ho42
      rw [fillM_set (i := i) (by omega) (by rw [hq]; rfl) (by simp)] at ho42
      refine ⟨⟨rfl, trivial⟩, _, hs41, _, ?_, i + 1, _, rfl, ?_, ?_, ho42, ⟨rfl, rfl, rfl, trivial⟩⟩
      · omega
      · omega
      · omega
    · have qh12 := h12
      try simp only [decide_eq_true_eq, decide_eq_false_iff_not, Bool.not_eq_true', Bool.not_eq_false', Bool.and_eq_true, Bool.or_eq_false_iff, within_iff, within_not] at qh12
      refine WC.exit ?_
      refine tkE ?_
      refine tkE ?_
      refine ibE ?_
      refine tkN ?_
      refine hK3 _ _ ?_
      clear hK3
      refine WC.seq (fun K43 hK43 => ?_)
      refine WC.region ?_
      refine WL.val rfl rfl rfl (Run.move rfl rfl) ?_
      refine WL.val rfl rfl rfl (Run.assign rfl rfl) ?_
      refine WL.nil ?_
      refine tkN ?_
      refine hK43 _ _ ?_
      clear hK43
      refine WC.ret ?_
      refine retV1 rfl (resV.tmp rfl) ?_
      have hx_ := OwnF.eqOf (xs := marks mkCell 6 k a.length) ho8 (fillM_full (by omega))
      have hi_ : i = a.length := by omega
      refine ⟨_, ?_, (St.keep1 hs9), hx_ ▸ ho8⟩
      rw [p1, hi_]
theorem c_laws_heldCellS (A_a : Option Addr) (n_a c_a : Nat) (a : List CellD) (k : Int) (w : World) (f_a : SlF encCell w A_a n_a a) (h1 : 0 ≤ k) (h2 : k ≤ 1099511627776) (h3 : n_a ≤ 1099511627776) (hm : a = marks mkCell 6 k n_a) :
    Calls Try.prog 30 #[.slice A_a n_a c_a, i64 k] w fun e w' => e = .returned (.int .i64 (k + 6 * n_a)) ∧ St w [] [] w' := by
  refine enter (vs := [.slice A_a n_a c_a, i64 k]) 78 Try.func30 rfl Try.ntmps30 rfl rfl ?_
  have hs1 := St.init w
  refine WC.seq (fun K2 hK2 => ?_)
  refine WC.region ?_
  refine WL.val rfl rfl rfl (Run.assign rfl rfl) ?_
  refine WL.nil ?_
  refine tkN ?_
  refine hK2 _ _ ?_
  clear hK2
  refine WC.seq (fun K3 hK3 => ?_)
  refine WC.seq (fun K4 hK4 => ?_)
  refine WC.region ?_
  refine WL.val rfl rfl rfl (Run.assign rfl rfl) ?_
  refine WL.nil ?_
  refine tkN ?_
  refine hK4 _ _ ?_
  clear hK4
  refine WC.block ?_
  refine WC.loopS [(0, _)] ⟨rfl, trivial⟩ hs1 (fun k_ f w' => ∃ (i : Nat) (q : Int), k_ = n_a - i ∧ (i ≤ n_a) ∧ (q = k + 6 * i) ∧ Sub [(5, .int .i64 i), (1, .int .i64 q)] f) ((fun (i : Nat) (q : Int) => n_a - i) (0) (k)) ?_ ?_
  · refine ⟨0, k, rfl, ?_, ?_, ⟨rfl, rfl, trivial⟩⟩
    · exact Nat.zero_le _
    · simp
  · clear hs1
    rintro _ f w ⟨i, q, rfl, p0, p1, hG⟩ hF hs5
    refine WC.sub _ (hG.app hF) ?_
    clear hG hF
    have hq : k + ((6 : Nat) : Int) * (i : Int) = q := by omega
    refine WC.seq (fun K6 hK6 => ?_)
    refine WC.seq (fun K7 hK7 => ?_)
    refine WC.region ?_
    refine WL.val rfl rfl rfl (Run.move rfl rfl) ?_
    refine WL.val rfl rfl rfl (Run.move rfl rfl) ?_
    refine WL.val rfl rfl rfl (Run.lenSl Try.runUnderlying35 rfl rfl) ?_
    refine WL.val rfl rfl rfl (Run.lss rfl rfl rfl) ?_
    refine WL.nil ?_
    refine tkN ?_
    refine hK7 _ _ ?_
    clear hK7
    refine WC.cond rfl (fun h8 => ?_) (fun h8 => ?_)
    · have qh8 := h8
      try simp only [decide_eq_true_eq, decide_eq_false_iff_not, Bool.not_eq_true', Bool.not_eq_false', Bool.and_eq_true, Bool.or_eq_false_iff, within_iff, within_not] at qh8
      have hg : gat encCell a i = mkCell q := by rw [hm, marks_gat (by omega), hq]
      refine WC.skip ?_
      refine tkN ?_
      refine hK6 _ _ ?_
      clear hK6
      refine WC.seq (fun K9 hK9 => ?_)
      refine WC.block ?_
      refine WC.seq (fun K10 hK10 => ?_)
      refine WC.seq (fun K11 hK11 => ?_)
      refine WC.region ?_
      refine WL.val rfl rfl rfl (Run.move rfl rfl) ?_
      refine WL.val rfl rfl rfl (Run.move rfl rfl) ?_
      refine WL.val rfl rfl rfl (Run.idx Try.runUnderlying35 Try.sizeOf81 rfl rfl rfl ?_ ?_ ?_) ?_
      · exact SlF.some_ (SlF.st0 f_a hs5)
      · omega
      · omega
      refine WL.val rfl rfl rfl (Run.fieldO Try.runUnderlying81 rfl rfl rfl Try.sizeOf3 rfl) ?_
      refine WL.val rfl rfl rfl (Run.load Try.isAgg3 rfl rfl (SlF.fld (SlF.st0 f_a hs5) ?_ rfl)) ?_
      · omega
      refine WL.val rfl rfl rfl (Run.move rfl rfl) ?_
      refine WL.val rfl rfl rfl (Run.neq rfl rfl rfl) ?_
      refine WL.nil ?_
      refine tkN ?_
      refine hK11 _ _ ?_
      clear hK11
      refine WC.condF rfl (by simp [hg, mkCell]) ?_
      refine WC.skip ?_
      refine tkN ?_
      refine hK10 _ _ ?_
      clear hK10
      refine WC.seq (fun K13 hK13 => ?_)
      refine WC.region ?_
      refine WL.val rfl rfl rfl (Run.move rfl rfl) ?_
      refine WL.val rfl rfl rfl (Run.add rfl rfl rfl ?_) ?_
      · constructor <;> omega
      refine WL.val rfl rfl rfl (Run.assign rfl rfl) ?_
      refine WL.nil ?_
      refine tkN ?_
      refine hK13 _ _ ?_
      clear hK13
      refine WC.seq (fun K14 hK14 => ?_)
      refine WC.seq (fun K15 hK15 => ?_)
      refine WC.region ?_
      refine WL.val rfl rfl rfl (Run.move rfl rfl) ?_
      refine WL.val rfl rfl rfl (Run.move rfl rfl) ?_
      refine WL.val rfl rfl rfl (Run.idx Try.runUnderlying35 Try.sizeOf81 rfl rfl rfl ?_ ?_ ?_) ?_
      · exact SlF.some_ (SlF.st0 f_a hs5)
      · omega
      · omega
      refine WL.val rfl rfl rfl (Run.fieldO Try.runUnderlying81 rfl rfl rfl Try.sizeOf57 rfl) ?_
      refine WL.val rfl rfl rfl (Run.fieldE Try.runUnderlying57 rfl rfl rfl Try.sizeOf3 rfl) ?_
      refine WL.val rfl rfl rfl (Run.load Try.isAgg3 rfl rfl (SlF.fld (SlF.st0 f_a hs5) ?_ rfl)) ?_
      · omega
      refine WL.val rfl rfl rfl (Run.move rfl rfl) ?_
      refine WL.val rfl rfl rfl (Run.neq rfl rfl rfl) ?_
      refine WL.nil ?_
      refine tkN ?_
      refine hK15 _ _ ?_
      clear hK15
      refine WC.condF rfl (by simp [hg, mkCell]) ?_
      refine WC.skip ?_
      refine tkN ?_
      refine hK14 _ _ ?_
      clear hK14
      refine WC.seq (fun K17 hK17 => ?_)
      refine WC.region ?_
      refine WL.val rfl rfl rfl (Run.move rfl rfl) ?_
      refine WL.val rfl rfl rfl (Run.add rfl rfl rfl ?_) ?_
      · constructor <;> omega
      refine WL.val rfl rfl rfl (Run.assign rfl rfl) ?_
      refine WL.nil ?_
      refine tkN ?_
      refine hK17 _ _ ?_
      clear hK17
      refine WC.seq (fun K18 hK18 => ?_)
      refine WC.seq (fun K19 hK19 => ?_)
      refine WC.region ?_
      refine WL.val rfl rfl rfl (Run.move rfl rfl) ?_
      refine WL.val rfl rfl rfl (Run.move rfl rfl) ?_
      refine WL.val rfl rfl rfl (Run.idx Try.runUnderlying35 Try.sizeOf81 rfl rfl rfl ?_ ?_ ?_) ?_
      · exact SlF.some_ (SlF.st0 f_a hs5)
      · omega
      · omega
      refine WL.val rfl rfl rfl (Run.fieldO Try.runUnderlying81 rfl rfl rfl Try.sizeOf57 rfl) ?_
      refine WL.val rfl rfl rfl (Run.fieldE Try.runUnderlying57 rfl rfl rfl Try.sizeOf3 rfl) ?_
      refine WL.val rfl rfl rfl (Run.load Try.isAgg3 rfl rfl (SlF.fld (SlF.st0 f_a hs5) ?_ rfl)) ?_
      · omega
      refine WL.val rfl rfl rfl (Run.move rfl rfl) ?_
      refine WL.val rfl rfl rfl (Run.neq rfl rfl rfl) ?_
      refine WL.nil ?_
      refine tkN ?_
      refine hK19 _ _ ?_
      clear hK19
      refine WC.condF rfl (by simp [hg, mkCell]) ?_
      refine WC.skip ?_
      refine tkN ?_
      refine hK18 _ _ ?_
      clear hK18
      refine WC.seq (fun K21 hK21 => ?_)
      refine WC.region ?_
      refine WL.val rfl rfl rfl (Run.move rfl rfl) ?_
      refine WL.val rfl rfl rfl (Run.add rfl rfl rfl ?_) ?_
      · constructor <;> omega
      refine WL.val rfl rfl rfl (Run.assign rfl rfl) ?_
      refine WL.nil ?_
      refine tkN ?_
      refine hK21 _ _ ?_
      clear hK21
      refine WC.seq (fun K22 hK22 => ?_)
      refine WC.seq (fun K23 hK23 => ?_)
      refine WC.region ?_
      refine WL.val rfl rfl rfl (Run.move rfl rfl) ?_
      refine WL.val rfl rfl rfl (Run.move rfl rfl) ?_
      refine WL.val rfl rfl rfl (Run.idx Try.runUnderlying35 Try.sizeOf81 rfl rfl rfl ?_ ?_ ?_) ?_
      · exact SlF.some_ (SlF.st0 f_a hs5)
      · omega
      · omega
      refine WL.val rfl rfl rfl (Run.fieldO Try.runUnderlying81 rfl rfl rfl Try.sizeOf57 rfl) ?_
      refine WL.val rfl rfl rfl (Run.fieldE Try.runUnderlying57 rfl rfl rfl Try.sizeOf4 rfl) ?_
      refine WL.val rfl rfl rfl (Run.load Try.isAgg4 rfl rfl (SlF.fld (SlF.st0 f_a hs5) ?_ rfl)) ?_
      · omega
      refine WL.val rfl rfl rfl (Run.move rfl rfl) ?_
      refine WL.val rfl rfl rfl (Run.rem rfl rfl rfl ?_ ?_) ?_
      · omega
      · omega
      refine WL.val rfl rfl rfl (Run.eql rfl rfl rfl) ?_
      refine WL.val rfl rfl rfl (Run.neqB Try.runUnderlying4 rfl rfl rfl) ?_
      refine WL.nil ?_
      refine tkN ?_
      refine hK23 _ _ ?_
      clear hK23
      refine WC.condF rfl (by simp [hg, mkCell]) ?_
      refine WC.skip ?_
      refine tkN ?_
      refine hK22 _ _ ?_
      clear hK22
      refine WC.seq (fun K25 hK25 => ?_)
      refine WC.region ?_
      refine WL.val rfl rfl rfl (Run.move rfl rfl) ?_
      refine WL.val rfl rfl rfl (Run.add rfl rfl rfl ?_) ?_
      · constructor <;> omega
      refine WL.val rfl rfl rfl (Run.assign rfl rfl) ?_
      refine WL.nil ?_
      refine tkN ?_
      refine hK25 _ _ ?_
      clear hK25
      refine WC.seq (fun K26 hK26 => ?_)
      refine WC.seq (fun K27 hK27 => ?_)
      refine WC.region ?_
      refine WL.val rfl rfl rfl (Run.move rfl rfl) ?_
      refine WL.val rfl rfl rfl (Run.move rfl rfl) ?_
      refine WL.val rfl rfl rfl (Run.idx Try.runUnderlying35 Try.sizeOf81 rfl rfl rfl ?_ ?_ ?_) ?_
      · exact SlF.some_ (SlF.st0 f_a hs5)
      · omega
      · omega
      refine WL.val rfl rfl rfl (Run.fieldO Try.runUnderlying81 rfl rfl rfl Try.sizeOf57 rfl) ?_
      refine WL.val rfl rfl rfl (Run.fieldE Try.runUnderlying57 rfl rfl rfl Try.sizeOf4 rfl) ?_
      refine WL.val rfl rfl rfl (Run.load Try.isAgg4 rfl rfl (SlF.fld (SlF.st0 f_a hs5) ?_ rfl)) ?_
      · omega
      refine WL.val rfl rfl rfl (Run.move rfl rfl) ?_
      refine WL.val rfl rfl rfl (Run.rem rfl rfl rfl ?_ ?_) ?_
      · omega
      · omega
      refine WL.val rfl rfl rfl (Run.eql rfl rfl rfl) ?_
      refine WL.val rfl rfl rfl (Run.neqB Try.runUnderlying4 rfl rfl rfl) ?_
      refine WL.nil ?_
      refine tkN ?_
      refine hK27 _ _ ?_
      clear hK27
      refine WC.condF rfl (by simp [hg, mkCell]) ?_
      refine WC.skip ?_
      refine tkN ?_
      refine hK26 _ _ ?_
      clear hK26
      refine WC.seq (fun K29 hK29 => ?_)
      refine WC.region ?_
      refine WL.val rfl rfl rfl (Run.move rfl rfl) ?_
      refine WL.val rfl rfl rfl (Run.add rfl rfl rfl ?_) ?_
      · constructor <;> omega
      refine WL.val rfl rfl rfl (Run.assign rfl rfl) ?_
      refine WL.nil ?_
      refine tkN ?_
      refine hK29 _ _ ?_
      clear hK29
      refine WC.seq (fun K30 hK30 => ?_)
      refine WC.seq (fun K31 hK31 => ?_)
      refine WC.region ?_
      refine WL.val rfl rfl rfl (Run.move rfl rfl) ?_
      refine WL.val rfl rfl rfl (Run.move rfl rfl) ?_
      refine WL.val rfl rfl rfl (Run.idx Try.runUnderlying35 Try.sizeOf81 rfl rfl rfl ?_ ?_ ?_) ?_
      · exact SlF.some_ (SlF.st0 f_a hs5)
      · omega
      · omega
      refine WL.val rfl rfl rfl (Run.fieldO Try.runUnderlying81 rfl rfl rfl Try.sizeOf57 rfl) ?_
      refine WL.val rfl rfl rfl (Run.fieldE Try.runUnderlying57 rfl rfl rfl Try.sizeOf4 rfl) ?_
      refine WL.val rfl rfl rfl (Run.load Try.isAgg4 rfl rfl (SlF.fld (SlF.st0 f_a hs5) ?_ rfl)) ?_
      · omega
      refine WL.val rfl rfl rfl (Run.move rfl rfl) ?_
      refine WL.val rfl rfl rfl (Run.rem rfl rfl rfl ?_ ?_) ?_
      · omega
      · omega
      refine WL.val rfl rfl rfl (Run.eql rfl rfl rfl) ?_
      refine WL.val rfl rfl rfl (Run.neqB Try.runUnderlying4 rfl rfl rfl) ?_
      refine WL.nil ?_
      refine tkN ?_
      refine hK31 _ _ ?_
      clear hK31
      refine WC.condF rfl (by simp [hg, mkCell]) ?_
      refine WC.skip ?_
      refine tkN ?_
      refine hK30 _ _ ?_
      clear hK30
      refine WC.region ?_
      refine WL.val rfl rfl rfl (Run.move rfl rfl) ?_
      refine WL.val rfl rfl rfl (Run.add rfl rfl rfl ?_) ?_
      · constructor <;> omega
      refine WL.val rfl rfl rfl (Run.assign rfl rfl) ?_
      refine WL.nil ?_
      refine ibN ?_
      refine tkN ?_
      refine hK9 _ _ ?_
      clear hK9
      refine WC.region ?_
      refine WL.val rfl rfl rfl (Run.move rfl rfl) ?_
      refine WL.val rfl rfl rfl (Run.add rfl rfl rfl ?_) ?_
      · constructor <;> omega
      refine WL.val rfl rfl rfl (Run.assign rfl rfl) ?_
      refine WL.nil ?_
      refine tkN ?_
      refine ⟨⟨rfl, trivial⟩, hs5, _, ?_, i + 1, _, rfl, ?_, ?_, ⟨rfl, rfl, trivial⟩⟩
      · omega
      · omega
      · omega
    · have qh8 := h8
      try simp only [decide_eq_true_eq, decide_eq_false_iff_not, Bool.not_eq_true', Bool.not_eq_false', Bool.and_eq_true, Bool.or_eq_false_iff, within_iff, within_not] at qh8
      refine WC.exit ?_
      refine tkE ?_
      refine tkE ?_
      refine ibE ?_
      refine tkN ?_
      refine hK3 _ _ ?_
      clear hK3
      refine WC.seq (fun K33 hK33 => ?_)
      refine WC.region ?_
      refine WL.val rfl rfl rfl (Run.move rfl rfl) ?_
      refine WL.val rfl rfl rfl (Run.assign rfl rfl) ?_
      refine WL.nil ?_
      refine tkN ?_
      refine hK33 _ _ ?_
      clear hK33
      refine WC.ret ?_
      refine retV1 rfl (resV.tmp rfl) ?_
      refine ⟨congrArg Ending.returned ?_, hs5.nil⟩
      rw [p1, show i = n_a from by omega]
theorem c_laws_markIntS (v_a : Value) (a : List Int) (L_a : Hp) (k : Int) (w : World) (o_a : OwnF encI 3 v_a a L_a) (h_a : ∀ p, p ∈ L_a → w.heap[p.1]? = some p.2) (h1 : 0 ≤ k) (h2 : k ≤ 1099511627776) (h3 : a.length ≤ 1099511627776) :
    Calls Try.prog 117 #[v_a, i64 k] w fun e w' => ∃ L1, e = .returned (.int .i64 (k + 1 * a.length)) ∧ St w (L_a.map (·.1)) L1 w' ∧ OwnF encI 3 v_a (marks (fun k => k) 1 k a.length) L1 := by
  obtain ⟨A_a, c_a, rfl⟩ := o_a.shape
  refine enter (vs := [.slice A_a a.length c_a, i64 k]) 19 Try.func117 rfl Try.ntmps117 rfl rfl ?_
  have hs1 := St.lent1 w L_a o_a h_a
  refine WC.seq (fun K2 hK2 => ?_)
  refine WC.region ?_
  refine WL.val rfl rfl rfl (Run.assign rfl rfl) ?_
  refine WL.nil ?_
  refine tkN ?_
  refine hK2 _ _ ?_
  clear hK2
  refine WC.seq (fun K3 hK3 => ?_)
  refine WC.seq (fun K4 hK4 => ?_)
  refine WC.region ?_
  refine WL.val rfl rfl rfl (Run.assign rfl rfl) ?_
  refine WL.nil ?_
  refine tkN ?_
  refine hK4 _ _ ?_
  clear hK4
  refine WC.block ?_
  refine WC.loopO [(4, _)] ⟨rfl, trivial⟩ hs1 (fun k_ f L_ => ∃ (i : Nat) (q : Int), k_ = a.length - i ∧ (i ≤ a.length) ∧ (q = k + 1 * i) ∧ OwnF encI 3 (.slice A_a (a.length) c_a) (fillM (fun k => k) 1 k a i) L_ ∧ Sub [(0, .slice A_a (a.length) c_a), (5, .int .i64 i), (1, .int .i64 q)] f) (((fun (i : Nat) (q : Int) => a.length - i) (0) (k))) ?_ ?_
  · refine ⟨0, k, rfl, ?_, ?_, (fillM_zero.symm ▸ o_a), ⟨rfl, rfl, rfl, trivial⟩⟩
    · exact Nat.zero_le _
    · simp
  · clear hs1
    rintro _ f w L7 ⟨i, q, rfl, p0, p1, ho8, hG⟩ hF hs9
    refine WC.sub _ (hG.app hF) ?_
    clear hG hF
    have hfl : (fillM (fun k => k) 1 k a i).length = a.length := fillM_len p0
    have hq : k + ((1 : Nat) : Int) * (i : Int) = q := by omega
    refine WC.seq (fun K10 hK10 => ?_)
    refine WC.seq (fun K11 hK11 => ?_)
    refine WC.region ?_
    refine WL.val rfl rfl rfl (Run.move rfl rfl) ?_
    refine WL.val rfl rfl rfl (Run.move rfl rfl) ?_
    refine WL.val rfl rfl rfl (Run.lenSl Try.runUnderlying51 rfl rfl) ?_
    refine WL.val rfl rfl rfl (Run.lss rfl rfl rfl) ?_
    refine WL.nil ?_
    refine tkN ?_
    refine hK11 _ _ ?_
    clear hK11
    refine WC.cond rfl (fun h12 => ?_) (fun h12 => ?_)
    · have qh12 := h12
      try simp only [decide_eq_true_eq, decide_eq_false_iff_not, Bool.not_eq_true', Bool.not_eq_false', Bool.and_eq_true, Bool.or_eq_false_iff, within_iff, within_not] at qh12
      refine WC.skip ?_
      refine tkN ?_
      refine hK10 _ _ ?_
      clear hK10
      refine WC.seq (fun K13 hK13 => ?_)
      refine WC.block ?_
      refine WC.seq (fun K14 hK14 => ?_)
      refine WC.region ?_
      refine WL.val rfl rfl rfl (Run.move rfl rfl) ?_
      refine WL.val rfl rfl rfl (Run.move rfl rfl) ?_
      refine WL.val rfl rfl rfl (Run.move rfl rfl) ?_
      refine WL.val rfl rfl rfl (Run.idx Try.runUnderlying51 Try.sizeOf3 rfl rfl rfl ?_ ?_ ?_) ?_
      · exact SlF.some_ (SlF.ofOwn ho8 (fun p_ hp_ => (hs9.own p_ (List.mem_append_left _ hp_)).1))
      · omega
      · omega
      refine WL.storeF1 (x' := _) hs9 ho8 Try.sizeOf3 rfl rfl rfl rfl rfl rfl rfl rfl rfl ?_ (by first | rfl | (rw [gat_set (by (try simp only [List.length_set]); omega) rfl]; rfl)) (fun L15 whs16 hs16 ho17 _ => ?_)
      · omega
      refine WL.nil ?_
      refine tkN ?_
      refine hK14 _ _ ?_
      clear hK14
      refine WC.region ?_
      refine WL.val rfl rfl rfl (Run.move rfl rfl) ?_
      refine WL.val rfl rfl rfl (Run.add rfl rfl rfl ?_) ?_
      · constructor <;> omega
      refine WL.val rfl rfl rfl (Run.assign rfl rfl) ?_
      refine WL.nil ?_
      refine ibN ?_
      refine tkN ?_
      refine hK13 _ _ ?_
      clear hK13
      refine WC.region ?_
      refine WL.val rfl rfl rfl (Run.move rfl rfl) ?_
      refine WL.val rfl rfl rfl (Run.add rfl rfl rfl ?_) ?_
      · constructor <;> omega
      refine WL.val rfl rfl rfl (Run.assign rfl rfl) ?_
      refine WL.nil ?_
      refine tkN ?_
      try simp only [List.set_set] at ho17
      rw [fillM_set (i := i) (by omega) (by rw [hq]) (by simp)] at ho17
      refine ⟨⟨rfl, trivial⟩, _, hs16, _, ?_, i + 1, _, rfl, ?_, ?_, ho17, ⟨rfl, rfl, rfl, trivial⟩⟩
      · omega
      · omega
      · omega
    · have qh12 := h12
      try simp only [decide_eq_true_eq, decide_eq_false_iff_not, Bool.not_eq_true', Bool.not_eq_false', Bool.and_eq_true, Bool.or_eq_false_iff, within_iff, within_not] at qh12
      refine WC.exit ?_
      refine tkE ?_
      refine tkE ?_
      refine ibE ?_
      refine tkN ?_
      refine hK3 _ _ ?_
      clear hK3
      refine WC.seq (fun K18 hK18 => ?_)
      refine WC.region ?_
      refine WL.val rfl rfl rfl (Run.move rfl rfl) ?_
      refine WL.val rfl rfl rfl (Run.assign rfl rfl) ?_
      refine WL.nil ?_
      refine tkN ?_
      refine hK18 _ _ ?_
      clear hK18
      refine WC.ret ?_
      refine retV1 rfl (resV.tmp rfl) ?_
      have hx_ := OwnF.eqOf (xs := marks (fun k => k) 1 k a.length) ho8 (fillM_full (by omega))
      have hi_ : i = a.length := by omega
      refine ⟨_, ?_, (St.keep1 hs9), hx_ ▸ ho8⟩
      rw [p1, hi_]
theorem c_laws_heldIntS (A_a : Option Addr) (n_a c_a : Nat) (a : List Int) (k : Int) (w : World) (f_a : SlF encI w A_a n_a a) (h1 : 0 ≤ k) (h2 : k ≤ 1099511627776) (h3 : n_a ≤ 1099511627776) (hm : a = marks (fun k => k) 1 k n_a) :
    Calls Try.prog 120 #[.slice A_a n_a c_a, i64 k] w fun e w' => e = .returned (.int .i64 (k + 1 * n_a)) ∧ St w [] [] w' := by
  refine enter (vs := [.slice A_a n_a c_a, i64 k]) 21 Try.func120 rfl Try.ntmps120 rfl rfl ?_
  have hs1 := St.init w
  refine WC.seq (fun K2 hK2 => ?_)
  refine WC.region ?_
  refine WL.val rfl rfl rfl (Run.assign rfl rfl) ?_
  refine WL.nil ?_
  refine tkN ?_
  refine hK2 _ _ ?_
  clear hK2
  refine WC.seq (fun K3 hK3 => ?_)
  refine WC.seq (fun K4 hK4 => ?_)
  refine WC.region ?_
  refine WL.val rfl rfl rfl (Run.assign rfl rfl) ?_
  refine WL.nil ?_
  refine tkN ?_
  refine hK4 _ _ ?_
  clear hK4
  refine WC.block ?_
  refine WC.loopS [(0, _)] ⟨rfl, trivial⟩ hs1 (fun k_ f w' => ∃ (i : Nat) (q : Int), k_ = n_a - i ∧ (i ≤ n_a) ∧ (q = k + 1 * i) ∧ Sub [(5, .int .i64 i), (1, .int .i64 q)] f) ((fun (i : Nat) (q : Int) => n_a - i) (0) (k)) ?_ ?_
  · refine ⟨0, k, rfl, ?_, ?_, ⟨rfl, rfl, trivial⟩⟩
    · exact Nat.zero_le _
    · simp
  · clear hs1
    rintro _ f w ⟨i, q, rfl, p0, p1, hG⟩ hF hs5
    refine WC.sub _ (hG.app hF) ?_
    clear hG hF
    have hq : k + ((1 : Nat) : Int) * (i : Int) = q := by omega
    refine WC.seq (fun K6 hK6 => ?_)
    refine WC.seq (fun K7 hK7 => ?_)
    refine WC.region ?_
    refine WL.val rfl rfl rfl (Run.move rfl rfl) ?_
    refine WL.val rfl rfl rfl (Run.move rfl rfl) ?_
    refine WL.val rfl rfl rfl (Run.lenSl Try.runUnderlying51 rfl rfl) ?_
    refine WL.val rfl rfl rfl (Run.lss rfl rfl rfl) ?_
    refine WL.nil ?_
    refine tkN ?_
    refine hK7 _ _ ?_
    clear hK7
    refine WC.cond rfl (fun h8 => ?_) (fun h8 => ?_)
    · have qh8 := h8
      try simp only [decide_eq_true_eq, decide_eq_false_iff_not, Bool.not_eq_true', Bool.not_eq_false', Bool.and_eq_true, Bool.or_eq_false_iff, within_iff, within_not] at qh8
      have hg : gat encI a i = (fun k => k) q := by rw [hm, marks_gat (by omega), hq]
      refine WC.skip ?_
      refine tkN ?_
      refine hK6 _ _ ?_
      clear hK6
      refine WC.seq (fun K9 hK9 => ?_)
      refine WC.block ?_
      refine WC.seq (fun K10 hK10 => ?_)
      refine WC.seq (fun K11 hK11 => ?_)
      refine WC.region ?_
      refine WL.val rfl rfl rfl (Run.move rfl rfl) ?_
      refine WL.val rfl rfl rfl (Run.move rfl rfl) ?_
      refine WL.val rfl rfl rfl (Run.idx Try.runUnderlying51 Try.sizeOf3 rfl rfl rfl ?_ ?_ ?_) ?_
      · exact SlF.some_ (SlF.st0 f_a hs5)
      · omega
      · omega
      refine WL.val rfl rfl rfl (Run.load Try.isAgg3 rfl rfl (SlF.one1 (SlF.st0 f_a hs5) ?_ rfl)) ?_
      · omega
      refine WL.val rfl rfl rfl (Run.move rfl rfl) ?_
      refine WL.val rfl rfl rfl (Run.neq rfl rfl rfl) ?_
      refine WL.nil ?_
      refine tkN ?_
      refine hK11 _ _ ?_
      clear hK11
      refine WC.condF rfl (by simp [hg]) ?_
      refine WC.skip ?_
      refine tkN ?_
      refine hK10 _ _ ?_
      clear hK10
      refine WC.region ?_
      refine WL.val rfl rfl rfl (Run.move rfl rfl) ?_
      refine WL.val rfl rfl rfl (Run.add rfl rfl rfl ?_) ?_
      · constructor <;> omega
      refine WL.val rfl rfl rfl (Run.assign rfl rfl) ?_
      refine WL.nil ?_
      refine ibN ?_
      refine tkN ?_
      refine hK9 _ _ ?_
      clear hK9
      refine WC.region ?_
      refine WL.val rfl rfl rfl (Run.move rfl rfl) ?_
      refine WL.val rfl rfl rfl (Run.add rfl rfl rfl ?_) ?_
      · constructor <;> omega
      refine WL.val rfl rfl rfl (Run.assign rfl rfl) ?_
      refine WL.nil ?_
      refine tkN ?_
      refine ⟨⟨rfl, trivial⟩, hs5, _, ?_, i + 1, _, rfl, ?_, ?_, ⟨rfl, rfl, trivial⟩⟩
      · omega
      · omega
      · omega
    · have qh8 := h8
      try simp only [decide_eq_true_eq, decide_eq_false_iff_not, Bool.not_eq_true', Bool.not_eq_false', Bool.and_eq_true, Bool.or_eq_false_iff, within_iff, within_not] at qh8
      refine WC.exit ?_
      refine tkE ?_
      refine tkE ?_
      refine ibE ?_
      refine tkN ?_
      refine hK3 _ _ ?_
      clear hK3
      refine WC.seq (fun K13 hK13 => ?_)
      refine WC.region ?_
      refine WL.val rfl rfl rfl (Run.move rfl rfl) ?_
      refine WL.val rfl rfl rfl (Run.assign rfl rfl) ?_
      refine WL.nil ?_
      refine tkN ?_
      refine hK13 _ _ ?_
      clear hK13
      refine WC.ret ?_
      refine retV1 rfl (resV.tmp rfl) ?_
      refine ⟨congrArg Ending.returned ?_, hs5.nil⟩
      rw [p1, show i = n_a from by omega]
end Go.Proofs.Ytpiimkfonlijdaa
