/- Walks of Go functions, printed by a program (wip/gen). -/
import Derived.Test.YtghcicggamkjgaaG1
namespace Go.Proofs.Ytghcicggamkjgaa
open Go Go.RowKit
set_option linter.unusedVariables false
set_option linter.unusedSimpArgs false
theorem info_3 : Try.prog.info? 3 = some Try.t3 := by kernel_rfl
theorem c_impl_endOf_rec (m_ : Nat) : ∀ (A_t : Option Addr) (n_t c_t : Nat) (t : List NodeD) (at_ : Int) (w : World) (f_t : SlF encNode w A_t n_t t) (hn : n_t ≤ 268435456) (hm_ : (if at_ < 0 then 0 else ((n_t : Int) - at_).toNat) = m_), Calls Try.prog 56 #[.slice A_t n_t c_t, i64 at_] w fun e w' => e = .returned (.int .i64 (endI t at_)) ∧ St w [] [] w' := by
  induction m_ using Nat.strongRecOn with
  | ind m_ IH =>
    intro A_t n_t c_t t at_ w f_t hn hm_
    have hl := f_t.len
    have hr := @endI_range t (at_ + 1)
    refine enter (vs := [.slice A_t n_t c_t, i64 at_]) 47 Try.func56 rfl Try.ntmps56 rfl rfl ?_
    have hs1 := St.init w
    refine WC.seq (fun K2 hK2 => ?_)
    refine WC.region ?_
    refine WL.val rfl rfl rfl (Run.assign rfl rfl) ?_
    refine WL.nil ?_
    refine tkN ?_
    refine hK2 _ _ ?_
    clear hK2
    refine WC.seq (fun K3 hK3 => ?_)
    refine WC.seq (fun K4 hK4 => ?_)
    refine WC.region ?_
    refine WL.val rfl rfl rfl (Run.move rfl rfl) ?_
    refine WL.val rfl rfl rfl (Run.lss rfl rfl rfl) ?_
    refine WL.val rfl rfl rfl (Run.move rfl rfl) ?_
    apply WL.meetOr 5 8 13 [(0, _), (1, _), (4, _)] rfl hs1
    · intro g5 J6
      have qg5 := g5
      try simp only [decide_eq_true_eq, decide_eq_false_iff_not, Bool.not_eq_true', Bool.not_eq_false'] at qg5
      refine WL.val (wantF rfl g5) rfl rfl (Run.move rfl rfl) ?_
      refine WL.val (wantF rfl g5) rfl rfl (Run.move rfl rfl) ?_
      refine WL.val (wantF rfl g5) rfl rfl (Run.lenSl Try.runUnderlying25 rfl rfl) ?_
      refine WL.val (wantF rfl g5) rfl rfl (Run.geq rfl rfl rfl) ?_
      refine WL.val rfl rfl rfl (Run.pickF rfl rfl g5 rfl) ?_
      exact WL.fin J6 hs1 rfl (orF g5) ⟨rfl, rfl, rfl, trivial⟩
    · intro g5 J6
      refine WL.skip (wantNF rfl g5) rfl rfl ?_
      refine WL.skip (wantNF rfl g5) rfl rfl ?_
      refine WL.skip (wantNF rfl g5) rfl rfl ?_
      refine WL.skip (wantNF rfl g5) rfl rfl ?_
      refine WL.val rfl rfl rfl (Run.pickT rfl rfl g5 rfl) ?_
      exact WL.fin J6 hs1 rfl (orT g5) ⟨rfl, rfl, rfl, trivial⟩
    · intro whs7 hs7
      refine WL.nil ?_
      refine tkN ?_
      refine hK4 _ _ ?_
      clear hK4
      refine WC.cond rfl (fun h8 => ?_) (fun h8 => ?_)
      · have qh8 := h8
        try simp only [decide_eq_true_eq, decide_eq_false_iff_not, Bool.not_eq_true', Bool.not_eq_false', Bool.and_eq_true, Bool.or_eq_false_iff, within_iff, within_not] at qh8
        refine WC.seq (fun K9 hK9 => ?_)
        refine WC.region ?_
        refine WL.val rfl rfl rfl (Run.assign rfl rfl) ?_
        refine WL.nil ?_
        refine tkN ?_
        refine hK9 _ _ ?_
        clear hK9
        refine WC.ret ?_
        refine tkR ?_
        clear hK3
        refine retV1 rfl (resV.tmp rfl) ?_
        refine ⟨congrArg Ending.returned ?_, hs7.nil⟩
        rw [endI_out (by (try simp at qh8); omega)]
      · have qh8 := h8
        try simp only [decide_eq_true_eq, decide_eq_false_iff_not, Bool.not_eq_true', Bool.not_eq_false', Bool.and_eq_true, Bool.or_eq_false_iff, within_iff, within_not] at qh8
        obtain ⟨i, rfl⟩ : ∃ i : Nat, at_ = (i : Int) := ⟨at_.toNat, by omega⟩
        have hi : i < t.length := by omega
        rw [if_neg (by omega)] at hm_
        refine WC.skip ?_
        refine tkN ?_
        refine hK3 _ _ ?_
        clear hK3
        refine WC.seq (fun K10 hK10 => ?_)
        refine WC.seq (fun K11 hK11 => ?_)
        refine WC.region ?_
        refine WL.val rfl rfl rfl (Run.move rfl rfl) ?_
        refine WL.val rfl rfl rfl (Run.move rfl rfl) ?_
        refine WL.val rfl rfl rfl (Run.idxK (i) Try.runUnderlying25 Try.sizeOf62 rfl rfl rfl ?_ ?_ ?_) ?_
        · exact SlF.some_ (SlF.st0 f_t hs7)
        · omega
        · omega
        refine WL.val rfl rfl rfl (Run.loadA Try.isAgg62 Try.sizeOf62 rfl rfl (SlF.whole (SlF.st0 f_t hs7) ?_)) ?_
        · omega
        refine WL.alloc hs7 Try.zeroValue62 rfl rfl rfl rfl rfl (fun b12 whs13 hs13 => ?_)
        refine WL.storeA hs13 0 Try.sizeOf62 rfl rfl rfl rfl rfl rfl rfl rfl rfl (Nat.le_of_ble_eq_true rfl) (.inl (Nat.le_of_ble_eq_true rfl)) (fun whs14 hs14 => ?_)
        refine WL.nil ?_
        refine tkN ?_
        refine hK11 _ _ ?_
        clear hK11
        refine WC.block ?_
        refine WC.seq (fun K15 hK15 => ?_)
        refine WC.region ?_
        refine WL.val rfl rfl rfl (Run.loadLA hs14 0 Try.isAgg62 Try.sizeOf62 rfl rfl rfl rfl rfl) ?_
        refine WL.call rfl rfl rfl (Run.call Try.call84 rfl rfl rfl) (c_impl_Node_isLeaf _ _ _ _) ?_
        rintro _ whs16 ⟨rfl, hs16⟩
        replace hs16 := hs14.call0 hs16
        refine ⟨_, rfl, ?_⟩
        refine WL.val rfl rfl rfl (Run.assign rfl rfl) ?_
        refine WL.nil ?_
        refine tkN ?_
        refine hK15 _ _ ?_
        clear hK15
        refine WC.cond rfl (fun h17 => ?_) (fun h17 => ?_)
        · have qh17 := h17
          try simp only [decide_eq_true_eq, decide_eq_false_iff_not, Bool.not_eq_true', Bool.not_eq_false', Bool.and_eq_true, Bool.or_eq_false_iff, within_iff, within_not] at qh17
          have hp : (gat encNode t i).Pane ≠ 0 := by simpa using qh17
          refine WC.seq (fun K18 hK18 => ?_)
          refine WC.seq (fun K19 hK19 => ?_)
          refine WC.region ?_
          refine WL.val rfl rfl rfl (Run.field Try.runUnderlying62 rfl rfl rfl Try.sizeOf3 rfl) ?_
          refine WL.val rfl rfl rfl (Run.loadL hs16 0 Try.isAgg3 rfl rfl rfl rfl) ?_
          refine WL.call rfl rfl rfl (Run.call Try.call80 rfl rfl rfl) (c_impl_isId _ _) ?_
          rintro _ whs20 ⟨rfl, hs20⟩
          replace hs20 := hs16.call0 hs20
          refine ⟨_, rfl, ?_⟩
          refine WL.val rfl rfl rfl (Run.not rfl rfl) ?_
          refine WL.val rfl rfl rfl (Run.move rfl rfl) ?_
          apply WL.meetOr 3 25 28 [(0, _), (1, _), (4, _), (5, _), (13, _), (14, _), (15, _), (16, _), (17, _), (18, _), (19, _), (20, _)] rfl hs20
          · intro g21 J22
            have qg21 := g21
            try simp only [decide_eq_true_eq, decide_eq_false_iff_not, Bool.not_eq_true', Bool.not_eq_false'] at qg21
            refine WL.val (wantF rfl g21) rfl rfl (Run.field Try.runUnderlying62 rfl rfl rfl Try.sizeOf4 rfl) ?_
            refine WL.val (wantF rfl g21) rfl rfl (Run.loadL hs20 0 Try.isAgg4 rfl rfl rfl rfl) ?_
            refine WL.val rfl rfl rfl (Run.pickF rfl rfl g21 rfl) ?_
            exact WL.fin J22 hs20 rfl (orF g21) ⟨rfl, rfl, rfl, rfl, rfl, rfl, rfl, rfl, rfl, rfl, rfl, rfl, trivial⟩
          · intro g21 J22
            refine WL.skip (wantNF rfl g21) rfl rfl ?_
            refine WL.skip (wantNF rfl g21) rfl rfl ?_
            refine WL.val rfl rfl rfl (Run.pickT rfl rfl g21 rfl) ?_
            exact WL.fin J22 hs20 rfl (orT g21) ⟨rfl, rfl, rfl, rfl, rfl, rfl, rfl, rfl, rfl, rfl, rfl, rfl, trivial⟩
          · intro whs23 hs23
            refine WL.val rfl rfl rfl (Run.move rfl rfl) ?_
            apply WL.meetOr 4 29 33 [(0, _), (1, _), (4, _), (5, _), (13, _), (14, _), (15, _), (16, _), (17, _), (18, _), (19, _), (20, _)] rfl hs23
            · intro g24 J25
              have qg24 := g24
              try simp only [decide_eq_true_eq, decide_eq_false_iff_not, Bool.not_eq_true', Bool.not_eq_false'] at qg24
              refine WL.val (wantF rfl g24) rfl rfl (Run.field Try.runUnderlying62 rfl rfl rfl Try.sizeOf3 rfl) ?_
              refine WL.val (wantF rfl g24) rfl rfl (Run.loadL hs23 0 Try.isAgg3 rfl rfl rfl rfl) ?_
              refine WL.val (wantF rfl g24) rfl rfl (Run.neq rfl rfl rfl) ?_
              refine WL.val rfl rfl rfl (Run.pickF rfl rfl g24 rfl) ?_
              exact WL.fin J25 hs23 rfl (orF g24) ⟨rfl, rfl, rfl, rfl, rfl, rfl, rfl, rfl, rfl, rfl, rfl, rfl, trivial⟩
            · intro g24 J25
              refine WL.skip (wantNF rfl g24) rfl rfl ?_
              refine WL.skip (wantNF rfl g24) rfl rfl ?_
              refine WL.skip (wantNF rfl g24) rfl rfl ?_
              refine WL.val rfl rfl rfl (Run.pickT rfl rfl g24 rfl) ?_
              exact WL.fin J25 hs23 rfl (orT g24) ⟨rfl, rfl, rfl, rfl, rfl, rfl, rfl, rfl, rfl, rfl, rfl, rfl, trivial⟩
            · intro whs26 hs26
              refine WL.nil ?_
              refine tkN ?_
              refine hK19 _ _ ?_
              clear hK19
              refine WC.cond rfl (fun h27 => ?_) (fun h27 => ?_)
              · have qh27 := h27
                try simp only [decide_eq_true_eq, decide_eq_false_iff_not, Bool.not_eq_true', Bool.not_eq_false', Bool.and_eq_true, Bool.or_eq_false_iff, within_iff, within_not] at qh27
                refine WC.seq (fun K28 hK28 => ?_)
                refine WC.region ?_
                refine WL.val rfl rfl rfl (Run.assign rfl rfl) ?_
                refine WL.nil ?_
                refine tkN ?_
                refine hK28 _ _ ?_
                clear hK28
                refine WC.ret ?_
                refine tkR ?_
                refine ibR ?_
                refine tkR ?_
                clear hK18 hK10
                refine retV1 rfl (resV.tmp rfl) ?_
                refine ⟨congrArg Ending.returned ?_, hs26.nil⟩
                rw [endI_leaf hi hp, if_neg (by simp [leafOk]; simp at qh27; grind)]
              · have qh27 := h27
                try simp only [decide_eq_true_eq, decide_eq_false_iff_not, Bool.not_eq_true', Bool.not_eq_false', Bool.and_eq_true, Bool.or_eq_false_iff, within_iff, within_not] at qh27
                refine WC.skip ?_
                refine tkN ?_
                refine hK18 _ _ ?_
                clear hK18
                refine WC.seq (fun K29 hK29 => ?_)
                refine WC.region ?_
                refine WL.val rfl rfl rfl (Run.move rfl rfl) ?_
                refine WL.val rfl rfl rfl (Run.add rfl rfl rfl ?_) ?_
                · constructor <;> omega
                refine WL.val rfl rfl rfl (Run.assign rfl rfl) ?_
                refine WL.nil ?_
                refine tkN ?_
                refine hK29 _ _ ?_
                clear hK29
                refine WC.ret ?_
                refine ibR ?_
                refine tkR ?_
                clear hK10
                refine retV1 rfl (resV.tmp rfl) ?_
                refine ⟨congrArg Ending.returned ?_, hs26.nil⟩
                rw [endI_leaf hi hp, if_pos (by simp [leafOk]; (try simp at qh27); grind)]
        · have qh17 := h17
          try simp only [decide_eq_true_eq, decide_eq_false_iff_not, Bool.not_eq_true', Bool.not_eq_false', Bool.and_eq_true, Bool.or_eq_false_iff, within_iff, within_not] at qh17
          have hp : (gat encNode t i).Pane = 0 := by simpa using qh17
          refine WC.seq (fun K30 hK30 => ?_)
          refine WC.region ?_
          refine WL.val rfl rfl rfl (Run.field Try.runUnderlying62 rfl rfl rfl Try.sizeOf3 rfl) ?_
          refine WL.val rfl rfl rfl (Run.loadL hs16 0 Try.isAgg3 rfl rfl rfl rfl) ?_
          refine WL.call rfl rfl rfl (Run.call Try.call83 rfl rfl rfl) (c_impl_within _ _ _ _) ?_
          rintro _ whs31 ⟨rfl, hs31⟩
          replace hs31 := hs16.call0 hs31
          refine ⟨_, rfl, ?_⟩
          refine WL.val rfl rfl rfl (Run.not rfl rfl) ?_
          refine WL.val rfl rfl rfl (Run.assign rfl rfl) ?_
          refine WL.nil ?_
          refine tkN ?_
          refine hK30 _ _ ?_
          clear hK30
          refine WC.cond rfl (fun h32 => ?_) (fun h32 => ?_)
          · have qh32 := h32
            try simp only [decide_eq_true_eq, decide_eq_false_iff_not, Bool.not_eq_true', Bool.not_eq_false', Bool.and_eq_true, Bool.or_eq_false_iff, within_iff, within_not] at qh32
            refine WC.seq (fun K33 hK33 => ?_)
            refine WC.region ?_
            refine WL.val rfl rfl rfl (Run.assign rfl rfl) ?_
            refine WL.nil ?_
            refine tkN ?_
            refine hK33 _ _ ?_
            clear hK33
            refine WC.ret ?_
            refine ibR ?_
            refine tkR ?_
            clear hK10
            refine retV1 rfl (resV.tmp rfl) ?_
            refine ⟨congrArg Ending.returned ?_, hs31.nil⟩
            rw [endI_bad hi hp (within_not.2 qh32)]
          · have qh32 := h32
            try simp only [decide_eq_true_eq, decide_eq_false_iff_not, Bool.not_eq_true', Bool.not_eq_false', Bool.and_eq_true, Bool.or_eq_false_iff, within_iff, within_not] at qh32
            refine WC.skip ?_
            refine ibN ?_
            refine tkN ?_
            refine hK10 _ _ ?_
            clear hK10
            refine WC.seq (fun K34 hK34 => ?_)
            refine WC.region ?_
            refine WL.val rfl rfl rfl (Run.move rfl rfl) ?_
            refine WL.val rfl rfl rfl (Run.move rfl rfl) ?_
            refine WL.val rfl rfl rfl (Run.move rfl rfl) ?_
            refine WL.val rfl rfl rfl (Run.add rfl rfl rfl ?_) ?_
            · constructor <;> omega
            refine WL.call rfl rfl rfl (Run.call Try.call56 rfl rfl rfl) (IH _ ?_ _ _ _ _ _ _ (SlF.st0 f_t hs31) ?_ rfl) ?_
            · rw [← hm_]; (repeat' split) <;> omega
            · exact hn
            rintro _ whs35 ⟨rfl, hs35⟩
            replace hs35 := hs31.call0 hs35
            refine ⟨_, rfl, ?_⟩
            refine WL.call rfl rfl rfl (Run.call Try.call56 rfl rfl rfl) (IH _ ?_ _ _ _ _ _ _ (SlF.st0 f_t hs35) ?_ rfl) ?_
            · rw [← hm_]; (repeat' split) <;> omega
            · exact hn
            rintro _ whs36 ⟨rfl, hs36⟩
            replace hs36 := hs35.call0 hs36
            refine ⟨_, rfl, ?_⟩
            refine WL.val rfl rfl rfl (Run.assign rfl rfl) ?_
            refine WL.nil ?_
            refine tkN ?_
            refine hK34 _ _ ?_
            clear hK34
            refine WC.ret ?_
            refine retV1 rfl (resV.tmp rfl) ?_
            refine ⟨congrArg Ending.returned ?_, hs36.nil⟩
            rw [endI_split hi hp (within_iff.2 qh32)]
theorem c_impl_endOf (A_t : Option Addr) (n_t c_t : Nat) (t : List NodeD) (at_ : Int) (w : World) (f_t : SlF encNode w A_t n_t t) (hn : n_t ≤ 268435456) :
    Calls Try.prog 56 #[.slice A_t n_t c_t, i64 at_] w fun e w' => e = .returned (.int .i64 (endI t at_)) ∧ St w [] [] w' := c_impl_endOf_rec _ A_t n_t c_t t at_ w f_t hn rfl
theorem c_impl_leaves (A_t : Option Addr) (n_t c_t : Nat) (t : List NodeD) (w : World) (f_t : SlF encNode w A_t n_t t) (hn : n_t ≤ 268435456) :
    Calls Try.prog 57 #[.slice A_t n_t c_t] w fun e w' => ∃ A c L1, e = .returned (.slice A (panesL t).length c) ∧ St w [] L1 w' ∧ OwnF encI 3 (.slice A (panesL t).length c) (panesL t) L1 := by
  have hl := f_t.len
  refine enter (vs := [.slice A_t n_t c_t]) 22 Try.func57 rfl Try.ntmps57 rfl rfl ?_
  have hs1 := St.init w
  refine WC.seq (fun K2 hK2 => ?_)
  refine WC.region ?_
  refine WL.val rfl rfl rfl (Run.assign rfl rfl) ?_
  refine WL.nil ?_
  refine tkN ?_
  refine hK2 _ _ ?_
  clear hK2
  refine WC.seq (fun K3 hK3 => ?_)
  refine WC.region ?_
  refine WL.buildF (F := encI) hs1 ([]) Try.runUnderlying31 Try.sizeOf3 Try.zeroValue3 rfl rfl rfl rfl rfl rfl rfl rfl rfl rfl rfl rfl (fun A7 c8 L4 whs5 hs5 ho6 => ?_)
  refine WL.val rfl rfl rfl (Run.assign rfl rfl) ?_
  refine WL.nil ?_
  refine tkN ?_
  refine hK3 _ _ ?_
  clear hK3
  refine WC.seq (fun K9 hK9 => ?_)
  refine WC.seq (fun K10 hK10 => ?_)
  refine WC.region ?_
  refine WL.val rfl rfl rfl (Run.move rfl rfl) ?_
  refine WL.val rfl rfl rfl (Run.lenSl Try.runUnderlying25 rfl rfl) ?_
  refine WL.val rfl rfl rfl (Run.move rfl rfl) ?_
  refine WL.nil ?_
  refine tkN ?_
  refine hK10 _ _ ?_
  clear hK10
  refine WC.block ?_
  refine WC.loopO [(0, _), (2, _), (6, _), (7, _), (8, _)] ⟨rfl, rfl, rfl, rfl, rfl, trivial⟩ hs5 (fun k_ f L_ => ∃ (zs : List Int) (i : Nat) (A11 : Option Addr) (c12 : Nat), k_ = n_t - i ∧ (i ≤ n_t) ∧ (zs = panesL (t.take i)) ∧ OwnF encI 3 (.slice A11 (zs.length) c12) (zs) L_ ∧ Sub [(3, .slice A11 (zs.length) c12), (9, .int .i64 i)] f) (((fun (zs : List Int) (i : Nat) => n_t - i) ([]) (0))) ?_ ?_
  · refine ⟨[], 0, _, _, rfl, ?_, ?_, ho6, ⟨rfl, rfl, trivial⟩⟩
    · exact Nat.zero_le _
    · simp [panesL]
  · clear hs5
    rintro _ f w L13 ⟨zs, i, A11, c12, rfl, p0, p1, ho14, hG⟩ hF hs15
    refine WC.sub _ (hG.app hF) ?_
    clear hG hF
    have hzl : zs.length ≤ n_t := by rw [p1]; have := panesL_len (t.take i); rw [List.length_take] at this; omega
    refine WC.seq (fun K16 hK16 => ?_)
    refine WC.region ?_
    refine WL.val rfl rfl rfl (Run.lss rfl rfl rfl) ?_
    refine WL.nil ?_
    refine tkN ?_
    refine hK16 _ _ ?_
    clear hK16
    refine WC.seq (fun K17 hK17 => ?_)
    refine WC.cond rfl (fun h18 => ?_) (fun h18 => ?_)
    · have qh18 := h18
      try simp only [decide_eq_true_eq, decide_eq_false_iff_not, Bool.not_eq_true', Bool.not_eq_false', Bool.and_eq_true, Bool.or_eq_false_iff, within_iff, within_not] at qh18
      refine WC.skip ?_
      refine tkN ?_
      refine hK17 _ _ ?_
      clear hK17
      refine WC.seq (fun K19 hK19 => ?_)
      refine WC.block ?_
      refine WC.seq (fun K20 hK20 => ?_)
      refine WC.region ?_
      refine WL.val rfl rfl rfl (Run.idxN Try.runUnderlying25 Try.sizeOf62 rfl rfl rfl ?_ ?_ ?_) ?_
      · exact SlF.some_ (SlF.st0 f_t hs15)
      · omega
      · omega
      refine WL.val rfl rfl rfl (Run.loadA Try.isAgg62 Try.sizeOf62 rfl rfl (SlF.whole (SlF.st0 f_t hs15) ?_)) ?_
      · omega
      refine WL.alloc hs15 Try.zeroValue62 rfl rfl rfl rfl rfl (fun b21 whs22 hs22 => ?_)
      refine WL.storeA hs22 0 Try.sizeOf62 rfl rfl rfl rfl rfl rfl rfl rfl rfl (Nat.le_of_ble_eq_true rfl) (.inl (Nat.le_of_ble_eq_true rfl)) (fun whs23 hs23 => ?_)
      refine WL.nil ?_
      refine tkN ?_
      refine hK20 _ _ ?_
      clear hK20
      refine WC.seq (fun K24 hK24 => ?_)
      refine WC.region ?_
      refine WL.val rfl rfl rfl (Run.loadLA hs23 0 Try.isAgg62 Try.sizeOf62 rfl rfl rfl rfl rfl) ?_
      refine WL.call rfl rfl rfl (Run.call Try.call84 rfl rfl rfl) (c_impl_Node_isLeaf _ _ _ _) ?_
      rintro _ whs25 ⟨rfl, hs25⟩
      replace hs25 := hs23.call0 hs25
      refine ⟨_, rfl, ?_⟩
      refine WL.nil ?_
      refine tkN ?_
      refine hK24 _ _ ?_
      clear hK24
      refine WC.cond rfl (fun h26 => ?_) (fun h26 => ?_)
      · have qh26 := h26
        try simp only [decide_eq_true_eq, decide_eq_false_iff_not, Bool.not_eq_true', Bool.not_eq_false', Bool.and_eq_true, Bool.or_eq_false_iff, within_iff, within_not] at qh26
        have hp : (gat encNode t i).Pane ≠ 0 := by (try simp at qh26); omega
        refine WC.region ?_
        refine WL.val rfl rfl rfl (Run.move rfl rfl) ?_
        refine WL.val rfl rfl rfl (Run.field Try.runUnderlying62 rfl rfl rfl Try.sizeOf3 rfl) ?_
        refine WL.val rfl rfl rfl (Run.loadL hs25 0 Try.isAgg3 rfl rfl rfl rfl) ?_
        refine WL.buildSlice hs25 Try.runUnderlying31 Try.sizeOf3 Try.zeroValue3 rfl rfl rfl rfl rfl rfl rfl rfl rfl rfl (fun b27 whs28 hs28 => ?_)
        refine WL.appendG (St.perm hs28 (L' := L13 ++ _) (perm_front (A := [_, _]) (List.Perm.refl _))) ho14 (srcI1 Try.underlying31 (hs28.own _ (nthL_mem (i := 0) rfl)).1) Try.underlying31 info_3 rfl rfl rfl rfl rfl rfl rfl rfl rfl rfl ?_ (fun A32 c33 L29 whs30 hs30 ho31 => ?_)
        · simp; omega
        replace hs30 := St.back [_, _] hs30
        refine WL.val rfl rfl rfl (Run.assign rfl rfl) ?_
        refine WL.nil ?_
        refine ibN ?_
        refine tkN ?_
        refine hK19 _ _ ?_
        clear hK19
        refine WC.region ?_
        refine WL.val rfl rfl rfl (Run.add rfl rfl rfl ?_) ?_
        · constructor <;> omega
        refine WL.val rfl rfl rfl (Run.move rfl rfl) ?_
        refine WL.nil ?_
        refine tkN ?_
        replace hs30 := St.drop hs30 (List.sublist_append_right [_, _] _)
        refine ⟨⟨rfl, rfl, rfl, rfl, rfl, trivial⟩, _, hs30, _, ?_, _, i + 1, _, _, rfl, ?_, ?_, ho31, ⟨rfl, rfl, trivial⟩⟩
        · omega
        · omega
        · rw [panesL_take (by omega), p1]; first | (rw [if_pos hp]) | (rw [if_neg (by simpa using hp), List.append_nil])
      · have qh26 := h26
        try simp only [decide_eq_true_eq, decide_eq_false_iff_not, Bool.not_eq_true', Bool.not_eq_false', Bool.and_eq_true, Bool.or_eq_false_iff, within_iff, within_not] at qh26
        have hp : (gat encNode t i).Pane = 0 := by simpa using qh26
        refine WC.skip ?_
        refine ibN ?_
        refine tkN ?_
        refine hK19 _ _ ?_
        clear hK19
        refine WC.region ?_
        refine WL.val rfl rfl rfl (Run.add rfl rfl rfl ?_) ?_
        · constructor <;> omega
        refine WL.val rfl rfl rfl (Run.move rfl rfl) ?_
        refine WL.nil ?_
        refine tkN ?_
        replace hs25 := St.drop hs25 (List.sublist_append_right [_] _)
        refine ⟨⟨rfl, rfl, rfl, rfl, rfl, trivial⟩, _, hs25, _, ?_, _, i + 1, _, _, rfl, ?_, ?_, ho14, ⟨rfl, rfl, trivial⟩⟩
        · omega
        · omega
        · rw [panesL_take (by omega), p1]; first | (rw [if_pos hp]) | (rw [if_neg (by simpa using hp), List.append_nil])
    · have qh18 := h18
      try simp only [decide_eq_true_eq, decide_eq_false_iff_not, Bool.not_eq_true', Bool.not_eq_false', Bool.and_eq_true, Bool.or_eq_false_iff, within_iff, within_not] at qh18
      refine WC.exit ?_
      refine tkE ?_
      refine tkE ?_
      refine ibE ?_
      refine tkN ?_
      refine hK9 _ _ ?_
      clear hK9
      refine WC.seq (fun K34 hK34 => ?_)
      refine WC.region ?_
      refine WL.val rfl rfl rfl (Run.move rfl rfl) ?_
      refine WL.val rfl rfl rfl (Run.assign rfl rfl) ?_
      refine WL.nil ?_
      refine tkN ?_
      refine hK34 _ _ ?_
      clear hK34
      refine WC.ret ?_
      refine retV1 rfl (resV.tmp rfl) ?_
      have hx_ := OwnF.eqOf (xs := panesL t) ho14 (by rw [p1, List.take_of_length_le (by omega)])
      rw [← hx_]
      first | exact ⟨_, _, _, rfl, (St.keep1 hs15), ho14⟩ | exact ⟨A11, c12, _, by rw [OwnF.len_ ho14], (St.keep1 hs15), by rw [OwnF.len_ ho14]; exact ho14⟩
theorem c_spec_l13End (A_t : Option Addr) (n_t c_t : Nat) (t : List NodeD) (at_ : Nat) (w : World) (f_t : SlF encNode w A_t n_t t) (hn : n_t ≤ 268435456) (ha : at_ ≤ 1099511627776) :
    Calls Try.prog 53 #[.slice A_t n_t c_t, .int .i64 at_] w fun e w' => e = .returned (.int .i64 (sEnd t at_)) ∧ St w [] [] w' := by
  have hl := f_t.len
  refine enter (vs := [.slice A_t n_t c_t, .int .i64 at_]) 28 Try.func53 rfl Try.ntmps53 rfl rfl ?_
  have hs1 := St.init w
  refine WC.seq (fun K2 hK2 => ?_)
  refine WC.region ?_
  refine WL.val rfl rfl rfl (Run.assign rfl rfl) ?_
  refine WL.nil ?_
  refine tkN ?_
  refine hK2 _ _ ?_
  clear hK2
  refine WC.seq (fun K3 hK3 => ?_)
  refine WC.region ?_
  refine WL.val rfl rfl rfl (Run.assign rfl rfl) ?_
  refine WL.nil ?_
  refine tkN ?_
  refine hK3 _ _ ?_
  clear hK3
  refine WC.seq (fun K4 hK4 => ?_)
  refine WC.seq (fun K5 hK5 => ?_)
  refine WC.region ?_
  refine WL.val rfl rfl rfl (Run.move rfl rfl) ?_
  refine WL.val rfl rfl rfl (Run.assign rfl rfl) ?_
  refine WL.nil ?_
  refine tkN ?_
  refine hK5 _ _ ?_
  clear hK5
  refine WC.block ?_
  refine WC.loopS [(0, _), (1, _), (7, _)] ⟨rfl, rfl, rfl, trivial⟩ hs1 (fun k_ f w' => ∃ (i k : Nat), k_ = n_t - i ∧ (at_ ≤ i) ∧ (1 ≤ k) ∧ (k ≤ 1 + (i - at_)) ∧ (i ≤ n_t ∨ i = at_) ∧ (needGo 1 (t.drop at_) = needGo k (t.drop i)) ∧ Sub [(6, .int .i64 i), (5, .int .i64 k)] f) ((fun (i k : Nat) => n_t - i) (at_) (1)) ?_ ?_
  · refine ⟨at_, 1, rfl, ?_, ?_, ?_, ?_, ?_, ⟨rfl, ?_, trivial⟩⟩
    · exact Nat.le_refl _
    · exact Nat.le_refl _
    · omega
    · exact Or.inr rfl
    · rfl
    · rfl
  · clear hs1
    rintro _ f w ⟨i, k, rfl, p0, p1, p2, p3, p4, hG⟩ hF hs6
    refine WC.sub _ (hG.app hF) ?_
    clear hG hF
    refine WC.seq (fun K7 hK7 => ?_)
    refine WC.seq (fun K8 hK8 => ?_)
    refine WC.region ?_
    refine WL.val rfl rfl rfl (Run.move rfl rfl) ?_
    refine WL.val rfl rfl rfl (Run.move rfl rfl) ?_
    refine WL.val rfl rfl rfl (Run.lenSl Try.runUnderlying25 rfl rfl) ?_
    refine WL.val rfl rfl rfl (Run.lss rfl rfl rfl) ?_
    refine WL.nil ?_
    refine tkN ?_
    refine hK8 _ _ ?_
    clear hK8
    refine WC.cond rfl (fun h9 => ?_) (fun h9 => ?_)
    · have qh9 := h9
      try simp only [decide_eq_true_eq, decide_eq_false_iff_not, Bool.not_eq_true', Bool.not_eq_false', Bool.and_eq_true, Bool.or_eq_false_iff, within_iff, within_not] at qh9
      refine WC.skip ?_
      refine tkN ?_
      refine hK7 _ _ ?_
      clear hK7
      refine WC.seq (fun K10 hK10 => ?_)
      refine WC.block ?_
      refine WC.seq (fun K11 hK11 => ?_)
      refine WC.seq (fun K12 hK12 => ?_)
      refine WC.region ?_
      refine WL.val rfl rfl rfl (Run.move rfl rfl) ?_
      refine WL.val rfl rfl rfl (Run.move rfl rfl) ?_
      refine WL.val rfl rfl rfl (Run.idxN Try.runUnderlying25 Try.sizeOf62 rfl rfl rfl ?_ ?_ ?_) ?_
      · exact SlF.some_ (SlF.st0 f_t hs6)
      · omega
      · omega
      refine WL.val rfl rfl rfl (Run.fieldO Try.runUnderlying62 rfl rfl rfl Try.sizeOf3 rfl) ?_
      refine WL.val rfl rfl rfl (Run.load Try.isAgg3 rfl rfl (SlF.fld (SlF.st0 f_t hs6) ?_ rfl)) ?_
      · omega
      refine WL.val rfl rfl rfl (Run.eql rfl rfl rfl) ?_
      refine WL.nil ?_
      refine tkN ?_
      refine hK12 _ _ ?_
      clear hK12
      refine WC.cond rfl (fun h13 => ?_) (fun h13 => ?_)
      · have qh13 := h13
        try simp only [decide_eq_true_eq, decide_eq_false_iff_not, Bool.not_eq_true', Bool.not_eq_false', Bool.and_eq_true, Bool.or_eq_false_iff, within_iff, within_not] at qh13
        have hp : (gat encNode t i).Pane = 0 := qh13
        refine WC.region ?_
        refine WL.val rfl rfl rfl (Run.move rfl rfl) ?_
        refine WL.val rfl rfl rfl (Run.add rfl rfl rfl ?_) ?_
        · constructor <;> omega
        refine WL.val rfl rfl rfl (Run.assign rfl rfl) ?_
        refine WL.nil ?_
        refine tkN ?_
        refine hK11 _ _ ?_
        clear hK11
        refine WC.seq (fun K14 hK14 => ?_)
        refine WC.region ?_
        refine WL.val rfl rfl rfl (Run.move rfl rfl) ?_
        refine WL.val rfl rfl rfl (Run.eql rfl rfl rfl) ?_
        refine WL.nil ?_
        refine tkN ?_
        refine hK14 _ _ ?_
        clear hK14
        refine WC.cond rfl (fun h15 => ?_) (fun h15 => ?_)
        · have qh15 := h15
          try simp only [decide_eq_true_eq, decide_eq_false_iff_not, Bool.not_eq_true', Bool.not_eq_false', Bool.and_eq_true, Bool.or_eq_false_iff, within_iff, within_not] at qh15
          refine WC.seq (fun K16 hK16 => ?_)
          refine WC.region ?_
          refine WL.val rfl rfl rfl (Run.move rfl rfl) ?_
          refine WL.val rfl rfl rfl (Run.add rfl rfl rfl ?_) ?_
          · constructor <;> omega
          refine WL.val rfl rfl rfl (Run.assign rfl rfl) ?_
          refine WL.nil ?_
          refine tkN ?_
          refine hK16 _ _ ?_
          clear hK16
          refine WC.ret ?_
          refine ibR ?_
          refine tkR ?_
          refine tkR ?_
          refine ibR ?_
          refine tkR ?_
          clear hK10 hK4
          refine retV1 rfl (resV.tmp rfl) ?_
          refine ⟨congrArg Ending.returned ?_, hs6.nil⟩
          rw [sEnd, p4, nat_drop (by omega), needGo]; first | (exfalso; omega) | (rw [if_neg hp, if_pos (by omega)]; simp [endOfL]; omega)
        · have qh15 := h15
          try simp only [decide_eq_true_eq, decide_eq_false_iff_not, Bool.not_eq_true', Bool.not_eq_false', Bool.and_eq_true, Bool.or_eq_false_iff, within_iff, within_not] at qh15
          refine WC.skip ?_
          refine ibN ?_
          refine tkN ?_
          refine hK10 _ _ ?_
          clear hK10
          refine WC.region ?_
          refine WL.val rfl rfl rfl (Run.move rfl rfl) ?_
          refine WL.val rfl rfl rfl (Run.add rfl rfl rfl ?_) ?_
          · constructor <;> omega
          refine WL.val rfl rfl rfl (Run.assign rfl rfl) ?_
          refine WL.nil ?_
          refine tkN ?_
          refine ⟨⟨rfl, rfl, rfl, trivial⟩, hs6, _, ?_, i + 1, (k + 1), rfl, ?_, ?_, ?_, ?_, ?_, ⟨rfl, ?_, trivial⟩⟩
          · omega
          · omega
          · omega
          · omega
          · omega
          · rw [p4, nat_drop (by omega), needGo]; first | (rw [if_pos hp, if_neg (by omega)]) | (rw [if_neg hp, if_neg (by omega)])
          · first | rfl | exact congrArg (fun z => some (Value.int _ z)) (by omega)
      · have qh13 := h13
        try simp only [decide_eq_true_eq, decide_eq_false_iff_not, Bool.not_eq_true', Bool.not_eq_false', Bool.and_eq_true, Bool.or_eq_false_iff, within_iff, within_not] at qh13
        have hp : ¬ (gat encNode t i).Pane = 0 := qh13
        refine WC.region ?_
        refine WL.val rfl rfl rfl (Run.move rfl rfl) ?_
        refine WL.val rfl rfl rfl (Run.sub rfl rfl rfl ?_) ?_
        · constructor <;> omega
        refine WL.val rfl rfl rfl (Run.assign rfl rfl) ?_
        refine WL.nil ?_
        refine tkN ?_
        refine hK11 _ _ ?_
        clear hK11
        refine WC.seq (fun K17 hK17 => ?_)
        refine WC.region ?_
        refine WL.val rfl rfl rfl (Run.move rfl rfl) ?_
        refine WL.val rfl rfl rfl (Run.eql rfl rfl rfl) ?_
        refine WL.nil ?_
        refine tkN ?_
        refine hK17 _ _ ?_
        clear hK17
        refine WC.cond rfl (fun h18 => ?_) (fun h18 => ?_)
        · have qh18 := h18
          try simp only [decide_eq_true_eq, decide_eq_false_iff_not, Bool.not_eq_true', Bool.not_eq_false', Bool.and_eq_true, Bool.or_eq_false_iff, within_iff, within_not] at qh18
          refine WC.seq (fun K19 hK19 => ?_)
          refine WC.region ?_
          refine WL.val rfl rfl rfl (Run.move rfl rfl) ?_
          refine WL.val rfl rfl rfl (Run.add rfl rfl rfl ?_) ?_
          · constructor <;> omega
          refine WL.val rfl rfl rfl (Run.assign rfl rfl) ?_
          refine WL.nil ?_
          refine tkN ?_
          refine hK19 _ _ ?_
          clear hK19
          refine WC.ret ?_
          refine ibR ?_
          refine tkR ?_
          refine tkR ?_
          refine ibR ?_
          refine tkR ?_
          clear hK10 hK4
          refine retV1 rfl (resV.tmp rfl) ?_
          refine ⟨congrArg Ending.returned ?_, hs6.nil⟩
          rw [sEnd, p4, nat_drop (by omega), needGo]; first | (exfalso; omega) | (rw [if_neg hp, if_pos (by omega)]; simp [endOfL]; omega)
        · have qh18 := h18
          try simp only [decide_eq_true_eq, decide_eq_false_iff_not, Bool.not_eq_true', Bool.not_eq_false', Bool.and_eq_true, Bool.or_eq_false_iff, within_iff, within_not] at qh18
          refine WC.skip ?_
          refine ibN ?_
          refine tkN ?_
          refine hK10 _ _ ?_
          clear hK10
          refine WC.region ?_
          refine WL.val rfl rfl rfl (Run.move rfl rfl) ?_
          refine WL.val rfl rfl rfl (Run.add rfl rfl rfl ?_) ?_
          · constructor <;> omega
          refine WL.val rfl rfl rfl (Run.assign rfl rfl) ?_
          refine WL.nil ?_
          refine tkN ?_
          refine ⟨⟨rfl, rfl, rfl, trivial⟩, hs6, _, ?_, i + 1, (k - 1), rfl, ?_, ?_, ?_, ?_, ?_, ⟨rfl, ?_, trivial⟩⟩
          · omega
          · omega
          · omega
          · omega
          · omega
          · rw [p4, nat_drop (by omega), needGo]; first | (rw [if_pos hp, if_neg (by omega)]) | (rw [if_neg hp, if_neg (by omega)])
          · first | rfl | exact congrArg (fun z => some (Value.int _ z)) (by omega)
    · have qh9 := h9
      try simp only [decide_eq_true_eq, decide_eq_false_iff_not, Bool.not_eq_true', Bool.not_eq_false', Bool.and_eq_true, Bool.or_eq_false_iff, within_iff, within_not] at qh9
      refine WC.exit ?_
      refine tkE ?_
      refine tkE ?_
      refine ibE ?_
      refine tkN ?_
      refine hK4 _ _ ?_
      clear hK4
      refine WC.seq (fun K20 hK20 => ?_)
      refine WC.region ?_
      refine WL.val rfl rfl rfl (Run.assign rfl rfl) ?_
      refine WL.nil ?_
      refine tkN ?_
      refine hK20 _ _ ?_
      clear hK20
      refine WC.ret ?_
      refine retV1 rfl (resV.tmp rfl) ?_
      refine ⟨congrArg Ending.returned ?_, hs6.nil⟩
      rw [sEnd, p4, List.drop_eq_nil_of_le (by omega)]; simp [needGo, endOfL]
theorem c_spec_l02HasInt (A_l : Option Addr) (n_l c_l : Nat) (l : List Int) (x : Int) (w : World) (f_l : SlF encI w A_l n_l l) (hn : n_l ≤ 1099511627776) :
    Calls Try.prog 54 #[.slice A_l n_l c_l, i64 x] w fun e w' => e = .returned (.bool (decide (x ∈ l))) ∧ St w [] [] w' := by
  have hl := f_l.len
  refine enter (vs := [.slice A_l n_l c_l, i64 x]) 17 Try.func54 rfl Try.ntmps54 rfl rfl ?_
  have hs1 := St.init w
  refine WC.seq (fun K2 hK2 => ?_)
  refine WC.region ?_
  refine WL.val rfl rfl rfl (Run.assign rfl rfl) ?_
  refine WL.nil ?_
  refine tkN ?_
  refine hK2 _ _ ?_
  clear hK2
  refine WC.seq (fun K3 hK3 => ?_)
  refine WC.seq (fun K4 hK4 => ?_)
  refine WC.region ?_
  refine WL.val rfl rfl rfl (Run.move rfl rfl) ?_
  refine WL.val rfl rfl rfl (Run.lenSl Try.runUnderlying31 rfl rfl) ?_
  refine WL.val rfl rfl rfl (Run.move rfl rfl) ?_
  refine WL.nil ?_
  refine tkN ?_
  refine hK4 _ _ ?_
  clear hK4
  refine WC.block ?_
  refine WC.loopS [(0, _), (1, _), (7, _), (8, _)] ⟨rfl, rfl, rfl, rfl, trivial⟩ hs1 (fun k_ f w' => ∃ (i : Nat), k_ = n_l - i ∧ (i ≤ n_l) ∧ (∀ j, j < i → iat l j ≠ x) ∧ Sub [(9, .int .i64 i)] f) ((fun (i : Nat) => n_l - i) (0)) ?_ ?_
  · refine ⟨0, rfl, ?_, ?_, ⟨rfl, trivial⟩⟩
    · exact Nat.zero_le _
    · exact fun j hj => absurd hj (by omega)
  · clear hs1
    rintro _ f w ⟨i, rfl, p0, p1, hG⟩ hF hs5
    refine WC.sub _ (hG.app hF) ?_
    clear hG hF
    refine WC.seq (fun K6 hK6 => ?_)
    refine WC.region ?_
    refine WL.val rfl rfl rfl (Run.lss rfl rfl rfl) ?_
    refine WL.nil ?_
    refine tkN ?_
    refine hK6 _ _ ?_
    clear hK6
    refine WC.seq (fun K7 hK7 => ?_)
    refine WC.cond rfl (fun h8 => ?_) (fun h8 => ?_)
    · have qh8 := h8
      try simp only [decide_eq_true_eq, decide_eq_false_iff_not, Bool.not_eq_true', Bool.not_eq_false', Bool.and_eq_true, Bool.or_eq_false_iff, within_iff, within_not] at qh8
      refine WC.skip ?_
      refine tkN ?_
      refine hK7 _ _ ?_
      clear hK7
      refine WC.seq (fun K9 hK9 => ?_)
      refine WC.block ?_
      refine WC.seq (fun K10 hK10 => ?_)
      refine WC.region ?_
      refine WL.val rfl rfl rfl (Run.idxN Try.runUnderlying31 Try.sizeOf3 rfl rfl rfl ?_ ?_ ?_) ?_
      · exact SlF.some_ (SlF.st0 f_l hs5)
      · omega
      · omega
      refine WL.val rfl rfl rfl (Run.load Try.isAgg3 rfl rfl (SlF.one1 (SlF.st0 f_l hs5) ?_ rfl)) ?_
      · omega
      refine WL.val rfl rfl rfl (Run.assign rfl rfl) ?_
      refine WL.nil ?_
      refine tkN ?_
      refine hK10 _ _ ?_
      clear hK10
      refine WC.seq (fun K11 hK11 => ?_)
      refine WC.region ?_
      refine WL.val rfl rfl rfl (Run.move rfl rfl) ?_
      refine WL.val rfl rfl rfl (Run.move rfl rfl) ?_
      refine WL.val rfl rfl rfl (Run.eql rfl rfl rfl) ?_
      refine WL.nil ?_
      refine tkN ?_
      refine hK11 _ _ ?_
      clear hK11
      refine WC.cond rfl (fun h12 => ?_) (fun h12 => ?_)
      · have qh12 := h12
        try simp only [decide_eq_true_eq, decide_eq_false_iff_not, Bool.not_eq_true', Bool.not_eq_false', Bool.and_eq_true, Bool.or_eq_false_iff, within_iff, within_not] at qh12
        refine WC.seq (fun K13 hK13 => ?_)
        refine WC.region ?_
        refine WL.val rfl rfl rfl (Run.assign rfl rfl) ?_
        refine WL.nil ?_
        refine tkN ?_
        refine hK13 _ _ ?_
        clear hK13
        refine WC.ret ?_
        refine ibR ?_
        refine tkR ?_
        refine tkR ?_
        refine ibR ?_
        refine tkR ?_
        clear hK9 hK3
        refine retV1 rfl (resV.tmp rfl) ?_
        refine ⟨congrArg Ending.returned ?_, hs5.nil⟩
        congr 1; symm; rw [decide_eq_true_eq]; rw [← qh12]; exact gat_mem (F := encI) (by omega)
      · have qh12 := h12
        try simp only [decide_eq_true_eq, decide_eq_false_iff_not, Bool.not_eq_true', Bool.not_eq_false', Bool.and_eq_true, Bool.or_eq_false_iff, within_iff, within_not] at qh12
        refine WC.skip ?_
        refine ibN ?_
        refine tkN ?_
        refine hK9 _ _ ?_
        clear hK9
        refine WC.region ?_
        refine WL.val rfl rfl rfl (Run.add rfl rfl rfl ?_) ?_
        · constructor <;> omega
        refine WL.val rfl rfl rfl (Run.move rfl rfl) ?_
        refine WL.nil ?_
        refine tkN ?_
        refine ⟨⟨rfl, rfl, rfl, rfl, trivial⟩, hs5, _, ?_, i + 1, rfl, ?_, ?_, ⟨rfl, trivial⟩⟩
        · omega
        · omega
        · intro j hj; rcases Nat.lt_or_ge j i with h_ | h_
          · exact p1 j h_
          · obtain rfl : j = i := by omega
            exact qh12
    · have qh8 := h8
      try simp only [decide_eq_true_eq, decide_eq_false_iff_not, Bool.not_eq_true', Bool.not_eq_false', Bool.and_eq_true, Bool.or_eq_false_iff, within_iff, within_not] at qh8
      refine WC.exit ?_
      refine tkE ?_
      refine tkE ?_
      refine ibE ?_
      refine tkN ?_
      refine hK3 _ _ ?_
      clear hK3
      refine WC.seq (fun K14 hK14 => ?_)
      refine WC.region ?_
      refine WL.val rfl rfl rfl (Run.assign rfl rfl) ?_
      refine WL.nil ?_
      refine tkN ?_
      refine hK14 _ _ ?_
      clear hK14
      refine WC.ret ?_
      refine retV1 rfl (resV.tmp rfl) ?_
      refine ⟨congrArg Ending.returned ?_, hs5.nil⟩
      congr 1; symm; rw [decide_eq_false_iff_not]; exact has_not (fun j hj => p1 j (by omega))
theorem c_slices_Clone_int_int (A_s : Option Addr) (n_s c_s : Nat) (s : List Int) (w : World) (f_s : SlF encI w A_s n_s s) (hn : n_s ≤ 268435456) :
    Calls Try.prog 60 #[.slice A_s n_s c_s] w fun e w' => ∃ A c L1, e = .returned (.slice A (s).length c) ∧ St w [] L1 w' ∧ OwnF encI 3 (.slice A (s).length c) (s) L1 := by
  have hl := f_s.len
  refine enter (vs := [.slice A_s n_s c_s]) 8 Try.func60 rfl Try.ntmps60 rfl rfl ?_
  have hs1 := St.init w
  refine WC.seq (fun K2 hK2 => ?_)
  refine WC.region ?_
  refine WL.val rfl rfl rfl (Run.assign rfl rfl) ?_
  refine WL.nil ?_
  refine tkN ?_
  refine hK2 _ _ ?_
  clear hK2
  refine WC.seq (fun K3 hK3 => ?_)
  refine WC.seq (fun K4 hK4 => ?_)
  refine WC.region ?_
  refine WL.val rfl rfl rfl (Run.move rfl rfl) ?_
  refine WL.val rfl rfl rfl (Run.eqlNil Try.underlying31 rfl rfl rfl) ?_
  refine WL.nil ?_
  refine tkN ?_
  refine hK4 _ _ ?_
  clear hK4
  refine WC.cond rfl (fun h5 => ?_) (fun h5 => ?_)
  · have qh5 := h5
    try simp only [decide_eq_true_eq, decide_eq_false_iff_not, Bool.not_eq_true', Bool.not_eq_false', Bool.and_eq_true, Bool.or_eq_false_iff, within_iff, within_not] at qh5
    obtain rfl : A_s = none := by simpa using qh5
    have h0 : n_s = 0 := SlF.none_ f_s
    have hs : s = [] := List.eq_nil_of_length_eq_zero (by omega)
    refine WC.seq (fun K6 hK6 => ?_)
    refine WC.region ?_
    refine WL.val rfl rfl rfl (Run.assign rfl rfl) ?_
    refine WL.nil ?_
    refine tkN ?_
    refine hK6 _ _ ?_
    clear hK6
    refine WC.ret ?_
    refine tkR ?_
    clear hK3
    refine retV1 rfl (resV.tmp rfl) ?_
    have hx_ := OwnF.eqOf (xs := s) (OwnF.nil encI 3) (by rw [hs])
    rw [← hx_]
    exact ⟨_, _, _, rfl, hs1.nil, (OwnF.nil encI 3)⟩
  · have qh5 := h5
    try simp only [decide_eq_true_eq, decide_eq_false_iff_not, Bool.not_eq_true', Bool.not_eq_false', Bool.and_eq_true, Bool.or_eq_false_iff, within_iff, within_not] at qh5
    refine WC.skip ?_
    refine tkN ?_
    refine hK3 _ _ ?_
    clear hK3
    refine WC.seq (fun K7 hK7 => ?_)
    refine WC.region ?_
    refine WL.buildF (F := encI) hs1 ([]) Try.runUnderlying31 Try.sizeOf3 Try.zeroValue3 rfl rfl rfl rfl rfl rfl rfl rfl rfl rfl rfl rfl (fun A11 c12 L8 whs9 hs9 ho10 => ?_)
    refine WL.val rfl rfl rfl (Run.move rfl rfl) ?_
    refine WL.appendG hs9 ho10 (SlF.src (SlF.st0 f_s hs9) Try.underlying31) Try.underlying31 info_3 rfl rfl rfl rfl rfl rfl rfl rfl rfl rfl ?_ (fun A16 c17 L13 whs14 hs14 ho15 => ?_)
    · simp; omega
    refine WL.val rfl rfl rfl (Run.assign rfl rfl) ?_
    refine WL.nil ?_
    refine tkN ?_
    refine hK7 _ _ ?_
    clear hK7
    refine WC.ret ?_
    refine retV1 rfl (resV.tmp rfl) ?_
    have hx_ := OwnF.eqOf (xs := s) ho15 (by simp)
    rw [← hx_]
    first | exact ⟨_, _, _, rfl, (St.keep1 hs14), ho15⟩ | exact ⟨A16, c17, _, by rw [OwnF.len_ ho15], (St.keep1 hs14), by rw [OwnF.len_ ho15]; exact ho15⟩
theorem c_slices_Clone_impl_Node_impl_Node (A_s : Option Addr) (n_s c_s : Nat) (s : List NodeD) (w : World) (f_s : SlF encNode w A_s n_s s) (hn : n_s ≤ 268435456) :
    Calls Try.prog 66 #[.slice A_s n_s c_s] w fun e w' => ∃ A c L1, e = .returned (.slice A (s).length c) ∧ St w [] L1 w' ∧ OwnF encNode 62 (.slice A (s).length c) (s) L1 := by
  have hl := f_s.len
  refine enter (vs := [.slice A_s n_s c_s]) 8 Try.func66 rfl Try.ntmps66 rfl rfl ?_
  have hs1 := St.init w
  refine WC.seq (fun K2 hK2 => ?_)
  refine WC.region ?_
  refine WL.val rfl rfl rfl (Run.assign rfl rfl) ?_
  refine WL.nil ?_
  refine tkN ?_
  refine hK2 _ _ ?_
  clear hK2
  refine WC.seq (fun K3 hK3 => ?_)
  refine WC.seq (fun K4 hK4 => ?_)
  refine WC.region ?_
  refine WL.val rfl rfl rfl (Run.move rfl rfl) ?_
  refine WL.val rfl rfl rfl (Run.eqlNil Try.underlying25 rfl rfl rfl) ?_
  refine WL.nil ?_
  refine tkN ?_
  refine hK4 _ _ ?_
  clear hK4
  refine WC.cond rfl (fun h5 => ?_) (fun h5 => ?_)
  · have qh5 := h5
    try simp only [decide_eq_true_eq, decide_eq_false_iff_not, Bool.not_eq_true', Bool.not_eq_false', Bool.and_eq_true, Bool.or_eq_false_iff, within_iff, within_not] at qh5
    obtain rfl : A_s = none := by simpa using qh5
    have h0 : n_s = 0 := SlF.none_ f_s
    have hs : s = [] := List.eq_nil_of_length_eq_zero (by omega)
    refine WC.seq (fun K6 hK6 => ?_)
    refine WC.region ?_
    refine WL.val rfl rfl rfl (Run.assign rfl rfl) ?_
    refine WL.nil ?_
    refine tkN ?_
    refine hK6 _ _ ?_
    clear hK6
    refine WC.ret ?_
    refine tkR ?_
    clear hK3
    refine retV1 rfl (resV.tmp rfl) ?_
    have hx_ := OwnF.eqOf (xs := s) (OwnF.nil encNode 62) (by rw [hs])
    rw [← hx_]
    exact ⟨_, _, _, rfl, hs1.nil, (OwnF.nil encNode 62)⟩
  · have qh5 := h5
    try simp only [decide_eq_true_eq, decide_eq_false_iff_not, Bool.not_eq_true', Bool.not_eq_false', Bool.and_eq_true, Bool.or_eq_false_iff, within_iff, within_not] at qh5
    refine WC.skip ?_
    refine tkN ?_
    refine hK3 _ _ ?_
    clear hK3
    refine WC.seq (fun K7 hK7 => ?_)
    refine WC.region ?_
    refine WL.buildF (F := encNode) hs1 ([]) Try.runUnderlying25 Try.sizeOf62 Try.zeroValue62 rfl rfl rfl rfl rfl rfl rfl rfl rfl rfl rfl rfl (fun A11 c12 L8 whs9 hs9 ho10 => ?_)
    refine WL.val rfl rfl rfl (Run.move rfl rfl) ?_
    refine WL.appendG hs9 ho10 (SlF.src (SlF.st0 f_s hs9) Try.underlying25) Try.underlying25 info_62 rfl rfl rfl rfl rfl rfl rfl rfl rfl rfl ?_ (fun A16 c17 L13 whs14 hs14 ho15 => ?_)
    · simp; omega
    refine WL.val rfl rfl rfl (Run.assign rfl rfl) ?_
    refine WL.nil ?_
    refine tkN ?_
    refine hK7 _ _ ?_
    clear hK7
    refine WC.ret ?_
    refine retV1 rfl (resV.tmp rfl) ?_
    have hx_ := OwnF.eqOf (xs := s) ho15 (by simp)
    rw [← hx_]
    first | exact ⟨_, _, _, rfl, (St.keep1 hs14), ho15⟩ | exact ⟨A16, c17, _, by rw [OwnF.len_ ho15], (St.keep1 hs14), by rw [OwnF.len_ ho15]; exact ho15⟩
theorem c_spec_l13Copy (A_t : Option Addr) (n_t c_t : Nat) (t : List NodeD) (w : World) (f_t : SlF encNode w A_t n_t t) (hn : n_t ≤ 268435456) :
    Calls Try.prog 64 #[.slice A_t n_t c_t] w fun e w' => ∃ A c L1, e = .returned (.slice A (t).length c) ∧ St w [] L1 w' ∧ OwnF encNode 62 (.slice A (t).length c) (t) L1 := by
  have hl := f_t.len
  refine enter (vs := [.slice A_t n_t c_t]) 6 Try.func64 rfl Try.ntmps64 rfl rfl ?_
  have hs1 := St.init w
  refine WC.seq (fun K2 hK2 => ?_)
  refine WC.region ?_
  refine WL.val rfl rfl rfl (Run.assign rfl rfl) ?_
  refine WL.nil ?_
  refine tkN ?_
  refine hK2 _ _ ?_
  clear hK2
  refine WC.seq (fun K3 hK3 => ?_)
  refine WC.region ?_
  refine WL.buildF (F := encNode) hs1 ([]) Try.runUnderlying25 Try.sizeOf62 Try.zeroValue62 rfl rfl rfl rfl rfl rfl rfl rfl rfl rfl rfl rfl (fun A7 c8 L4 whs5 hs5 ho6 => ?_)
  refine WL.val rfl rfl rfl (Run.move rfl rfl) ?_
  refine WL.appendG hs5 ho6 (SlF.src (SlF.st0 f_t hs5) Try.underlying25) Try.underlying25 info_62 rfl rfl rfl rfl rfl rfl rfl rfl rfl rfl ?_ (fun A12 c13 L9 whs10 hs10 ho11 => ?_)
  · simp; omega
  refine WL.val rfl rfl rfl (Run.assign rfl rfl) ?_
  refine WL.nil ?_
  refine tkN ?_
  refine hK3 _ _ ?_
  clear hK3
  refine WC.ret ?_
  refine retV1 rfl (resV.tmp rfl) ?_
  have hx_ := OwnF.eqOf (xs := t) ho11 (by simp)
  rw [← hx_]
  first | exact ⟨_, _, _, rfl, (St.keep1 hs10), ho11⟩ | exact ⟨A12, c13, _, by rw [OwnF.len_ ho11], (St.keep1 hs10), by rw [OwnF.len_ ho11]; exact ho11⟩
end Go.Proofs.Ytghcicggamkjgaa
