/- Walks of Go functions, printed by a program (wip/gen). -/
import Derived.Test.YtghcicggamkjgaaN11
import Derived.Test.YtghcicggamkjgaaQ1
namespace Go.Proofs.Ytghcicggamkjgaa
open Go Go.RowKit
set_option linter.unusedVariables false
set_option linter.unusedSimpArgs false
set_option maxHeartbeats 4000000 in
theorem c_impl_Grow (A_t : Option Addr) (n_t c_t : Nat) (t : List NodeD) (p : Int) (down : Bool) (by_ : Int) (w_ : Int) (h_ : Int) (w : World) (f_t : SlF encNode w A_t n_t t) (hn : n_t ≤ 268435456) :
    Calls Try.prog 49 #[.slice A_t n_t c_t, i64 p, .bool down, i64 by_, i64 w_, i64 h_] w fun e w' => ∃ A c L1, e = .returned (.tuple #[.slice A (growL t p down by_ w_ h_).length c, .bool (growOk t p down by_ w_ h_)]) ∧ St w [] L1 w' ∧ OwnF encNode 62 (.slice A (growL t p down by_ w_ h_).length c) (growL t p down by_ w_ h_) L1 := by
  have hl := f_t.len
  have hla := atL_lt t p
  have hal := areasL_len t w_ h_
  have hovl := overL_len (isOver t (atL t p).toNat) (atL t p).toNat
  refine enter (vs := [.slice A_t n_t c_t, i64 p, .bool down, i64 by_, i64 w_, i64 h_]) 113 Try.func49 rfl Try.ntmps49 rfl rfl ?_
  have hs1 := St.init w
  refine WC.seq (fun K2 hK2 => ?_)
  refine WC.region ?_
  refine WL.val rfl rfl rfl (Run.assign rfl rfl) ?_
  refine WL.val rfl rfl rfl (Run.assign rfl rfl) ?_
  refine WL.nil ?_
  refine tkN ?_
  refine hK2 _ _ ?_
  clear hK2
  refine WC.seq (fun K3 hK3 => ?_)
  refine WC.region ?_
  refine WL.val rfl rfl rfl (Run.move rfl rfl) ?_
  refine WL.val rfl rfl rfl (Run.move rfl rfl) ?_
  refine WL.val rfl rfl rfl (Run.move rfl rfl) ?_
  refine WL.call rfl rfl rfl (Run.call Try.call74 rfl rfl rfl) (c_impl_places _ _ _ _ _ _ _ (SlF.st0 f_t hs1) ?_) ?_
  · first | omega | (simp; omega)
  rintro _ whs4 ⟨A5, c6, L17, rfl, hs4, ho8⟩
  replace hs4 := hs1.callF hs4
  refine ⟨_, rfl, ?_⟩
  refine WL.val rfl rfl rfl (Run.move rfl rfl) ?_
  refine WL.val rfl rfl rfl (Run.extract rfl rfl rfl) ?_
  refine WL.val rfl rfl rfl (Run.extract rfl rfl rfl) ?_
  refine WL.val rfl rfl rfl (Run.assign rfl rfl) ?_
  refine WL.val rfl rfl rfl (Run.assign rfl rfl) ?_
  refine WL.nil ?_
  refine tkN ?_
  refine hK3 _ _ ?_
  clear hK3
  refine WC.seq (fun K9 hK9 => ?_)
  refine WC.region ?_
  refine WL.val rfl rfl rfl (Run.move rfl rfl) ?_
  refine WL.val rfl rfl rfl (Run.move rfl rfl) ?_
  refine WL.call rfl rfl rfl (Run.call Try.call65 rfl rfl rfl) (c_impl_leafAt _ _ _ _ _ _ (SlF.st0 f_t hs4) ?_) ?_
  · first | assumption | rfl | omega
  rintro _ whs10 ⟨rfl, hs10⟩
  replace hs10 := hs4.call0 hs10
  refine ⟨_, rfl, ?_⟩
  refine WL.val rfl rfl rfl (Run.assign rfl rfl) ?_
  refine WL.nil ?_
  refine tkN ?_
  refine hK9 _ _ ?_
  clear hK9
  refine WC.seq (fun K11 hK11 => ?_)
  refine WC.seq (fun K12 hK12 => ?_)
  refine WC.region ?_
  refine WL.val rfl rfl rfl (Run.move rfl rfl) ?_
  refine WL.val rfl rfl rfl (Run.not rfl rfl) ?_
  refine WL.val rfl rfl rfl (Run.move rfl rfl) ?_
  apply WL.meetOr 3 36 39 [(0, _), (1, _), (2, _), (3, _), (4, _), (5, _), (12, _), (13, _), (14, _), (15, _), (16, _), (24, _), (25, _), (26, _), (27, _), (28, _), (29, _), (30, _), (31, _), (32, _), (33, _)] rfl hs10
  · intro g13 J14
    have qg13 := g13
    try simp only [decide_eq_true_eq, decide_eq_false_iff_not, Bool.not_eq_true', Bool.not_eq_false'] at qg13
    refine WL.val (wantF rfl g13) rfl rfl (Run.move rfl rfl) ?_
    refine WL.val (wantF rfl g13) rfl rfl (Run.lss rfl rfl rfl) ?_
    refine WL.val rfl rfl rfl (Run.pickF rfl rfl g13 rfl) ?_
    exact WL.fin J14 hs10 rfl (orF g13) ⟨rfl, rfl, rfl, rfl, rfl, rfl, rfl, rfl, rfl, rfl, rfl, rfl, rfl, rfl, rfl, rfl, rfl, rfl, rfl, rfl, rfl, trivial⟩
  · intro g13 J14
    refine WL.skip (wantNF rfl g13) rfl rfl ?_
    refine WL.skip (wantNF rfl g13) rfl rfl ?_
    refine WL.val rfl rfl rfl (Run.pickT rfl rfl g13 rfl) ?_
    exact WL.fin J14 hs10 rfl (orT g13) ⟨rfl, rfl, rfl, rfl, rfl, rfl, rfl, rfl, rfl, rfl, rfl, rfl, rfl, rfl, rfl, rfl, rfl, rfl, rfl, rfl, rfl, trivial⟩
  · intro whs15 hs15
    refine WL.val rfl rfl rfl (Run.move rfl rfl) ?_
    apply WL.meetOr 4 40 44 [(0, _), (1, _), (2, _), (3, _), (4, _), (5, _), (12, _), (13, _), (14, _), (15, _), (16, _), (24, _), (25, _), (26, _), (27, _), (28, _), (29, _), (30, _), (31, _), (32, _), (33, _)] rfl hs15
    · intro g16 J17
      have qg16 := g16
      try simp only [decide_eq_true_eq, decide_eq_false_iff_not, Bool.not_eq_true', Bool.not_eq_false'] at qg16
      refine WL.val (wantF rfl g16) rfl rfl (Run.move rfl rfl) ?_
      refine WL.call (wantF rfl g16) rfl rfl (Run.call Try.call83 rfl rfl rfl) (c_impl_within _ _ _ _) ?_
      rintro _ whs18 ⟨rfl, hs18⟩
      replace hs18 := hs15.call0 hs18
      refine ⟨_, rfl, ?_⟩
      refine WL.val (wantF rfl g16) rfl rfl (Run.not rfl rfl) ?_
      refine WL.val rfl rfl rfl (Run.pickF rfl rfl g16 rfl) ?_
      exact WL.fin J17 hs18 rfl (orF g16) ⟨rfl, rfl, rfl, rfl, rfl, rfl, rfl, rfl, rfl, rfl, rfl, rfl, rfl, rfl, rfl, rfl, rfl, rfl, rfl, rfl, rfl, trivial⟩
    · intro g16 J17
      refine WL.skip (wantNF rfl g16) rfl rfl ?_
      refine WL.skip (wantNF rfl g16) rfl rfl ?_
      refine WL.skip (wantNF rfl g16) rfl rfl ?_
      refine WL.val rfl rfl rfl (Run.pickT rfl rfl g16 rfl) ?_
      exact WL.fin J17 hs15 rfl (orT g16) ⟨rfl, rfl, rfl, rfl, rfl, rfl, rfl, rfl, rfl, rfl, rfl, rfl, rfl, rfl, rfl, rfl, rfl, rfl, rfl, rfl, rfl, trivial⟩
    · intro whs19 hs19
      refine WL.nil ?_
      refine tkN ?_
      refine hK12 _ _ ?_
      clear hK12
      refine WC.cond rfl (fun h20 => ?_) (fun h20 => ?_)
      · have qh20 := h20
        try simp only [decide_eq_true_eq, decide_eq_false_iff_not, Bool.not_eq_true', Bool.not_eq_false', Bool.and_eq_true, Bool.or_eq_false_iff, within_iff, within_not] at qh20
        have hk : growOk t p down by_ w_ h_ = false := by
          rw [← Bool.not_eq_true]; intro h_1
          simp only [growOk, Bool.and_eq_true, decide_eq_true_eq] at h_1
          simp only [h_1, Bool.not_true, Bool.false_or, Bool.or_eq_true, decide_eq_true_eq, Bool.false_eq_true, or_false] at h20
          omega
        refine WC.seq (fun K21 hK21 => ?_)
        refine WC.region ?_
        refine WL.val rfl rfl rfl (Run.assign rfl rfl) ?_
        refine WL.val rfl rfl rfl (Run.assign rfl rfl) ?_
        refine WL.nil ?_
        refine tkN ?_
        refine hK21 _ _ ?_
        clear hK21
        refine WC.ret ?_
        refine tkR ?_
        clear hK11
        refine retV2 rfl (resV.tmp rfl) (resV.tmp rfl) ?_
        rw [hk]
        have hx_ := OwnF.eqOf (xs := growL t p down by_ w_ h_) (OwnF.nil encNode 62) (by simp [growL, hk])
        rw [← hx_]
        exact ⟨_, _, _, rfl, hs19.nil, (OwnF.nil encNode 62)⟩
      · have qh20 := h20
        try simp only [decide_eq_true_eq, decide_eq_false_iff_not, Bool.not_eq_true', Bool.not_eq_false', Bool.and_eq_true, Bool.or_eq_false_iff, within_iff, within_not] at qh20
        have hyes : placesOk t w_ h_ = true ∧ 0 ≤ atL t p ∧ within by_ (-120) 120 = true := by
          simp only [Bool.or_eq_false_iff, Bool.not_eq_false', decide_eq_false_iff_not] at h20
          exact ⟨h20.1.1, by omega, h20.2⟩
        have hto : treeOk t = true := by have h_1 := hyes.1; simp only [placesOk, sidesOk, Bool.and_eq_true] at h_1; exact h_1.1.1.1
        have hbb := within_iff.1 hyes.2.2
        refine WC.skip ?_
        refine tkN ?_
        refine hK11 _ _ ?_
        clear hK11
        refine WC.seq (fun K22 hK22 => ?_)
        refine WC.region ?_
        refine WL.val rfl rfl rfl (Run.assign rfl rfl) ?_
        refine WL.nil ?_
        refine tkN ?_
        refine hK22 _ _ ?_
        clear hK22
        refine WC.seq (fun K23 hK23 => ?_)
        refine WC.seq (fun K24 hK24 => ?_)
        refine WC.region ?_
        refine WL.val rfl rfl rfl (Run.move rfl rfl) ?_
        refine WL.val rfl rfl rfl (Run.move rfl rfl) ?_
        refine WL.call rfl rfl rfl (Run.call Try.call68 rfl rfl rfl) (c_impl_splitsOver _ _ _ _ _ _ (SlF.st0 f_t hs19) ?_ ?_ ?_) ?_
        · first | assumption | rfl | omega
        · first | assumption | rfl | omega
        · first | assumption | rfl | omega
        rintro _ whs25 ⟨A26, c27, L128, rfl, hs25, ho29⟩
        replace hs25 := hs19.callF hs25
        refine ⟨_, rfl, ?_⟩
        refine WL.val rfl rfl rfl (Run.lenSl Try.runUnderlying31 rfl rfl) ?_
        refine WL.val rfl rfl rfl (Run.move rfl rfl) ?_
        refine WL.nil ?_
        refine tkN ?_
        refine hK24 _ _ ?_
        clear hK24
        refine WC.block ?_
        refine WC.loopS [(0, _), (1, _), (2, _), (3, _), (4, _), (5, _), (12, _), (13, _), (14, _), (15, _), (16, _), (24, _), (25, _), (26, _), (27, _), (28, _), (29, _), (30, _), (31, _), (32, _), (33, _), (44, _), (45, _), (46, _), (47, _), (48, _)] ⟨rfl, rfl, rfl, rfl, rfl, rfl, rfl, rfl, rfl, rfl, rfl, rfl, rfl, rfl, rfl, rfl, rfl, rfl, rfl, rfl, rfl, rfl, rfl, rfl, rfl, rfl, trivial⟩ hs25 (fun k_ f w' => ∃ (i : Nat) (q : Int), k_ = (overL (isOver t (atL t p).toNat) (atL t p).toNat).length - i ∧ (i ≤ (overL (isOver t (atL t p).toNat) (atL t p).toNat).length) ∧ (q = lastD (downD t down) ((overL (isOver t (atL t p).toNat) (atL t p).toNat).take i)) ∧ Sub [(49, .int .i64 i), (17, .int .i64 q)] f) ((fun (i : Nat) (q : Int) => (overL (isOver t (atL t p).toNat) (atL t p).toNat).length - i) (0) ((-1))) ?_ ?_
        · refine ⟨0, (-1), rfl, ?_, ?_, ⟨rfl, rfl, trivial⟩⟩
          · exact Nat.zero_le _
          · rfl
        · clear hs25
          rintro _ f w ⟨i, q, rfl, p0, p1, hG⟩ hF hs30
          refine WC.sub _ (hG.app hF) ?_
          clear hG hF
          refine WC.seq (fun K31 hK31 => ?_)
          refine WC.region ?_
          refine WL.val rfl rfl rfl (Run.lss rfl rfl rfl) ?_
          refine WL.nil ?_
          refine tkN ?_
          refine hK31 _ _ ?_
          clear hK31
          refine WC.seq (fun K32 hK32 => ?_)
          refine WC.cond rfl (fun h33 => ?_) (fun h33 => ?_)
          · have qh33 := h33
            try simp only [decide_eq_true_eq, decide_eq_false_iff_not, Bool.not_eq_true', Bool.not_eq_false', Bool.and_eq_true, Bool.or_eq_false_iff, within_iff, within_not] at qh33
            obtain ⟨j, hj1, hj2, _⟩ := overL_mem (p := isOver t (atL t p).toNat) (k := (atL t p).toNat) (i := i) (by omega)
            have hj3 : gat encI (overL (isOver t (atL t p).toNat) (atL t p).toNat) i = (j : Int) := hj1
            refine WC.skip ?_
            refine tkN ?_
            refine hK32 _ _ ?_
            clear hK32
            refine WC.seq (fun K34 hK34 => ?_)
            refine WC.block ?_
            refine WC.seq (fun K35 hK35 => ?_)
            refine WC.region ?_
            refine WL.val rfl rfl rfl (Run.idxN Try.runUnderlying31 Try.sizeOf3 rfl rfl rfl ?_ ?_ ?_) ?_
            · exact SlF.some_ (SlF.ofOwn ho29 (fun p_ hp_ => (hs30.own p_ (List.mem_append_left _ hp_)).1))
            · omega
            · omega
            refine WL.val rfl rfl rfl (Run.load Try.isAgg3 rfl rfl (SlF.one1 (SlF.ofOwn ho29 (fun p_ hp_ => (hs30.own p_ (List.mem_append_left _ hp_)).1)) ?_ rfl)) ?_
            · omega
            refine WL.val rfl rfl rfl (Run.assign rfl rfl) ?_
            refine WL.nil ?_
            refine tkN ?_
            refine hK35 _ _ ?_
            clear hK35
            refine WC.seq (fun K36 hK36 => ?_)
            refine WC.region ?_
            refine WL.val rfl rfl rfl (Run.move rfl rfl) ?_
            refine WL.val rfl rfl rfl (Run.move rfl rfl) ?_
            refine WL.val rfl rfl rfl (Run.idxK ((gat encI (overL (isOver t (atL t p).toNat) (atL t p).toNat) i).toNat) Try.runUnderlying25 Try.sizeOf62 rfl rfl rfl ?_ ?_ ?_) ?_
            · exact SlF.some_ (SlF.st0 f_t hs30)
            · omega
            · omega
            refine WL.val rfl rfl rfl (Run.fieldO Try.runUnderlying62 rfl rfl rfl Try.sizeOf4 rfl) ?_
            refine WL.val rfl rfl rfl (Run.load Try.isAgg4 rfl rfl (SlF.fld (SlF.st0 f_t hs30) ?_ rfl)) ?_
            · omega
            refine WL.val rfl rfl rfl (Run.move rfl rfl) ?_
            refine WL.val rfl rfl rfl (Run.eqlB Try.runUnderlying4 rfl rfl rfl) ?_
            refine WL.nil ?_
            refine tkN ?_
            refine hK36 _ _ ?_
            clear hK36
            refine WC.cond rfl (fun h37 => ?_) (fun h37 => ?_)
            · have qh37 := h37
              try simp only [decide_eq_true_eq, decide_eq_false_iff_not, Bool.not_eq_true', Bool.not_eq_false', Bool.and_eq_true, Bool.or_eq_false_iff, within_iff, within_not] at qh37
              refine WC.region ?_
              refine WL.val rfl rfl rfl (Run.move rfl rfl) ?_
              refine WL.val rfl rfl rfl (Run.assign rfl rfl) ?_
              refine WL.nil ?_
              refine ibN ?_
              refine tkN ?_
              refine hK34 _ _ ?_
              clear hK34
              refine WC.region ?_
              refine WL.val rfl rfl rfl (Run.add rfl rfl rfl ?_) ?_
              · constructor <;> omega
              refine WL.val rfl rfl rfl (Run.move rfl rfl) ?_
              refine WL.nil ?_
              refine tkN ?_
              refine ⟨⟨rfl, rfl, rfl, rfl, rfl, rfl, rfl, rfl, rfl, rfl, rfl, rfl, rfl, rfl, rfl, rfl, rfl, rfl, rfl, rfl, rfl, rfl, rfl, rfl, rfl, rfl, trivial⟩, hs30, _, ?_, i + 1, _, rfl, ?_, ?_, ⟨rfl, rfl, trivial⟩⟩
              · omega
              · omega
              · rw [lastD_take (by omega)]; first | (rw [if_pos (by simp only [downD]; simpa using h37)]) | (rw [if_neg (by simp only [downD]; simpa using h37), p1])
            · have qh37 := h37
              try simp only [decide_eq_true_eq, decide_eq_false_iff_not, Bool.not_eq_true', Bool.not_eq_false', Bool.and_eq_true, Bool.or_eq_false_iff, within_iff, within_not] at qh37
              refine WC.skip ?_
              refine ibN ?_
              refine tkN ?_
              refine hK34 _ _ ?_
              clear hK34
              refine WC.region ?_
              refine WL.val rfl rfl rfl (Run.add rfl rfl rfl ?_) ?_
              · constructor <;> omega
              refine WL.val rfl rfl rfl (Run.move rfl rfl) ?_
              refine WL.nil ?_
              refine tkN ?_
              refine ⟨⟨rfl, rfl, rfl, rfl, rfl, rfl, rfl, rfl, rfl, rfl, rfl, rfl, rfl, rfl, rfl, rfl, rfl, rfl, rfl, rfl, rfl, rfl, rfl, rfl, rfl, rfl, trivial⟩, hs30, _, ?_, i + 1, _, rfl, ?_, ?_, ⟨rfl, rfl, trivial⟩⟩
              · omega
              · omega
              · rw [lastD_take (by omega)]; first | (rw [if_pos (by simp only [downD]; simpa using h37)]) | (rw [if_neg (by simp only [downD]; simpa using h37), p1])
          · have qh33 := h33
            try simp only [decide_eq_true_eq, decide_eq_false_iff_not, Bool.not_eq_true', Bool.not_eq_false', Bool.and_eq_true, Bool.or_eq_false_iff, within_iff, within_not] at qh33
            have hq : q = (growUp t down (atL t p).toNat) := by rw [p1, List.take_of_length_le (by omega), growUp_fold]
            subst hq
            refine WC.exit ?_
            refine tkE ?_
            refine tkE ?_
            refine ibE ?_
            refine tkN ?_
            refine hK23 _ _ ?_
            clear hK23
            refine WC.seq (fun K38 hK38 => ?_)
            refine WC.seq (fun K39 hK39 => ?_)
            refine WC.region ?_
            refine WL.val rfl rfl rfl (Run.move rfl rfl) ?_
            refine WL.val rfl rfl rfl (Run.lss rfl rfl rfl) ?_
            refine WL.nil ?_
            refine tkN ?_
            refine hK39 _ _ ?_
            clear hK39
            refine WC.cond rfl (fun h40 => ?_) (fun h40 => ?_)
            · have qh40 := h40
              try simp only [decide_eq_true_eq, decide_eq_false_iff_not, Bool.not_eq_true', Bool.not_eq_false', Bool.and_eq_true, Bool.or_eq_false_iff, within_iff, within_not] at qh40
              have hk : growOk t p down by_ w_ h_ = false := by
                rw [← Bool.not_eq_true]; intro h_1
                simp only [growOk, Bool.and_eq_true, decide_eq_true_eq] at h_1
                omega
              refine WC.seq (fun K41 hK41 => ?_)
              refine WC.region ?_
              refine WL.val rfl rfl rfl (Run.assign rfl rfl) ?_
              refine WL.val rfl rfl rfl (Run.assign rfl rfl) ?_
              refine WL.nil ?_
              refine tkN ?_
              refine hK41 _ _ ?_
              clear hK41
              refine WC.ret ?_
              refine tkR ?_
              clear hK38
              refine retV2 rfl (resV.tmp rfl) (resV.tmp rfl) ?_
              rw [hk]
              have hx_ := OwnF.eqOf (xs := growL t p down by_ w_ h_) (OwnF.nil encNode 62) (by simp [growL, hk])
              rw [← hx_]
              exact ⟨_, _, _, rfl, hs30.nil, (OwnF.nil encNode 62)⟩
            · have qh40 := h40
              try simp only [decide_eq_true_eq, decide_eq_false_iff_not, Bool.not_eq_true', Bool.not_eq_false', Bool.and_eq_true, Bool.or_eq_false_iff, within_iff, within_not] at qh40
              obtain ⟨u, hu, huk, hus, hud⟩ := growUp_some (t := t) (down := down) (k := (atL t p).toNat) (by omega)
              have hul : u < t.length := by omega
              obtain ⟨hz1, hz2, hz3⟩ := size_eq hyes.1 hul hus
              have hab := areas_bound hyes.1 hul
              have hfb := node_first hto hul
              refine WC.skip ?_
              refine tkN ?_
              refine hK38 _ _ ?_
              clear hK38
              refine WC.seq (fun K42 hK42 => ?_)
              refine WC.region ?_
              refine WL.val rfl rfl rfl (Run.move rfl rfl) ?_
              refine WL.val rfl rfl rfl (Run.move rfl rfl) ?_
              refine WL.val rfl rfl rfl (Run.idxK (u) Try.runUnderlying48 Try.sizeOf40 rfl rfl rfl ?_ ?_ ?_) ?_
              · exact SlF.some_ (SlF.ofOwn ho8 (fun p_ hp_ => (hs30.own p_ (List.mem_append_right _ (List.mem_append_left _ hp_))).1))
              · omega
              · omega
              refine WL.val rfl rfl rfl (Run.fieldO Try.runUnderlying40 rfl rfl rfl Try.sizeOf3 rfl) ?_
              refine WL.val rfl rfl rfl (Run.load Try.isAgg3 rfl rfl (SlF.fld (SlF.ofOwn ho8 (fun p_ hp_ => (hs30.own p_ (List.mem_append_right _ (List.mem_append_left _ hp_))).1)) ?_ rfl)) ?_
              · omega
              refine WL.val rfl rfl rfl (Run.assign rfl rfl) ?_
              refine WL.nil ?_
              refine tkN ?_
              refine hK42 _ _ ?_
              clear hK42
              refine WC.seq (fun K43 hK43 => ?_)
              refine WC.seq (fun K44 hK44 => ?_)
              refine WC.region ?_
              refine WL.val rfl rfl rfl (Run.move rfl rfl) ?_
              refine WL.nil ?_
              refine tkN ?_
              refine hK44 _ _ ?_
              clear hK44
              refine WC.cond rfl (fun h45 => ?_) (fun h45 => ?_)
              · have qh45 := h45
                try simp only [decide_eq_true_eq, decide_eq_false_iff_not, Bool.not_eq_true', Bool.not_eq_false', Bool.and_eq_true, Bool.or_eq_false_iff, within_iff, within_not] at qh45
                have hdd : down = true := h45
                have hside : sideR (gat encNode t u).Down (gat encRect (areasL t w_ h_) u) = (gat encRect (areasL t w_ h_) u).H := by rw [hud, hdd]; rfl
                refine WC.region ?_
                refine WL.val rfl rfl rfl (Run.move rfl rfl) ?_
                refine WL.val rfl rfl rfl (Run.move rfl rfl) ?_
                refine WL.val rfl rfl rfl (Run.idxK (u) Try.runUnderlying48 Try.sizeOf40 rfl rfl rfl ?_ ?_ ?_) ?_
                · exact SlF.some_ (SlF.ofOwn ho8 (fun p_ hp_ => (hs30.own p_ (List.mem_append_right _ (List.mem_append_left _ hp_))).1))
                · omega
                · omega
                refine WL.val rfl rfl rfl (Run.fieldO Try.runUnderlying40 rfl rfl rfl Try.sizeOf3 rfl) ?_
                refine WL.val rfl rfl rfl (Run.load Try.isAgg3 rfl rfl (SlF.fld (SlF.ofOwn ho8 (fun p_ hp_ => (hs30.own p_ (List.mem_append_right _ (List.mem_append_left _ hp_))).1)) ?_ rfl)) ?_
                · omega
                refine WL.val rfl rfl rfl (Run.assign rfl rfl) ?_
                refine WL.nil ?_
                refine tkN ?_
                refine hK43 _ _ ?_
                clear hK43
                refine WC.seq (fun K46 hK46 => ?_)
                refine WC.seq (fun K47 hK47 => ?_)
                refine WC.region ?_
                refine WL.val rfl rfl rfl (Run.move rfl rfl) ?_
                refine WL.val rfl rfl rfl (Run.move rfl rfl) ?_
                refine WL.val rfl rfl rfl (Run.move rfl rfl) ?_
                refine WL.val rfl rfl rfl (Run.add rfl rfl rfl ?_) ?_
                · constructor <;> omega
                refine WL.call rfl rfl rfl (Run.call Try.call56 rfl rfl rfl) (c_impl_endOf _ _ _ _ _ _ (SlF.st0 f_t hs30) ?_) ?_
                · first | assumption | rfl | omega
                rintro _ whs48 ⟨rfl, hs48⟩
                replace hs48 := hs30.call0 hs48
                refine ⟨_, rfl, ?_⟩
                refine WL.val rfl rfl rfl (Run.geq rfl rfl rfl) ?_
                refine WL.nil ?_
                refine tkN ?_
                refine hK47 _ _ ?_
                clear hK47
                refine WC.cond rfl (fun h49 => ?_) (fun h49 => ?_)
                · have qh49 := h49
                  try simp only [decide_eq_true_eq, decide_eq_false_iff_not, Bool.not_eq_true', Bool.not_eq_false', Bool.and_eq_true, Bool.or_eq_false_iff, within_iff, within_not] at qh49
                  have hby' : growBy t (atL t p).toNat u by_ = -by_ := by rw [growBy, ← hu, if_pos (by omega)]
                  refine WC.region ?_
                  refine WL.val rfl rfl rfl (Run.move rfl rfl) ?_
                  refine WL.val rfl rfl rfl (Run.neg rfl rfl ?_) ?_
                  · exact neg_in (by constructor <;> omega)
                  refine WL.val rfl rfl rfl (Run.assign rfl rfl) ?_
                  refine WL.nil ?_
                  refine tkN ?_
                  refine hK46 _ _ ?_
                  clear hK46
                  refine WC.seq (fun K50 hK50 => ?_)
                  refine WC.region ?_
                  refine WL.val rfl rfl rfl (Run.move rfl rfl) ?_
                  refine WL.call rfl rfl rfl (Run.call Try.call66 rfl rfl rfl) (c_slices_Clone_impl_Node_impl_Node _ _ _ _ _ (SlF.st0 f_t hs48) ?_) ?_
                  · first | assumption | rfl | omega
                  rintro _ whs51 ⟨A52, c53, L154, rfl, hs51, ho55⟩
                  replace hs51 := hs48.callF hs51
                  refine ⟨_, rfl, ?_⟩
                  refine WL.val rfl rfl rfl (Run.assign rfl rfl) ?_
                  refine WL.nil ?_
                  refine tkN ?_
                  refine hK50 _ _ ?_
                  clear hK50
                  refine WC.seq (fun K56 hK56 => ?_)
                  refine WC.region ?_
                  refine WL.val rfl rfl rfl (Run.move rfl rfl) ?_
                  refine WL.val rfl rfl rfl (Run.move rfl rfl) ?_
                  refine WL.val rfl rfl rfl (Run.move rfl rfl) ?_
                  refine WL.val rfl rfl rfl (Run.move rfl rfl) ?_
                  refine WL.val rfl rfl rfl (Run.idxK (u) Try.runUnderlying25 Try.sizeOf62 rfl rfl rfl ?_ ?_ ?_) ?_
                  · exact SlF.some_ (SlF.st0 f_t hs51)
                  · omega
                  · omega
                  refine WL.val rfl rfl rfl (Run.fieldO Try.runUnderlying62 rfl rfl rfl Try.sizeOf3 rfl) ?_
                  refine WL.val rfl rfl rfl (Run.load Try.isAgg3 rfl rfl (SlF.fld (SlF.st0 f_t hs51) ?_ rfl)) ?_
                  · omega
                  refine WL.val rfl rfl rfl (Run.move rfl rfl) ?_
                  refine WL.val rfl rfl rfl (Run.sub rfl rfl rfl ?_) ?_
                  · constructor <;> omega
                  refine WL.val rfl rfl rfl (Run.min rfl rfl rfl) ?_
                  refine WL.val rfl rfl rfl (Run.move rfl rfl) ?_
                  refine WL.val rfl rfl rfl (Run.add rfl rfl rfl ?_) ?_
                  · constructor <;> omega
                  refine WL.val rfl rfl rfl (Run.move rfl rfl) ?_
                  refine WL.val rfl rfl rfl (Run.sub rfl rfl rfl ?_) ?_
                  · constructor <;> omega
                  refine WL.val rfl rfl rfl (Run.min rfl rfl rfl) ?_
                  refine WL.val rfl rfl rfl (Run.max rfl rfl rfl) ?_
                  refine WL.val rfl rfl rfl (Run.idxK (u) Try.runUnderlying25 Try.sizeOf62 rfl rfl rfl ?_ ?_ ?_) ?_
                  · exact SlF.some_ (SlF.ofOwn ho55 (fun p_ hp_ => (hs51.own p_ (List.mem_append_left _ hp_)).1))
                  · omega
                  · omega
                  refine WL.val rfl rfl rfl (Run.fieldO Try.runUnderlying62 rfl rfl rfl Try.sizeOf3 rfl) ?_
                  refine WL.storeF (x' := ⟨(gat encNode t u).Pane, (gat encNode t u).Down, max 1 (min (min (gat encNode t u).First ((gat encRect (areasL t w_ h_) u).H - 2) + (-by_)) ((gat encRect (areasL t w_ h_) u).H - 2))⟩) hs51 ho55 Try.sizeOf3 rfl rfl rfl rfl rfl rfl rfl rfl rfl ?_ rfl (fun L57 whs58 hs58 ho59 _ => ?_)
                  · omega
                  refine WL.nil ?_
                  refine tkN ?_
                  refine hK56 _ _ ?_
                  clear hK56
                  refine WC.seq (fun K60 hK60 => ?_)
                  refine WC.seq (fun K61 hK61 => ?_)
                  refine WC.region ?_
                  refine WL.val rfl rfl rfl (Run.move rfl rfl) ?_
                  refine WL.val rfl rfl rfl (Run.move rfl rfl) ?_
                  refine WL.val rfl rfl rfl (Run.move rfl rfl) ?_
                  refine WL.call rfl rfl rfl (Run.call Try.call74 rfl rfl rfl) (c_impl_places _ _ _ _ _ _ _ (SlF.ofOwn ho59 (fun p_ hp_ => (hs58.own p_ (List.mem_append_left _ hp_)).1)) ?_) ?_
                  · first | omega | (simp; omega)
                  rintro _ whs62 ⟨A63, c64, L165, rfl, hs62, ho66⟩
                  replace hs62 := hs58.callF hs62
                  refine ⟨_, rfl, ?_⟩
                  refine WL.val rfl rfl rfl (Run.move rfl rfl) ?_
                  refine WL.val rfl rfl rfl (Run.extract rfl rfl rfl) ?_
                  refine WL.val rfl rfl rfl (Run.extract rfl rfl rfl) ?_
                  refine WL.val rfl rfl rfl (Run.assign rfl rfl) ?_
                  refine WL.val rfl rfl rfl (Run.assign rfl rfl) ?_
                  refine WL.nil ?_
                  refine tkN ?_
                  refine hK61 _ _ ?_
                  clear hK61
                  refine WC.seq (fun K67 hK67 => ?_)
                  refine WC.region ?_
                  refine WL.val rfl rfl rfl (Run.move rfl rfl) ?_
                  refine WL.val rfl rfl rfl (Run.not rfl rfl) ?_
                  refine WL.nil ?_
                  refine tkN ?_
                  refine hK67 _ _ ?_
                  clear hK67
                  refine WC.cond rfl (fun h68 => ?_) (fun h68 => ?_)
                  · have qh68 := h68
                    try simp only [decide_eq_true_eq, decide_eq_false_iff_not, Bool.not_eq_true', Bool.not_eq_false', Bool.and_eq_true, Bool.or_eq_false_iff, within_iff, within_not] at qh68
                    have hxs : t.set u ⟨(gat encNode t u).Pane, (gat encNode t u).Down, max 1 (min (min (gat encNode t u).First ((gat encRect (areasL t w_ h_) u).H - 2) + (-by_)) ((gat encRect (areasL t w_ h_) u).H - 2))⟩ = growOut t (atL t p).toNat u by_ w_ h_ := by simp only [growOut, growFirst, hby', hside]
                    have hk : growOk t p down by_ w_ h_ = false := by
                      rw [← Bool.not_eq_true]; intro h_1
                      simp only [growOk, Bool.and_eq_true, decide_eq_true_eq] at h_1
                      have h_2 := h_1.2
                      rw [hu, Int.toNat_natCast, ← hxs] at h_2
                      rw [h_2] at h68
                      cases h68
                    refine WC.seq (fun K69 hK69 => ?_)
                    refine WC.region ?_
                    refine WL.val rfl rfl rfl (Run.assign rfl rfl) ?_
                    refine WL.val rfl rfl rfl (Run.assign rfl rfl) ?_
                    refine WL.nil ?_
                    refine tkN ?_
                    refine hK69 _ _ ?_
                    clear hK69
                    refine WC.ret ?_
                    refine tkR ?_
                    clear hK60
                    refine retV2 rfl (resV.tmp rfl) (resV.tmp rfl) ?_
                    rw [hk]
                    have hx_ := OwnF.eqOf (xs := growL t p down by_ w_ h_) (OwnF.nil encNode 62) (by simp [growL, hk])
                    rw [← hx_]
                    exact ⟨_, _, _, rfl, hs62.nil, (OwnF.nil encNode 62)⟩
                  · have qh68 := h68
                    try simp only [decide_eq_true_eq, decide_eq_false_iff_not, Bool.not_eq_true', Bool.not_eq_false', Bool.and_eq_true, Bool.or_eq_false_iff, within_iff, within_not] at qh68
                    have hxs : t.set u ⟨(gat encNode t u).Pane, (gat encNode t u).Down, max 1 (min (min (gat encNode t u).First ((gat encRect (areasL t w_ h_) u).H - 2) + (-by_)) ((gat encRect (areasL t w_ h_) u).H - 2))⟩ = growOut t (atL t p).toNat u by_ w_ h_ := by simp only [growOut, growFirst, hby', hside]
                    have hk : growOk t p down by_ w_ h_ = true := by
                      simp only [growOk, Bool.and_eq_true, decide_eq_true_eq]
                      rw [hu, Int.toNat_natCast, ← hxs]
                      simp only [Bool.not_eq_false'] at h68
                      exact ⟨⟨⟨⟨hyes.1, hyes.2.1⟩, hyes.2.2⟩, by omega⟩, h68⟩
                    refine WC.skip ?_
                    refine tkN ?_
                    refine hK60 _ _ ?_
                    clear hK60
                    refine WC.seq (fun K70 hK70 => ?_)
                    refine WC.region ?_
                    refine WL.val rfl rfl rfl (Run.move rfl rfl) ?_
                    refine WL.val rfl rfl rfl (Run.assign rfl rfl) ?_
                    refine WL.val rfl rfl rfl (Run.assign rfl rfl) ?_
                    refine WL.nil ?_
                    refine tkN ?_
                    refine hK70 _ _ ?_
                    clear hK70
                    refine WC.ret ?_
                    refine retV2 rfl (resV.tmp rfl) (resV.tmp rfl) ?_
                    rw [hk]
                    have hx_ := OwnF.eqOf (xs := growL t p down by_ w_ h_) ho59 (by rw [hxs, growL, if_pos hk, hu]; rfl)
                    rw [← hx_]
                    first | exact ⟨_, _, _, rfl, (St.keep1 (St.perm hs62 (L' := L57 ++ _) (perm_front (A := L165) (List.Perm.refl _)))), ho59⟩ | exact ⟨A52, c53, _, by rw [OwnF.len_ ho59], (St.keep1 (St.perm hs62 (L' := L57 ++ _) (perm_front (A := L165) (List.Perm.refl _)))), by rw [OwnF.len_ ho59]; exact ho59⟩
                · have qh49 := h49
                  try simp only [decide_eq_true_eq, decide_eq_false_iff_not, Bool.not_eq_true', Bool.not_eq_false', Bool.and_eq_true, Bool.or_eq_false_iff, within_iff, within_not] at qh49
                  have hby' : growBy t (atL t p).toNat u by_ = by_ := by rw [growBy, ← hu, if_neg (by omega)]
                  refine WC.skip ?_
                  refine tkN ?_
                  refine hK46 _ _ ?_
                  clear hK46
                  refine WC.seq (fun K71 hK71 => ?_)
                  refine WC.region ?_
                  refine WL.val rfl rfl rfl (Run.move rfl rfl) ?_
                  refine WL.call rfl rfl rfl (Run.call Try.call66 rfl rfl rfl) (c_slices_Clone_impl_Node_impl_Node _ _ _ _ _ (SlF.st0 f_t hs48) ?_) ?_
                  · first | assumption | rfl | omega
                  rintro _ whs72 ⟨A73, c74, L175, rfl, hs72, ho76⟩
                  replace hs72 := hs48.callF hs72
                  refine ⟨_, rfl, ?_⟩
                  refine WL.val rfl rfl rfl (Run.assign rfl rfl) ?_
                  refine WL.nil ?_
                  refine tkN ?_
                  refine hK71 _ _ ?_
                  clear hK71
                  refine WC.seq (fun K77 hK77 => ?_)
                  refine WC.region ?_
                  refine WL.val rfl rfl rfl (Run.move rfl rfl) ?_
                  refine WL.val rfl rfl rfl (Run.move rfl rfl) ?_
                  refine WL.val rfl rfl rfl (Run.move rfl rfl) ?_
                  refine WL.val rfl rfl rfl (Run.move rfl rfl) ?_
                  refine WL.val rfl rfl rfl (Run.idxK (u) Try.runUnderlying25 Try.sizeOf62 rfl rfl rfl ?_ ?_ ?_) ?_
                  · exact SlF.some_ (SlF.st0 f_t hs72)
                  · omega
                  · omega
                  refine WL.val rfl rfl rfl (Run.fieldO Try.runUnderlying62 rfl rfl rfl Try.sizeOf3 rfl) ?_
                  refine WL.val rfl rfl rfl (Run.load Try.isAgg3 rfl rfl (SlF.fld (SlF.st0 f_t hs72) ?_ rfl)) ?_
                  · omega
                  refine WL.val rfl rfl rfl (Run.move rfl rfl) ?_
                  refine WL.val rfl rfl rfl (Run.sub rfl rfl rfl ?_) ?_
                  · constructor <;> omega
                  refine WL.val rfl rfl rfl (Run.min rfl rfl rfl) ?_
                  refine WL.val rfl rfl rfl (Run.move rfl rfl) ?_
                  refine WL.val rfl rfl rfl (Run.add rfl rfl rfl ?_) ?_
                  · constructor <;> omega
                  refine WL.val rfl rfl rfl (Run.move rfl rfl) ?_
                  refine WL.val rfl rfl rfl (Run.sub rfl rfl rfl ?_) ?_
                  · constructor <;> omega
                  refine WL.val rfl rfl rfl (Run.min rfl rfl rfl) ?_
                  refine WL.val rfl rfl rfl (Run.max rfl rfl rfl) ?_
                  refine WL.val rfl rfl rfl (Run.idxK (u) Try.runUnderlying25 Try.sizeOf62 rfl rfl rfl ?_ ?_ ?_) ?_
                  · exact SlF.some_ (SlF.ofOwn ho76 (fun p_ hp_ => (hs72.own p_ (List.mem_append_left _ hp_)).1))
                  · omega
                  · omega
                  refine WL.val rfl rfl rfl (Run.fieldO Try.runUnderlying62 rfl rfl rfl Try.sizeOf3 rfl) ?_
                  refine WL.storeF (x' := ⟨(gat encNode t u).Pane, (gat encNode t u).Down, max 1 (min (min (gat encNode t u).First ((gat encRect (areasL t w_ h_) u).H - 2) + by_) ((gat encRect (areasL t w_ h_) u).H - 2))⟩) hs72 ho76 Try.sizeOf3 rfl rfl rfl rfl rfl rfl rfl rfl rfl ?_ rfl (fun L78 whs79 hs79 ho80 _ => ?_)
                  · omega
                  refine WL.nil ?_
                  refine tkN ?_
                  refine hK77 _ _ ?_
                  clear hK77
                  refine WC.seq (fun K81 hK81 => ?_)
                  refine WC.seq (fun K82 hK82 => ?_)
                  refine WC.region ?_
                  refine WL.val rfl rfl rfl (Run.move rfl rfl) ?_
                  refine WL.val rfl rfl rfl (Run.move rfl rfl) ?_
                  refine WL.val rfl rfl rfl (Run.move rfl rfl) ?_
                  refine WL.call rfl rfl rfl (Run.call Try.call74 rfl rfl rfl) (c_impl_places _ _ _ _ _ _ _ (SlF.ofOwn ho80 (fun p_ hp_ => (hs79.own p_ (List.mem_append_left _ hp_)).1)) ?_) ?_
                  · first | omega | (simp; omega)
                  rintro _ whs83 ⟨A84, c85, L186, rfl, hs83, ho87⟩
                  replace hs83 := hs79.callF hs83
                  refine ⟨_, rfl, ?_⟩
                  refine WL.val rfl rfl rfl (Run.move rfl rfl) ?_
                  refine WL.val rfl rfl rfl (Run.extract rfl rfl rfl) ?_
                  refine WL.val rfl rfl rfl (Run.extract rfl rfl rfl) ?_
                  refine WL.val rfl rfl rfl (Run.assign rfl rfl) ?_
                  refine WL.val rfl rfl rfl (Run.assign rfl rfl) ?_
                  refine WL.nil ?_
                  refine tkN ?_
                  refine hK82 _ _ ?_
                  clear hK82
                  refine WC.seq (fun K88 hK88 => ?_)
                  refine WC.region ?_
                  refine WL.val rfl rfl rfl (Run.move rfl rfl) ?_
                  refine WL.val rfl rfl rfl (Run.not rfl rfl) ?_
                  refine WL.nil ?_
                  refine tkN ?_
                  refine hK88 _ _ ?_
                  clear hK88
                  refine WC.cond rfl (fun h89 => ?_) (fun h89 => ?_)
                  · have qh89 := h89
                    try simp only [decide_eq_true_eq, decide_eq_false_iff_not, Bool.not_eq_true', Bool.not_eq_false', Bool.and_eq_true, Bool.or_eq_false_iff, within_iff, within_not] at qh89
                    have hxs : t.set u ⟨(gat encNode t u).Pane, (gat encNode t u).Down, max 1 (min (min (gat encNode t u).First ((gat encRect (areasL t w_ h_) u).H - 2) + by_) ((gat encRect (areasL t w_ h_) u).H - 2))⟩ = growOut t (atL t p).toNat u by_ w_ h_ := by simp only [growOut, growFirst, hby', hside]
                    have hk : growOk t p down by_ w_ h_ = false := by
                      rw [← Bool.not_eq_true]; intro h_1
                      simp only [growOk, Bool.and_eq_true, decide_eq_true_eq] at h_1
                      have h_2 := h_1.2
                      rw [hu, Int.toNat_natCast, ← hxs] at h_2
                      rw [h_2] at h89
                      cases h89
                    refine WC.seq (fun K90 hK90 => ?_)
                    refine WC.region ?_
                    refine WL.val rfl rfl rfl (Run.assign rfl rfl) ?_
                    refine WL.val rfl rfl rfl (Run.assign rfl rfl) ?_
                    refine WL.nil ?_
                    refine tkN ?_
                    refine hK90 _ _ ?_
                    clear hK90
                    refine WC.ret ?_
                    refine tkR ?_
                    clear hK81
                    refine retV2 rfl (resV.tmp rfl) (resV.tmp rfl) ?_
                    rw [hk]
                    have hx_ := OwnF.eqOf (xs := growL t p down by_ w_ h_) (OwnF.nil encNode 62) (by simp [growL, hk])
                    rw [← hx_]
                    exact ⟨_, _, _, rfl, hs83.nil, (OwnF.nil encNode 62)⟩
                  · have qh89 := h89
                    try simp only [decide_eq_true_eq, decide_eq_false_iff_not, Bool.not_eq_true', Bool.not_eq_false', Bool.and_eq_true, Bool.or_eq_false_iff, within_iff, within_not] at qh89
                    have hxs : t.set u ⟨(gat encNode t u).Pane, (gat encNode t u).Down, max 1 (min (min (gat encNode t u).First ((gat encRect (areasL t w_ h_) u).H - 2) + by_) ((gat encRect (areasL t w_ h_) u).H - 2))⟩ = growOut t (atL t p).toNat u by_ w_ h_ := by simp only [growOut, growFirst, hby', hside]
                    have hk : growOk t p down by_ w_ h_ = true := by
                      simp only [growOk, Bool.and_eq_true, decide_eq_true_eq]
                      rw [hu, Int.toNat_natCast, ← hxs]
                      simp only [Bool.not_eq_false'] at h89
                      exact ⟨⟨⟨⟨hyes.1, hyes.2.1⟩, hyes.2.2⟩, by omega⟩, h89⟩
                    refine WC.skip ?_
                    refine tkN ?_
                    refine hK81 _ _ ?_
                    clear hK81
                    refine WC.seq (fun K91 hK91 => ?_)
                    refine WC.region ?_
                    refine WL.val rfl rfl rfl (Run.move rfl rfl) ?_
                    refine WL.val rfl rfl rfl (Run.assign rfl rfl) ?_
                    refine WL.val rfl rfl rfl (Run.assign rfl rfl) ?_
                    refine WL.nil ?_
                    refine tkN ?_
                    refine hK91 _ _ ?_
                    clear hK91
                    refine WC.ret ?_
                    refine retV2 rfl (resV.tmp rfl) (resV.tmp rfl) ?_
                    rw [hk]
                    have hx_ := OwnF.eqOf (xs := growL t p down by_ w_ h_) ho80 (by rw [hxs, growL, if_pos hk, hu]; rfl)
                    rw [← hx_]
                    first | exact ⟨_, _, _, rfl, (St.keep1 (St.perm hs83 (L' := L78 ++ _) (perm_front (A := L186) (List.Perm.refl _)))), ho80⟩ | exact ⟨A73, c74, _, by rw [OwnF.len_ ho80], (St.keep1 (St.perm hs83 (L' := L78 ++ _) (perm_front (A := L186) (List.Perm.refl _)))), by rw [OwnF.len_ ho80]; exact ho80⟩
              · have qh45 := h45
                try simp only [decide_eq_true_eq, decide_eq_false_iff_not, Bool.not_eq_true', Bool.not_eq_false', Bool.and_eq_true, Bool.or_eq_false_iff, within_iff, within_not] at qh45
                have hdd : down = false := h45
                have hside : sideR (gat encNode t u).Down (gat encRect (areasL t w_ h_) u) = (gat encRect (areasL t w_ h_) u).W := by rw [hud, hdd]; rfl
                refine WC.skip ?_
                refine tkN ?_
                refine hK43 _ _ ?_
                clear hK43
                refine WC.seq (fun K92 hK92 => ?_)
                refine WC.seq (fun K93 hK93 => ?_)
                refine WC.region ?_
                refine WL.val rfl rfl rfl (Run.move rfl rfl) ?_
                refine WL.val rfl rfl rfl (Run.move rfl rfl) ?_
                refine WL.val rfl rfl rfl (Run.move rfl rfl) ?_
                refine WL.val rfl rfl rfl (Run.add rfl rfl rfl ?_) ?_
                · constructor <;> omega
                refine WL.call rfl rfl rfl (Run.call Try.call56 rfl rfl rfl) (c_impl_endOf _ _ _ _ _ _ (SlF.st0 f_t hs30) ?_) ?_
                · first | assumption | rfl | omega
                rintro _ whs94 ⟨rfl, hs94⟩
                replace hs94 := hs30.call0 hs94
                refine ⟨_, rfl, ?_⟩
                refine WL.val rfl rfl rfl (Run.geq rfl rfl rfl) ?_
                refine WL.nil ?_
                refine tkN ?_
                refine hK93 _ _ ?_
                clear hK93
                refine WC.cond rfl (fun h95 => ?_) (fun h95 => ?_)
                · have qh95 := h95
                  try simp only [decide_eq_true_eq, decide_eq_false_iff_not, Bool.not_eq_true', Bool.not_eq_false', Bool.and_eq_true, Bool.or_eq_false_iff, within_iff, within_not] at qh95
                  have hby' : growBy t (atL t p).toNat u by_ = -by_ := by rw [growBy, ← hu, if_pos (by omega)]
                  refine WC.region ?_
                  refine WL.val rfl rfl rfl (Run.move rfl rfl) ?_
                  refine WL.val rfl rfl rfl (Run.neg rfl rfl ?_) ?_
                  · exact neg_in (by constructor <;> omega)
                  refine WL.val rfl rfl rfl (Run.assign rfl rfl) ?_
                  refine WL.nil ?_
                  refine tkN ?_
                  refine hK92 _ _ ?_
                  clear hK92
                  refine WC.seq (fun K96 hK96 => ?_)
                  refine WC.region ?_
                  refine WL.val rfl rfl rfl (Run.move rfl rfl) ?_
                  refine WL.call rfl rfl rfl (Run.call Try.call66 rfl rfl rfl) (c_slices_Clone_impl_Node_impl_Node _ _ _ _ _ (SlF.st0 f_t hs94) ?_) ?_
                  · first | assumption | rfl | omega
                  rintro _ whs97 ⟨A98, c99, L1100, rfl, hs97, ho101⟩
                  replace hs97 := hs94.callF hs97
                  refine ⟨_, rfl, ?_⟩
                  refine WL.val rfl rfl rfl (Run.assign rfl rfl) ?_
                  refine WL.nil ?_
                  refine tkN ?_
                  refine hK96 _ _ ?_
                  clear hK96
                  refine WC.seq (fun K102 hK102 => ?_)
                  refine WC.region ?_
                  refine WL.val rfl rfl rfl (Run.move rfl rfl) ?_
                  refine WL.val rfl rfl rfl (Run.move rfl rfl) ?_
                  refine WL.val rfl rfl rfl (Run.move rfl rfl) ?_
                  refine WL.val rfl rfl rfl (Run.move rfl rfl) ?_
                  refine WL.val rfl rfl rfl (Run.idxK (u) Try.runUnderlying25 Try.sizeOf62 rfl rfl rfl ?_ ?_ ?_) ?_
                  · exact SlF.some_ (SlF.st0 f_t hs97)
                  · omega
                  · omega
                  refine WL.val rfl rfl rfl (Run.fieldO Try.runUnderlying62 rfl rfl rfl Try.sizeOf3 rfl) ?_
                  refine WL.val rfl rfl rfl (Run.load Try.isAgg3 rfl rfl (SlF.fld (SlF.st0 f_t hs97) ?_ rfl)) ?_
                  · omega
                  refine WL.val rfl rfl rfl (Run.move rfl rfl) ?_
                  refine WL.val rfl rfl rfl (Run.sub rfl rfl rfl ?_) ?_
                  · constructor <;> omega
                  refine WL.val rfl rfl rfl (Run.min rfl rfl rfl) ?_
                  refine WL.val rfl rfl rfl (Run.move rfl rfl) ?_
                  refine WL.val rfl rfl rfl (Run.add rfl rfl rfl ?_) ?_
                  · constructor <;> omega
                  refine WL.val rfl rfl rfl (Run.move rfl rfl) ?_
                  refine WL.val rfl rfl rfl (Run.sub rfl rfl rfl ?_) ?_
                  · constructor <;> omega
                  refine WL.val rfl rfl rfl (Run.min rfl rfl rfl) ?_
                  refine WL.val rfl rfl rfl (Run.max rfl rfl rfl) ?_
                  refine WL.val rfl rfl rfl (Run.idxK (u) Try.runUnderlying25 Try.sizeOf62 rfl rfl rfl ?_ ?_ ?_) ?_
                  · exact SlF.some_ (SlF.ofOwn ho101 (fun p_ hp_ => (hs97.own p_ (List.mem_append_left _ hp_)).1))
                  · omega
                  · omega
                  refine WL.val rfl rfl rfl (Run.fieldO Try.runUnderlying62 rfl rfl rfl Try.sizeOf3 rfl) ?_
                  refine WL.storeF (x' := ⟨(gat encNode t u).Pane, (gat encNode t u).Down, max 1 (min (min (gat encNode t u).First ((gat encRect (areasL t w_ h_) u).W - 2) + (-by_)) ((gat encRect (areasL t w_ h_) u).W - 2))⟩) hs97 ho101 Try.sizeOf3 rfl rfl rfl rfl rfl rfl rfl rfl rfl ?_ rfl (fun L103 whs104 hs104 ho105 _ => ?_)
                  · omega
                  refine WL.nil ?_
                  refine tkN ?_
                  refine hK102 _ _ ?_
                  clear hK102
                  refine WC.seq (fun K106 hK106 => ?_)
                  refine WC.seq (fun K107 hK107 => ?_)
                  refine WC.region ?_
                  refine WL.val rfl rfl rfl (Run.move rfl rfl) ?_
                  refine WL.val rfl rfl rfl (Run.move rfl rfl) ?_
                  refine WL.val rfl rfl rfl (Run.move rfl rfl) ?_
                  refine WL.call rfl rfl rfl (Run.call Try.call74 rfl rfl rfl) (c_impl_places _ _ _ _ _ _ _ (SlF.ofOwn ho105 (fun p_ hp_ => (hs104.own p_ (List.mem_append_left _ hp_)).1)) ?_) ?_
                  · first | omega | (simp; omega)
                  rintro _ whs108 ⟨A109, c110, L1111, rfl, hs108, ho112⟩
                  replace hs108 := hs104.callF hs108
                  refine ⟨_, rfl, ?_⟩
                  refine WL.val rfl rfl rfl (Run.move rfl rfl) ?_
                  refine WL.val rfl rfl rfl (Run.extract rfl rfl rfl) ?_
                  refine WL.val rfl rfl rfl (Run.extract rfl rfl rfl) ?_
                  refine WL.val rfl rfl rfl (Run.assign rfl rfl) ?_
                  refine WL.val rfl rfl rfl (Run.assign rfl rfl) ?_
                  refine WL.nil ?_
                  refine tkN ?_
                  refine hK107 _ _ ?_
                  clear hK107
                  refine WC.seq (fun K113 hK113 => ?_)
                  refine WC.region ?_
                  refine WL.val rfl rfl rfl (Run.move rfl rfl) ?_
                  refine WL.val rfl rfl rfl (Run.not rfl rfl) ?_
                  refine WL.nil ?_
                  refine tkN ?_
                  refine hK113 _ _ ?_
                  clear hK113
                  refine WC.cond rfl (fun h114 => ?_) (fun h114 => ?_)
                  · have qh114 := h114
                    try simp only [decide_eq_true_eq, decide_eq_false_iff_not, Bool.not_eq_true', Bool.not_eq_false', Bool.and_eq_true, Bool.or_eq_false_iff, within_iff, within_not] at qh114
                    have hxs : t.set u ⟨(gat encNode t u).Pane, (gat encNode t u).Down, max 1 (min (min (gat encNode t u).First ((gat encRect (areasL t w_ h_) u).W - 2) + (-by_)) ((gat encRect (areasL t w_ h_) u).W - 2))⟩ = growOut t (atL t p).toNat u by_ w_ h_ := by simp only [growOut, growFirst, hby', hside]
                    have hk : growOk t p down by_ w_ h_ = false := by
                      rw [← Bool.not_eq_true]; intro h_1
                      simp only [growOk, Bool.and_eq_true, decide_eq_true_eq] at h_1
                      have h_2 := h_1.2
                      rw [hu, Int.toNat_natCast, ← hxs] at h_2
                      rw [h_2] at h114
                      cases h114
                    refine WC.seq (fun K115 hK115 => ?_)
                    refine WC.region ?_
                    refine WL.val rfl rfl rfl (Run.assign rfl rfl) ?_
                    refine WL.val rfl rfl rfl (Run.assign rfl rfl) ?_
                    refine WL.nil ?_
                    refine tkN ?_
                    refine hK115 _ _ ?_
                    clear hK115
                    refine WC.ret ?_
                    refine tkR ?_
                    clear hK106
                    refine retV2 rfl (resV.tmp rfl) (resV.tmp rfl) ?_
                    rw [hk]
                    have hx_ := OwnF.eqOf (xs := growL t p down by_ w_ h_) (OwnF.nil encNode 62) (by simp [growL, hk])
                    rw [← hx_]
                    exact ⟨_, _, _, rfl, hs108.nil, (OwnF.nil encNode 62)⟩
                  · have qh114 := h114
                    try simp only [decide_eq_true_eq, decide_eq_false_iff_not, Bool.not_eq_true', Bool.not_eq_false', Bool.and_eq_true, Bool.or_eq_false_iff, within_iff, within_not] at qh114
                    have hxs : t.set u ⟨(gat encNode t u).Pane, (gat encNode t u).Down, max 1 (min (min (gat encNode t u).First ((gat encRect (areasL t w_ h_) u).W - 2) + (-by_)) ((gat encRect (areasL t w_ h_) u).W - 2))⟩ = growOut t (atL t p).toNat u by_ w_ h_ := by simp only [growOut, growFirst, hby', hside]
                    have hk : growOk t p down by_ w_ h_ = true := by
                      simp only [growOk, Bool.and_eq_true, decide_eq_true_eq]
                      rw [hu, Int.toNat_natCast, ← hxs]
                      simp only [Bool.not_eq_false'] at h114
                      exact ⟨⟨⟨⟨hyes.1, hyes.2.1⟩, hyes.2.2⟩, by omega⟩, h114⟩
                    refine WC.skip ?_
                    refine tkN ?_
                    refine hK106 _ _ ?_
                    clear hK106
                    refine WC.seq (fun K116 hK116 => ?_)
                    refine WC.region ?_
                    refine WL.val rfl rfl rfl (Run.move rfl rfl) ?_
                    refine WL.val rfl rfl rfl (Run.assign rfl rfl) ?_
                    refine WL.val rfl rfl rfl (Run.assign rfl rfl) ?_
                    refine WL.nil ?_
                    refine tkN ?_
                    refine hK116 _ _ ?_
                    clear hK116
                    refine WC.ret ?_
                    refine retV2 rfl (resV.tmp rfl) (resV.tmp rfl) ?_
                    rw [hk]
                    have hx_ := OwnF.eqOf (xs := growL t p down by_ w_ h_) ho105 (by rw [hxs, growL, if_pos hk, hu]; rfl)
                    rw [← hx_]
                    first | exact ⟨_, _, _, rfl, (St.keep1 (St.perm hs108 (L' := L103 ++ _) (perm_front (A := L1111) (List.Perm.refl _)))), ho105⟩ | exact ⟨A98, c99, _, by rw [OwnF.len_ ho105], (St.keep1 (St.perm hs108 (L' := L103 ++ _) (perm_front (A := L1111) (List.Perm.refl _)))), by rw [OwnF.len_ ho105]; exact ho105⟩
                · have qh95 := h95
                  try simp only [decide_eq_true_eq, decide_eq_false_iff_not, Bool.not_eq_true', Bool.not_eq_false', Bool.and_eq_true, Bool.or_eq_false_iff, within_iff, within_not] at qh95
                  have hby' : growBy t (atL t p).toNat u by_ = by_ := by rw [growBy, ← hu, if_neg (by omega)]
                  refine WC.skip ?_
                  refine tkN ?_
                  refine hK92 _ _ ?_
                  clear hK92
                  refine WC.seq (fun K117 hK117 => ?_)
                  refine WC.region ?_
                  refine WL.val rfl rfl rfl (Run.move rfl rfl) ?_
                  refine WL.call rfl rfl rfl (Run.call Try.call66 rfl rfl rfl) (c_slices_Clone_impl_Node_impl_Node _ _ _ _ _ (SlF.st0 f_t hs94) ?_) ?_
                  · first | assumption | rfl | omega
                  rintro _ whs118 ⟨A119, c120, L1121, rfl, hs118, ho122⟩
                  replace hs118 := hs94.callF hs118
                  refine ⟨_, rfl, ?_⟩
                  refine WL.val rfl rfl rfl (Run.assign rfl rfl) ?_
                  refine WL.nil ?_
                  refine tkN ?_
                  refine hK117 _ _ ?_
                  clear hK117
                  refine WC.seq (fun K123 hK123 => ?_)
                  refine WC.region ?_
                  refine WL.val rfl rfl rfl (Run.move rfl rfl) ?_
                  refine WL.val rfl rfl rfl (Run.move rfl rfl) ?_
                  refine WL.val rfl rfl rfl (Run.move rfl rfl) ?_
                  refine WL.val rfl rfl rfl (Run.move rfl rfl) ?_
                  refine WL.val rfl rfl rfl (Run.idxK (u) Try.runUnderlying25 Try.sizeOf62 rfl rfl rfl ?_ ?_ ?_) ?_
                  · exact SlF.some_ (SlF.st0 f_t hs118)
                  · omega
                  · omega
                  refine WL.val rfl rfl rfl (Run.fieldO Try.runUnderlying62 rfl rfl rfl Try.sizeOf3 rfl) ?_
                  refine WL.val rfl rfl rfl (Run.load Try.isAgg3 rfl rfl (SlF.fld (SlF.st0 f_t hs118) ?_ rfl)) ?_
                  · omega
                  refine WL.val rfl rfl rfl (Run.move rfl rfl) ?_
                  refine WL.val rfl rfl rfl (Run.sub rfl rfl rfl ?_) ?_
                  · constructor <;> omega
                  refine WL.val rfl rfl rfl (Run.min rfl rfl rfl) ?_
                  refine WL.val rfl rfl rfl (Run.move rfl rfl) ?_
                  refine WL.val rfl rfl rfl (Run.add rfl rfl rfl ?_) ?_
                  · constructor <;> omega
                  refine WL.val rfl rfl rfl (Run.move rfl rfl) ?_
                  refine WL.val rfl rfl rfl (Run.sub rfl rfl rfl ?_) ?_
                  · constructor <;> omega
                  refine WL.val rfl rfl rfl (Run.min rfl rfl rfl) ?_
                  refine WL.val rfl rfl rfl (Run.max rfl rfl rfl) ?_
                  refine WL.val rfl rfl rfl (Run.idxK (u) Try.runUnderlying25 Try.sizeOf62 rfl rfl rfl ?_ ?_ ?_) ?_
                  · exact SlF.some_ (SlF.ofOwn ho122 (fun p_ hp_ => (hs118.own p_ (List.mem_append_left _ hp_)).1))
                  · omega
                  · omega
                  refine WL.val rfl rfl rfl (Run.fieldO Try.runUnderlying62 rfl rfl rfl Try.sizeOf3 rfl) ?_
                  refine WL.storeF (x' := ⟨(gat encNode t u).Pane, (gat encNode t u).Down, max 1 (min (min (gat encNode t u).First ((gat encRect (areasL t w_ h_) u).W - 2) + by_) ((gat encRect (areasL t w_ h_) u).W - 2))⟩) hs118 ho122 Try.sizeOf3 rfl rfl rfl rfl rfl rfl rfl rfl rfl ?_ rfl (fun L124 whs125 hs125 ho126 _ => ?_)
                  · omega
                  refine WL.nil ?_
                  refine tkN ?_
                  refine hK123 _ _ ?_
                  clear hK123
                  refine WC.seq (fun K127 hK127 => ?_)
                  refine WC.seq (fun K128 hK128 => ?_)
                  refine WC.region ?_
                  refine WL.val rfl rfl rfl (Run.move rfl rfl) ?_
                  refine WL.val rfl rfl rfl (Run.move rfl rfl) ?_
                  refine WL.val rfl rfl rfl (Run.move rfl rfl) ?_
                  refine WL.call rfl rfl rfl (Run.call Try.call74 rfl rfl rfl) (c_impl_places _ _ _ _ _ _ _ (SlF.ofOwn ho126 (fun p_ hp_ => (hs125.own p_ (List.mem_append_left _ hp_)).1)) ?_) ?_
                  · first | omega | (simp; omega)
                  rintro _ whs129 ⟨A130, c131, L1132, rfl, hs129, ho133⟩
                  replace hs129 := hs125.callF hs129
                  refine ⟨_, rfl, ?_⟩
                  refine WL.val rfl rfl rfl (Run.move rfl rfl) ?_
                  refine WL.val rfl rfl rfl (Run.extract rfl rfl rfl) ?_
                  refine WL.val rfl rfl rfl (Run.extract rfl rfl rfl) ?_
                  refine WL.val rfl rfl rfl (Run.assign rfl rfl) ?_
                  refine WL.val rfl rfl rfl (Run.assign rfl rfl) ?_
                  refine WL.nil ?_
                  refine tkN ?_
                  refine hK128 _ _ ?_
                  clear hK128
                  refine WC.seq (fun K134 hK134 => ?_)
                  refine WC.region ?_
                  refine WL.val rfl rfl rfl (Run.move rfl rfl) ?_
                  refine WL.val rfl rfl rfl (Run.not rfl rfl) ?_
                  refine WL.nil ?_
                  refine tkN ?_
                  refine hK134 _ _ ?_
                  clear hK134
                  refine WC.cond rfl (fun h135 => ?_) (fun h135 => ?_)
                  · have qh135 := h135
                    try simp only [decide_eq_true_eq, decide_eq_false_iff_not, Bool.not_eq_true', Bool.not_eq_false', Bool.and_eq_true, Bool.or_eq_false_iff, within_iff, within_not] at qh135
                    have hxs : t.set u ⟨(gat encNode t u).Pane, (gat encNode t u).Down, max 1 (min (min (gat encNode t u).First ((gat encRect (areasL t w_ h_) u).W - 2) + by_) ((gat encRect (areasL t w_ h_) u).W - 2))⟩ = growOut t (atL t p).toNat u by_ w_ h_ := by simp only [growOut, growFirst, hby', hside]
                    have hk : growOk t p down by_ w_ h_ = false := by
                      rw [← Bool.not_eq_true]; intro h_1
                      simp only [growOk, Bool.and_eq_true, decide_eq_true_eq] at h_1
                      have h_2 := h_1.2
                      rw [hu, Int.toNat_natCast, ← hxs] at h_2
                      rw [h_2] at h135
                      cases h135
                    refine WC.seq (fun K136 hK136 => ?_)
                    refine WC.region ?_
                    refine WL.val rfl rfl rfl (Run.assign rfl rfl) ?_
                    refine WL.val rfl rfl rfl (Run.assign rfl rfl) ?_
                    refine WL.nil ?_
                    refine tkN ?_
                    refine hK136 _ _ ?_
                    clear hK136
                    refine WC.ret ?_
                    refine tkR ?_
                    clear hK127
                    refine retV2 rfl (resV.tmp rfl) (resV.tmp rfl) ?_
                    rw [hk]
                    have hx_ := OwnF.eqOf (xs := growL t p down by_ w_ h_) (OwnF.nil encNode 62) (by simp [growL, hk])
                    rw [← hx_]
                    exact ⟨_, _, _, rfl, hs129.nil, (OwnF.nil encNode 62)⟩
                  · have qh135 := h135
                    try simp only [decide_eq_true_eq, decide_eq_false_iff_not, Bool.not_eq_true', Bool.not_eq_false', Bool.and_eq_true, Bool.or_eq_false_iff, within_iff, within_not] at qh135
                    have hxs : t.set u ⟨(gat encNode t u).Pane, (gat encNode t u).Down, max 1 (min (min (gat encNode t u).First ((gat encRect (areasL t w_ h_) u).W - 2) + by_) ((gat encRect (areasL t w_ h_) u).W - 2))⟩ = growOut t (atL t p).toNat u by_ w_ h_ := by simp only [growOut, growFirst, hby', hside]
                    have hk : growOk t p down by_ w_ h_ = true := by
                      simp only [growOk, Bool.and_eq_true, decide_eq_true_eq]
                      rw [hu, Int.toNat_natCast, ← hxs]
                      simp only [Bool.not_eq_false'] at h135
                      exact ⟨⟨⟨⟨hyes.1, hyes.2.1⟩, hyes.2.2⟩, by omega⟩, h135⟩
                    refine WC.skip ?_
                    refine tkN ?_
                    refine hK127 _ _ ?_
                    clear hK127
                    refine WC.seq (fun K137 hK137 => ?_)
                    refine WC.region ?_
                    refine WL.val rfl rfl rfl (Run.move rfl rfl) ?_
                    refine WL.val rfl rfl rfl (Run.assign rfl rfl) ?_
                    refine WL.val rfl rfl rfl (Run.assign rfl rfl) ?_
                    refine WL.nil ?_
                    refine tkN ?_
                    refine hK137 _ _ ?_
                    clear hK137
                    refine WC.ret ?_
                    refine retV2 rfl (resV.tmp rfl) (resV.tmp rfl) ?_
                    rw [hk]
                    have hx_ := OwnF.eqOf (xs := growL t p down by_ w_ h_) ho126 (by rw [hxs, growL, if_pos hk, hu]; rfl)
                    rw [← hx_]
                    first | exact ⟨_, _, _, rfl, (St.keep1 (St.perm hs129 (L' := L124 ++ _) (perm_front (A := L1132) (List.Perm.refl _)))), ho126⟩ | exact ⟨A119, c120, _, by rw [OwnF.len_ ho126], (St.keep1 (St.perm hs129 (L' := L124 ++ _) (perm_front (A := L1132) (List.Perm.refl _)))), by rw [OwnF.len_ ho126]; exact ho126⟩
set_option maxHeartbeats 2000000 in
theorem c_spec_l13Size (A_t : Option Addr) (n_t c_t : Nat) (t : List NodeD) (at_ : Int) (w_ : Int) (h_ : Int) (w : World) (f_t : SlF encNode w A_t n_t t) (hn : n_t ≤ 268435456) (h0 : 0 ≤ at_) (ha : at_ < n_t) :
    Calls Try.prog 81 #[.slice A_t n_t c_t, i64 at_, i64 w_, i64 h_] w fun e w' => e = .returned (.int .i64 (sizeL t at_.toNat w_ h_)) ∧ St w [] [] w' := by
  obtain ⟨k, rfl⟩ : ∃ k : Nat, at_ = (k : Int) := ⟨at_.toNat, by omega⟩
  have hl := f_t.len
  rw [Int.toNat_natCast]
  have hpl := placesL_len t w_ h_
  refine enter (vs := [.slice A_t n_t c_t, .int .i64 (k : Int), i64 w_, i64 h_]) 76 Try.func81 rfl Try.ntmps81 rfl rfl ?_
  have hs1 := St.init w
  refine WC.seq (fun K2 hK2 => ?_)
  refine WC.region ?_
  refine WL.val rfl rfl rfl (Run.assign rfl rfl) ?_
  refine WL.nil ?_
  refine tkN ?_
  refine hK2 _ _ ?_
  clear hK2
  refine WC.seq (fun K3 hK3 => ?_)
  refine WC.region ?_
  refine WL.val rfl rfl rfl (Run.move rfl rfl) ?_
  refine WL.val rfl rfl rfl (Run.move rfl rfl) ?_
  refine WL.val rfl rfl rfl (Run.move rfl rfl) ?_
  refine WL.call rfl rfl rfl (Run.call Try.call42 rfl rfl rfl) (c_spec_Places _ _ _ _ _ _ _ (SlF.st0 f_t hs1) ?_) ?_
  · first | assumption | rfl | omega
  rintro _ whs4 ⟨A5, c6, L17, rfl, hs4, ho8⟩
  replace hs4 := hs1.callF hs4
  refine ⟨_, rfl, ?_⟩
  refine WL.val rfl rfl rfl (Run.move rfl rfl) ?_
  refine WL.val rfl rfl rfl (Run.extract rfl rfl rfl) ?_
  refine WL.val rfl rfl rfl (Run.extract rfl rfl rfl) ?_
  refine WL.val rfl rfl rfl (Run.assign rfl rfl) ?_
  refine WL.val rfl rfl rfl (Run.assign rfl rfl) ?_
  refine WL.nil ?_
  refine tkN ?_
  refine hK3 _ _ ?_
  clear hK3
  refine WC.seq (fun K9 hK9 => ?_)
  refine WC.region ?_
  refine WL.val rfl rfl rfl (Run.assign rfl rfl) ?_
  refine WL.nil ?_
  refine tkN ?_
  refine hK9 _ _ ?_
  clear hK9
  refine WC.seq (fun K10 hK10 => ?_)
  refine WC.region ?_
  refine WL.val rfl rfl rfl (Run.assign rfl rfl) ?_
  refine WL.nil ?_
  refine tkN ?_
  refine hK10 _ _ ?_
  clear hK10
  refine WC.seq (fun K11 hK11 => ?_)
  refine WC.seq (fun K12 hK12 => ?_)
  refine WC.region ?_
  refine WL.val rfl rfl rfl (Run.move rfl rfl) ?_
  refine WL.val rfl rfl rfl (Run.lenSl Try.runUnderlying48 rfl rfl) ?_
  refine WL.val rfl rfl rfl (Run.move rfl rfl) ?_
  refine WL.nil ?_
  refine tkN ?_
  refine hK12 _ _ ?_
  clear hK12
  refine WC.block ?_
  refine WC.loopS [(0, _), (1, _), (2, _), (3, _), (8, _), (9, _), (18, _), (19, _), (20, _), (21, _), (22, _), (23, _), (24, _), (25, _), (26, _)] ⟨rfl, rfl, rfl, rfl, rfl, rfl, rfl, rfl, rfl, rfl, rfl, rfl, rfl, rfl, rfl, trivial⟩ hs4 (fun k_ f w' => ∃ (i : Nat) (lo hi : Int), k_ = (placesL t w_ h_).length - i ∧ (i ≤ (placesL t w_ h_).length) ∧ (lo = loI (selR t k) (fromR (gat encNode t k).Down) ((placesL t w_ h_).take i)) ∧ (hi = hiI (selR t k) (toR (gat encNode t k).Down) ((placesL t w_ h_).take i)) ∧ (0 ≤ lo ∧ lo ≤ 1000 ∧ 0 ≤ hi ∧ hi ≤ 240) ∧ Sub [(27, .int .i64 i), (11, .int .i64 lo), (12, .int .i64 hi)] f) ((fun (i : Nat) (lo hi : Int) => (placesL t w_ h_).length - i) (0) (1000) (0)) ?_ ?_
  · refine ⟨0, 1000, 0, rfl, ?_, ?_, ?_, ?_, ⟨rfl, rfl, rfl, trivial⟩⟩
    · exact Nat.zero_le _
    · rfl
    · rfl
    · omega
  · clear hs4
    rintro _ f w ⟨i, lo, hi, rfl, p0, p1, p2, p3, hG⟩ hF hs13
    refine WC.sub _ (hG.app hF) ?_
    clear hG hF
    refine WC.seq (fun K14 hK14 => ?_)
    refine WC.region ?_
    refine WL.val rfl rfl rfl (Run.lss rfl rfl rfl) ?_
    refine WL.nil ?_
    refine tkN ?_
    refine hK14 _ _ ?_
    clear hK14
    refine WC.seq (fun K15 hK15 => ?_)
    refine WC.cond rfl (fun h16 => ?_) (fun h16 => ?_)
    · have qh16 := h16
      try simp only [decide_eq_true_eq, decide_eq_false_iff_not, Bool.not_eq_true', Bool.not_eq_false', Bool.and_eq_true, Bool.or_eq_false_iff, within_iff, within_not] at qh16
      have hbr := placesL_bound (t := t) (w := w_) (h := h_) (k := i) (by omega)
      refine WC.skip ?_
      refine tkN ?_
      refine hK15 _ _ ?_
      clear hK15
      refine WC.seq (fun K17 hK17 => ?_)
      refine WC.block ?_
      refine WC.seq (fun K18 hK18 => ?_)
      refine WC.region ?_
      refine WL.val rfl rfl rfl (Run.idxN Try.runUnderlying48 Try.sizeOf40 rfl rfl rfl ?_ ?_ ?_) ?_
      · exact SlF.some_ (SlF.ofOwn ho8 (fun p_ hp_ => (hs13.own p_ (List.mem_append_left _ hp_)).1))
      · omega
      · omega
      refine WL.val rfl rfl rfl (Run.loadA Try.isAgg40 Try.sizeOf40 rfl rfl (SlF.whole (SlF.ofOwn ho8 (fun p_ hp_ => (hs13.own p_ (List.mem_append_left _ hp_)).1)) ?_)) ?_
      · omega
      refine WL.alloc hs13 Try.zeroValue40 rfl rfl rfl rfl rfl (fun b19 whs20 hs20 => ?_)
      refine WL.storeA hs20 0 Try.sizeOf40 rfl rfl rfl rfl rfl rfl rfl rfl rfl (Nat.le_of_ble_eq_true rfl) (.inl (Nat.le_of_ble_eq_true rfl)) (fun whs21 hs21 => ?_)
      refine WL.nil ?_
      refine tkN ?_
      refine hK18 _ _ ?_
      clear hK18
      refine WC.seq (fun K22 hK22 => ?_)
      refine WC.region ?_
      refine WL.val rfl rfl rfl (Run.move rfl rfl) ?_
      refine WL.val rfl rfl rfl (Run.field Try.runUnderlying40 rfl rfl rfl Try.sizeOf3 rfl) ?_
      refine WL.val rfl rfl rfl (Run.loadL hs21 0 Try.isAgg3 rfl rfl rfl rfl) ?_
      refine WL.call rfl rfl rfl (Run.call Try.call63 rfl rfl rfl) (c_spec_l13At _ _ _ _ _ _ (SlF.st0 f_t hs21) ?_) ?_
      · first | assumption | rfl | omega
      rintro _ whs23 ⟨rfl, hs23⟩
      replace hs23 := hs21.call0 hs23
      refine ⟨_, rfl, ?_⟩
      refine WL.val rfl rfl rfl (Run.assign rfl rfl) ?_
      refine WL.nil ?_
      refine tkN ?_
      refine hK22 _ _ ?_
      clear hK22
      refine WC.seq (fun K24 hK24 => ?_)
      refine WC.seq (fun K25 hK25 => ?_)
      refine WC.region ?_
      refine WL.val rfl rfl rfl (Run.move rfl rfl) ?_
      refine WL.val rfl rfl rfl (Run.move rfl rfl) ?_
      refine WL.val rfl rfl rfl (Run.leq rfl rfl rfl) ?_
      refine WL.val rfl rfl rfl (Run.move rfl rfl) ?_
      apply WL.meetOr 6 38 44 [(0, _), (1, _), (2, _), (3, _), (8, _), (9, _), (11, _), (12, _), (14, _), (15, _), (18, _), (19, _), (20, _), (21, _), (22, _), (23, _), (24, _), (25, _), (26, _), (27, _), (28, _), (29, _), (30, _), (31, _), (32, _), (33, _), (34, _)] rfl hs23
      · intro g26 J27
        have qg26 := g26
        try simp only [decide_eq_true_eq, decide_eq_false_iff_not, Bool.not_eq_true', Bool.not_eq_false'] at qg26
        refine WL.val (wantF rfl g26) rfl rfl (Run.move rfl rfl) ?_
        refine WL.val (wantF rfl g26) rfl rfl (Run.move rfl rfl) ?_
        refine WL.val (wantF rfl g26) rfl rfl (Run.move rfl rfl) ?_
        refine WL.call (wantF rfl g26) rfl rfl (Run.call Try.call53 rfl rfl rfl) (c_spec_l13End _ _ _ _ _ _ (SlF.st0 f_t hs23) ?_ ?_) ?_
        · first | assumption | rfl | omega
        · first | assumption | rfl | omega
        rintro _ whs28 ⟨rfl, hs28⟩
        replace hs28 := hs23.call0 hs28
        refine ⟨_, rfl, ?_⟩
        refine WL.val (wantF rfl g26) rfl rfl (Run.geq rfl rfl rfl) ?_
        refine WL.val rfl rfl rfl (Run.pickF rfl rfl g26 rfl) ?_
        exact WL.fin J27 hs28 rfl (orF g26) ⟨rfl, rfl, rfl, rfl, rfl, rfl, rfl, rfl, rfl, rfl, rfl, rfl, rfl, rfl, rfl, rfl, rfl, rfl, rfl, rfl, rfl, rfl, rfl, rfl, rfl, rfl, rfl, trivial⟩
      · intro g26 J27
        refine WL.skip (wantNF rfl g26) rfl rfl ?_
        refine WL.skip (wantNF rfl g26) rfl rfl ?_
        refine WL.skip (wantNF rfl g26) rfl rfl ?_
        refine WL.skip (wantNF rfl g26) rfl rfl ?_
        refine WL.skip (wantNF rfl g26) rfl rfl ?_
        refine WL.val rfl rfl rfl (Run.pickT rfl rfl g26 rfl) ?_
        exact WL.fin J27 hs23 rfl (orT g26) ⟨rfl, rfl, rfl, rfl, rfl, rfl, rfl, rfl, rfl, rfl, rfl, rfl, rfl, rfl, rfl, rfl, rfl, rfl, rfl, rfl, rfl, rfl, rfl, rfl, rfl, rfl, rfl, trivial⟩
      · intro whs29 hs29
        refine WL.nil ?_
        refine tkN ?_
        refine hK25 _ _ ?_
        clear hK25
        refine WC.cond rfl (fun h30 => ?_) (fun h30 => ?_)
        · have qh30 := h30
          try simp only [decide_eq_true_eq, decide_eq_false_iff_not, Bool.not_eq_true', Bool.not_eq_false', Bool.and_eq_true, Bool.or_eq_false_iff, within_iff, within_not] at qh30
          have hsel : selR t k (gat encRect (placesL t w_ h_) i) = false := by simp only [selR]; rw [Bool.not_eq_false']; exact h30
          have hfr : True := trivial
          have hto : True := trivial
          refine WC.exit ?_
          refine tkE ?_
          refine ibE ?_
          refine tkN ?_
          refine hK17 _ _ ?_
          clear hK17
          refine WC.region ?_
          refine WL.val rfl rfl rfl (Run.add rfl rfl rfl ?_) ?_
          · constructor <;> omega
          refine WL.val rfl rfl rfl (Run.move rfl rfl) ?_
          refine WL.nil ?_
          refine tkN ?_
          refine ⟨⟨rfl, rfl, rfl, rfl, rfl, rfl, rfl, rfl, rfl, rfl, rfl, rfl, rfl, rfl, rfl, trivial⟩, (hs29.drop (by repeat (first | exact List.Sublist.refl _ | exact List.sublist_append_left _ _ | exact List.Sublist.trans (List.sublist_append_left _ _) (List.sublist_append_left _ _) | apply List.Sublist.cons | refine List.Sublist.trans ?_ (List.sublist_append_right _ _)))), _, ?_, i + 1, _, _, rfl, ?_, ?_, ?_, ?_, ⟨rfl, rfl, rfl, trivial⟩⟩
          · omega
          · omega
          · rw [lo_take (by omega), hsel, ← p1]; (try simp only [Bool.false_eq_true, if_true, if_false, hfr]) <;> (try omega)
          · rw [hi_take (by omega), hsel, ← p2]; (try simp only [Bool.false_eq_true, if_true, if_false, hto]) <;> (try omega)
          · omega
        · have qh30 := h30
          try simp only [decide_eq_true_eq, decide_eq_false_iff_not, Bool.not_eq_true', Bool.not_eq_false', Bool.and_eq_true, Bool.or_eq_false_iff, within_iff, within_not] at qh30
          have hsel : selR t k (gat encRect (placesL t w_ h_) i) = true := by simp only [selR]; rw [Bool.not_eq_true']; exact h30
          refine WC.skip ?_
          refine tkN ?_
          refine hK24 _ _ ?_
          clear hK24
          refine WC.seq (fun K31 hK31 => ?_)
          refine WC.region ?_
          refine WL.val rfl rfl rfl (Run.field Try.runUnderlying40 rfl rfl rfl Try.sizeOf3 rfl) ?_
          refine WL.val rfl rfl rfl (Run.loadL hs29 0 Try.isAgg3 rfl rfl rfl rfl) ?_
          refine WL.val rfl rfl rfl (Run.assign rfl rfl) ?_
          refine WL.nil ?_
          refine tkN ?_
          refine hK31 _ _ ?_
          clear hK31
          refine WC.seq (fun K32 hK32 => ?_)
          refine WC.region ?_
          refine WL.val rfl rfl rfl (Run.field Try.runUnderlying40 rfl rfl rfl Try.sizeOf3 rfl) ?_
          refine WL.val rfl rfl rfl (Run.loadL hs29 0 Try.isAgg3 rfl rfl rfl rfl) ?_
          refine WL.val rfl rfl rfl (Run.field Try.runUnderlying40 rfl rfl rfl Try.sizeOf3 rfl) ?_
          refine WL.val rfl rfl rfl (Run.loadL hs29 0 Try.isAgg3 rfl rfl rfl rfl) ?_
          refine WL.val rfl rfl rfl (Run.add rfl rfl rfl ?_) ?_
          · constructor <;> omega
          refine WL.val rfl rfl rfl (Run.assign rfl rfl) ?_
          refine WL.nil ?_
          refine tkN ?_
          refine hK32 _ _ ?_
          clear hK32
          refine WC.seq (fun K33 hK33 => ?_)
          refine WC.seq (fun K34 hK34 => ?_)
          refine WC.region ?_
          refine WL.val rfl rfl rfl (Run.move rfl rfl) ?_
          refine WL.val rfl rfl rfl (Run.move rfl rfl) ?_
          refine WL.val rfl rfl rfl (Run.idxN Try.runUnderlying25 Try.sizeOf62 rfl rfl rfl ?_ ?_ ?_) ?_
          · exact SlF.some_ (SlF.st0 f_t hs29)
          · omega
          · omega
          refine WL.val rfl rfl rfl (Run.fieldO Try.runUnderlying62 rfl rfl rfl Try.sizeOf4 rfl) ?_
          refine WL.val rfl rfl rfl (Run.load Try.isAgg4 rfl rfl (SlF.fld (SlF.st0 f_t hs29) ?_ rfl)) ?_
          · omega
          refine WL.nil ?_
          refine tkN ?_
          refine hK34 _ _ ?_
          clear hK34
          refine WC.cond rfl (fun h35 => ?_) (fun h35 => ?_)
          · have qh35 := h35
            try simp only [decide_eq_true_eq, decide_eq_false_iff_not, Bool.not_eq_true', Bool.not_eq_false', Bool.and_eq_true, Bool.or_eq_false_iff, within_iff, within_not] at qh35
            have hdd : (gat encNode t k).Down = true := h35
            have hfr : fromR (gat encNode t k).Down (gat encRect (placesL t w_ h_) i) = (gat encRect (placesL t w_ h_) i).Y := by rw [hdd]; rfl
            have hto : toR (gat encNode t k).Down (gat encRect (placesL t w_ h_) i) = (gat encRect (placesL t w_ h_) i).Y + (gat encRect (placesL t w_ h_) i).H := by rw [hdd]; rfl
            refine WC.seq (fun K36 hK36 => ?_)
            refine WC.region ?_
            refine WL.val rfl rfl rfl (Run.field Try.runUnderlying40 rfl rfl rfl Try.sizeOf3 rfl) ?_
            refine WL.val rfl rfl rfl (Run.loadL hs29 0 Try.isAgg3 rfl rfl rfl rfl) ?_
            refine WL.val rfl rfl rfl (Run.assign rfl rfl) ?_
            refine WL.nil ?_
            refine tkN ?_
            refine hK36 _ _ ?_
            clear hK36
            refine WC.region ?_
            refine WL.val rfl rfl rfl (Run.field Try.runUnderlying40 rfl rfl rfl Try.sizeOf3 rfl) ?_
            refine WL.val rfl rfl rfl (Run.loadL hs29 0 Try.isAgg3 rfl rfl rfl rfl) ?_
            refine WL.val rfl rfl rfl (Run.field Try.runUnderlying40 rfl rfl rfl Try.sizeOf3 rfl) ?_
            refine WL.val rfl rfl rfl (Run.loadL hs29 0 Try.isAgg3 rfl rfl rfl rfl) ?_
            refine WL.val rfl rfl rfl (Run.add rfl rfl rfl ?_) ?_
            · constructor <;> omega
            refine WL.val rfl rfl rfl (Run.assign rfl rfl) ?_
            refine WL.nil ?_
            refine tkN ?_
            refine hK33 _ _ ?_
            clear hK33
            refine WC.seq (fun K37 hK37 => ?_)
            refine WC.seq (fun K38 hK38 => ?_)
            refine WC.region ?_
            refine WL.val rfl rfl rfl (Run.move rfl rfl) ?_
            refine WL.val rfl rfl rfl (Run.move rfl rfl) ?_
            refine WL.val rfl rfl rfl (Run.lss rfl rfl rfl) ?_
            refine WL.nil ?_
            refine tkN ?_
            refine hK38 _ _ ?_
            clear hK38
            refine WC.cond rfl (fun h39 => ?_) (fun h39 => ?_)
            · have qh39 := h39
              try simp only [decide_eq_true_eq, decide_eq_false_iff_not, Bool.not_eq_true', Bool.not_eq_false', Bool.and_eq_true, Bool.or_eq_false_iff, within_iff, within_not] at qh39
              refine WC.region ?_
              refine WL.val rfl rfl rfl (Run.move rfl rfl) ?_
              refine WL.val rfl rfl rfl (Run.assign rfl rfl) ?_
              refine WL.nil ?_
              refine tkN ?_
              refine hK37 _ _ ?_
              clear hK37
              refine WC.seq (fun K40 hK40 => ?_)
              refine WC.region ?_
              refine WL.val rfl rfl rfl (Run.move rfl rfl) ?_
              refine WL.val rfl rfl rfl (Run.move rfl rfl) ?_
              refine WL.val rfl rfl rfl (Run.gtr rfl rfl rfl) ?_
              refine WL.nil ?_
              refine tkN ?_
              refine hK40 _ _ ?_
              clear hK40
              refine WC.cond rfl (fun h41 => ?_) (fun h41 => ?_)
              · have qh41 := h41
                try simp only [decide_eq_true_eq, decide_eq_false_iff_not, Bool.not_eq_true', Bool.not_eq_false', Bool.and_eq_true, Bool.or_eq_false_iff, within_iff, within_not] at qh41
                refine WC.region ?_
                refine WL.val rfl rfl rfl (Run.move rfl rfl) ?_
                refine WL.val rfl rfl rfl (Run.assign rfl rfl) ?_
                refine WL.nil ?_
                refine ibN ?_
                refine tkN ?_
                refine hK17 _ _ ?_
                clear hK17
                refine WC.region ?_
                refine WL.val rfl rfl rfl (Run.add rfl rfl rfl ?_) ?_
                · constructor <;> omega
                refine WL.val rfl rfl rfl (Run.move rfl rfl) ?_
                refine WL.nil ?_
                refine tkN ?_
                refine ⟨⟨rfl, rfl, rfl, rfl, rfl, rfl, rfl, rfl, rfl, rfl, rfl, rfl, rfl, rfl, rfl, trivial⟩, (hs29.drop (by repeat (first | exact List.Sublist.refl _ | exact List.sublist_append_left _ _ | exact List.Sublist.trans (List.sublist_append_left _ _) (List.sublist_append_left _ _) | apply List.Sublist.cons | refine List.Sublist.trans ?_ (List.sublist_append_right _ _)))), _, ?_, i + 1, _, _, rfl, ?_, ?_, ?_, ?_, ⟨rfl, rfl, rfl, trivial⟩⟩
                · omega
                · omega
                · rw [lo_take (by omega), hsel, ← p1]; (try simp only [Bool.false_eq_true, if_true, if_false, hfr]) <;> (try omega)
                · rw [hi_take (by omega), hsel, ← p2]; (try simp only [Bool.false_eq_true, if_true, if_false, hto]) <;> (try omega)
                · omega
              · have qh41 := h41
                try simp only [decide_eq_true_eq, decide_eq_false_iff_not, Bool.not_eq_true', Bool.not_eq_false', Bool.and_eq_true, Bool.or_eq_false_iff, within_iff, within_not] at qh41
                refine WC.skip ?_
                refine ibN ?_
                refine tkN ?_
                refine hK17 _ _ ?_
                clear hK17
                refine WC.region ?_
                refine WL.val rfl rfl rfl (Run.add rfl rfl rfl ?_) ?_
                · constructor <;> omega
                refine WL.val rfl rfl rfl (Run.move rfl rfl) ?_
                refine WL.nil ?_
                refine tkN ?_
                refine ⟨⟨rfl, rfl, rfl, rfl, rfl, rfl, rfl, rfl, rfl, rfl, rfl, rfl, rfl, rfl, rfl, trivial⟩, (hs29.drop (by repeat (first | exact List.Sublist.refl _ | exact List.sublist_append_left _ _ | exact List.Sublist.trans (List.sublist_append_left _ _) (List.sublist_append_left _ _) | apply List.Sublist.cons | refine List.Sublist.trans ?_ (List.sublist_append_right _ _)))), _, ?_, i + 1, _, _, rfl, ?_, ?_, ?_, ?_, ⟨rfl, rfl, rfl, trivial⟩⟩
                · omega
                · omega
                · rw [lo_take (by omega), hsel, ← p1]; (try simp only [Bool.false_eq_true, if_true, if_false, hfr]) <;> (try omega)
                · rw [hi_take (by omega), hsel, ← p2]; (try simp only [Bool.false_eq_true, if_true, if_false, hto]) <;> (try omega)
                · omega
            · have qh39 := h39
              try simp only [decide_eq_true_eq, decide_eq_false_iff_not, Bool.not_eq_true', Bool.not_eq_false', Bool.and_eq_true, Bool.or_eq_false_iff, within_iff, within_not] at qh39
              refine WC.skip ?_
              refine tkN ?_
              refine hK37 _ _ ?_
              clear hK37
              refine WC.seq (fun K42 hK42 => ?_)
              refine WC.region ?_
              refine WL.val rfl rfl rfl (Run.move rfl rfl) ?_
              refine WL.val rfl rfl rfl (Run.move rfl rfl) ?_
              refine WL.val rfl rfl rfl (Run.gtr rfl rfl rfl) ?_
              refine WL.nil ?_
              refine tkN ?_
              refine hK42 _ _ ?_
              clear hK42
              refine WC.cond rfl (fun h43 => ?_) (fun h43 => ?_)
              · have qh43 := h43
                try simp only [decide_eq_true_eq, decide_eq_false_iff_not, Bool.not_eq_true', Bool.not_eq_false', Bool.and_eq_true, Bool.or_eq_false_iff, within_iff, within_not] at qh43
                refine WC.region ?_
                refine WL.val rfl rfl rfl (Run.move rfl rfl) ?_
                refine WL.val rfl rfl rfl (Run.assign rfl rfl) ?_
                refine WL.nil ?_
                refine ibN ?_
                refine tkN ?_
                refine hK17 _ _ ?_
                clear hK17
                refine WC.region ?_
                refine WL.val rfl rfl rfl (Run.add rfl rfl rfl ?_) ?_
                · constructor <;> omega
                refine WL.val rfl rfl rfl (Run.move rfl rfl) ?_
                refine WL.nil ?_
                refine tkN ?_
                refine ⟨⟨rfl, rfl, rfl, rfl, rfl, rfl, rfl, rfl, rfl, rfl, rfl, rfl, rfl, rfl, rfl, trivial⟩, (hs29.drop (by repeat (first | exact List.Sublist.refl _ | exact List.sublist_append_left _ _ | exact List.Sublist.trans (List.sublist_append_left _ _) (List.sublist_append_left _ _) | apply List.Sublist.cons | refine List.Sublist.trans ?_ (List.sublist_append_right _ _)))), _, ?_, i + 1, _, _, rfl, ?_, ?_, ?_, ?_, ⟨rfl, rfl, rfl, trivial⟩⟩
                · omega
                · omega
                · rw [lo_take (by omega), hsel, ← p1]; (try simp only [Bool.false_eq_true, if_true, if_false, hfr]) <;> (try omega)
                · rw [hi_take (by omega), hsel, ← p2]; (try simp only [Bool.false_eq_true, if_true, if_false, hto]) <;> (try omega)
                · omega
              · have qh43 := h43
                try simp only [decide_eq_true_eq, decide_eq_false_iff_not, Bool.not_eq_true', Bool.not_eq_false', Bool.and_eq_true, Bool.or_eq_false_iff, within_iff, within_not] at qh43
                refine WC.skip ?_
                refine ibN ?_
                refine tkN ?_
                refine hK17 _ _ ?_
                clear hK17
                refine WC.region ?_
                refine WL.val rfl rfl rfl (Run.add rfl rfl rfl ?_) ?_
                · constructor <;> omega
                refine WL.val rfl rfl rfl (Run.move rfl rfl) ?_
                refine WL.nil ?_
                refine tkN ?_
                refine ⟨⟨rfl, rfl, rfl, rfl, rfl, rfl, rfl, rfl, rfl, rfl, rfl, rfl, rfl, rfl, rfl, trivial⟩, (hs29.drop (by repeat (first | exact List.Sublist.refl _ | exact List.sublist_append_left _ _ | exact List.Sublist.trans (List.sublist_append_left _ _) (List.sublist_append_left _ _) | apply List.Sublist.cons | refine List.Sublist.trans ?_ (List.sublist_append_right _ _)))), _, ?_, i + 1, _, _, rfl, ?_, ?_, ?_, ?_, ⟨rfl, rfl, rfl, trivial⟩⟩
                · omega
                · omega
                · rw [lo_take (by omega), hsel, ← p1]; (try simp only [Bool.false_eq_true, if_true, if_false, hfr]) <;> (try omega)
                · rw [hi_take (by omega), hsel, ← p2]; (try simp only [Bool.false_eq_true, if_true, if_false, hto]) <;> (try omega)
                · omega
          · have qh35 := h35
            try simp only [decide_eq_true_eq, decide_eq_false_iff_not, Bool.not_eq_true', Bool.not_eq_false', Bool.and_eq_true, Bool.or_eq_false_iff, within_iff, within_not] at qh35
            have hdd : (gat encNode t k).Down = false := h35
            have hfr : fromR (gat encNode t k).Down (gat encRect (placesL t w_ h_) i) = (gat encRect (placesL t w_ h_) i).X := by rw [hdd]; rfl
            have hto : toR (gat encNode t k).Down (gat encRect (placesL t w_ h_) i) = (gat encRect (placesL t w_ h_) i).X + (gat encRect (placesL t w_ h_) i).W := by rw [hdd]; rfl
            refine WC.skip ?_
            refine tkN ?_
            refine hK33 _ _ ?_
            clear hK33
            refine WC.seq (fun K44 hK44 => ?_)
            refine WC.seq (fun K45 hK45 => ?_)
            refine WC.region ?_
            refine WL.val rfl rfl rfl (Run.move rfl rfl) ?_
            refine WL.val rfl rfl rfl (Run.move rfl rfl) ?_
            refine WL.val rfl rfl rfl (Run.lss rfl rfl rfl) ?_
            refine WL.nil ?_
            refine tkN ?_
            refine hK45 _ _ ?_
            clear hK45
            refine WC.cond rfl (fun h46 => ?_) (fun h46 => ?_)
            · have qh46 := h46
              try simp only [decide_eq_true_eq, decide_eq_false_iff_not, Bool.not_eq_true', Bool.not_eq_false', Bool.and_eq_true, Bool.or_eq_false_iff, within_iff, within_not] at qh46
              refine WC.region ?_
              refine WL.val rfl rfl rfl (Run.move rfl rfl) ?_
              refine WL.val rfl rfl rfl (Run.assign rfl rfl) ?_
              refine WL.nil ?_
              refine tkN ?_
              refine hK44 _ _ ?_
              clear hK44
              refine WC.seq (fun K47 hK47 => ?_)
              refine WC.region ?_
              refine WL.val rfl rfl rfl (Run.move rfl rfl) ?_
              refine WL.val rfl rfl rfl (Run.move rfl rfl) ?_
              refine WL.val rfl rfl rfl (Run.gtr rfl rfl rfl) ?_
              refine WL.nil ?_
              refine tkN ?_
              refine hK47 _ _ ?_
              clear hK47
              refine WC.cond rfl (fun h48 => ?_) (fun h48 => ?_)
              · have qh48 := h48
                try simp only [decide_eq_true_eq, decide_eq_false_iff_not, Bool.not_eq_true', Bool.not_eq_false', Bool.and_eq_true, Bool.or_eq_false_iff, within_iff, within_not] at qh48
                refine WC.region ?_
                refine WL.val rfl rfl rfl (Run.move rfl rfl) ?_
                refine WL.val rfl rfl rfl (Run.assign rfl rfl) ?_
                refine WL.nil ?_
                refine ibN ?_
                refine tkN ?_
                refine hK17 _ _ ?_
                clear hK17
                refine WC.region ?_
                refine WL.val rfl rfl rfl (Run.add rfl rfl rfl ?_) ?_
                · constructor <;> omega
                refine WL.val rfl rfl rfl (Run.move rfl rfl) ?_
                refine WL.nil ?_
                refine tkN ?_
                refine ⟨⟨rfl, rfl, rfl, rfl, rfl, rfl, rfl, rfl, rfl, rfl, rfl, rfl, rfl, rfl, rfl, trivial⟩, (hs29.drop (by repeat (first | exact List.Sublist.refl _ | exact List.sublist_append_left _ _ | exact List.Sublist.trans (List.sublist_append_left _ _) (List.sublist_append_left _ _) | apply List.Sublist.cons | refine List.Sublist.trans ?_ (List.sublist_append_right _ _)))), _, ?_, i + 1, _, _, rfl, ?_, ?_, ?_, ?_, ⟨rfl, rfl, rfl, trivial⟩⟩
                · omega
                · omega
                · rw [lo_take (by omega), hsel, ← p1]; (try simp only [Bool.false_eq_true, if_true, if_false, hfr]) <;> (try omega)
                · rw [hi_take (by omega), hsel, ← p2]; (try simp only [Bool.false_eq_true, if_true, if_false, hto]) <;> (try omega)
                · omega
              · have qh48 := h48
                try simp only [decide_eq_true_eq, decide_eq_false_iff_not, Bool.not_eq_true', Bool.not_eq_false', Bool.and_eq_true, Bool.or_eq_false_iff, within_iff, within_not] at qh48
                refine WC.skip ?_
                refine ibN ?_
                refine tkN ?_
                refine hK17 _ _ ?_
                clear hK17
                refine WC.region ?_
                refine WL.val rfl rfl rfl (Run.add rfl rfl rfl ?_) ?_
                · constructor <;> omega
                refine WL.val rfl rfl rfl (Run.move rfl rfl) ?_
                refine WL.nil ?_
                refine tkN ?_
                refine ⟨⟨rfl, rfl, rfl, rfl, rfl, rfl, rfl, rfl, rfl, rfl, rfl, rfl, rfl, rfl, rfl, trivial⟩, (hs29.drop (by repeat (first | exact List.Sublist.refl _ | exact List.sublist_append_left _ _ | exact List.Sublist.trans (List.sublist_append_left _ _) (List.sublist_append_left _ _) | apply List.Sublist.cons | refine List.Sublist.trans ?_ (List.sublist_append_right _ _)))), _, ?_, i + 1, _, _, rfl, ?_, ?_, ?_, ?_, ⟨rfl, rfl, rfl, trivial⟩⟩
                · omega
                · omega
                · rw [lo_take (by omega), hsel, ← p1]; (try simp only [Bool.false_eq_true, if_true, if_false, hfr]) <;> (try omega)
                · rw [hi_take (by omega), hsel, ← p2]; (try simp only [Bool.false_eq_true, if_true, if_false, hto]) <;> (try omega)
                · omega
            · have qh46 := h46
              try simp only [decide_eq_true_eq, decide_eq_false_iff_not, Bool.not_eq_true', Bool.not_eq_false', Bool.and_eq_true, Bool.or_eq_false_iff, within_iff, within_not] at qh46
              refine WC.skip ?_
              refine tkN ?_
              refine hK44 _ _ ?_
              clear hK44
              refine WC.seq (fun K49 hK49 => ?_)
              refine WC.region ?_
              refine WL.val rfl rfl rfl (Run.move rfl rfl) ?_
              refine WL.val rfl rfl rfl (Run.move rfl rfl) ?_
              refine WL.val rfl rfl rfl (Run.gtr rfl rfl rfl) ?_
              refine WL.nil ?_
              refine tkN ?_
              refine hK49 _ _ ?_
              clear hK49
              refine WC.cond rfl (fun h50 => ?_) (fun h50 => ?_)
              · have qh50 := h50
                try simp only [decide_eq_true_eq, decide_eq_false_iff_not, Bool.not_eq_true', Bool.not_eq_false', Bool.and_eq_true, Bool.or_eq_false_iff, within_iff, within_not] at qh50
                refine WC.region ?_
                refine WL.val rfl rfl rfl (Run.move rfl rfl) ?_
                refine WL.val rfl rfl rfl (Run.assign rfl rfl) ?_
                refine WL.nil ?_
                refine ibN ?_
                refine tkN ?_
                refine hK17 _ _ ?_
                clear hK17
                refine WC.region ?_
                refine WL.val rfl rfl rfl (Run.add rfl rfl rfl ?_) ?_
                · constructor <;> omega
                refine WL.val rfl rfl rfl (Run.move rfl rfl) ?_
                refine WL.nil ?_
                refine tkN ?_
                refine ⟨⟨rfl, rfl, rfl, rfl, rfl, rfl, rfl, rfl, rfl, rfl, rfl, rfl, rfl, rfl, rfl, trivial⟩, (hs29.drop (by repeat (first | exact List.Sublist.refl _ | exact List.sublist_append_left _ _ | exact List.Sublist.trans (List.sublist_append_left _ _) (List.sublist_append_left _ _) | apply List.Sublist.cons | refine List.Sublist.trans ?_ (List.sublist_append_right _ _)))), _, ?_, i + 1, _, _, rfl, ?_, ?_, ?_, ?_, ⟨rfl, rfl, rfl, trivial⟩⟩
                · omega
                · omega
                · rw [lo_take (by omega), hsel, ← p1]; (try simp only [Bool.false_eq_true, if_true, if_false, hfr]) <;> (try omega)
                · rw [hi_take (by omega), hsel, ← p2]; (try simp only [Bool.false_eq_true, if_true, if_false, hto]) <;> (try omega)
                · omega
              · have qh50 := h50
                try simp only [decide_eq_true_eq, decide_eq_false_iff_not, Bool.not_eq_true', Bool.not_eq_false', Bool.and_eq_true, Bool.or_eq_false_iff, within_iff, within_not] at qh50
                refine WC.skip ?_
                refine ibN ?_
                refine tkN ?_
                refine hK17 _ _ ?_
                clear hK17
                refine WC.region ?_
                refine WL.val rfl rfl rfl (Run.add rfl rfl rfl ?_) ?_
                · constructor <;> omega
                refine WL.val rfl rfl rfl (Run.move rfl rfl) ?_
                refine WL.nil ?_
                refine tkN ?_
                refine ⟨⟨rfl, rfl, rfl, rfl, rfl, rfl, rfl, rfl, rfl, rfl, rfl, rfl, rfl, rfl, rfl, trivial⟩, (hs29.drop (by repeat (first | exact List.Sublist.refl _ | exact List.sublist_append_left _ _ | exact List.Sublist.trans (List.sublist_append_left _ _) (List.sublist_append_left _ _) | apply List.Sublist.cons | refine List.Sublist.trans ?_ (List.sublist_append_right _ _)))), _, ?_, i + 1, _, _, rfl, ?_, ?_, ?_, ?_, ⟨rfl, rfl, rfl, trivial⟩⟩
                · omega
                · omega
                · rw [lo_take (by omega), hsel, ← p1]; (try simp only [Bool.false_eq_true, if_true, if_false, hfr]) <;> (try omega)
                · rw [hi_take (by omega), hsel, ← p2]; (try simp only [Bool.false_eq_true, if_true, if_false, hto]) <;> (try omega)
                · omega
    · have qh16 := h16
      try simp only [decide_eq_true_eq, decide_eq_false_iff_not, Bool.not_eq_true', Bool.not_eq_false', Bool.and_eq_true, Bool.or_eq_false_iff, within_iff, within_not] at qh16
      refine WC.exit ?_
      refine tkE ?_
      refine tkE ?_
      refine ibE ?_
      refine tkN ?_
      refine hK11 _ _ ?_
      clear hK11
      refine WC.seq (fun K51 hK51 => ?_)
      refine WC.region ?_
      refine WL.val rfl rfl rfl (Run.move rfl rfl) ?_
      refine WL.val rfl rfl rfl (Run.move rfl rfl) ?_
      refine WL.val rfl rfl rfl (Run.sub rfl rfl rfl ?_) ?_
      · constructor <;> omega
      refine WL.val rfl rfl rfl (Run.assign rfl rfl) ?_
      refine WL.nil ?_
      refine tkN ?_
      refine hK51 _ _ ?_
      clear hK51
      refine WC.ret ?_
      refine retV1 rfl (resV.tmp rfl) ?_
      refine ⟨congrArg Ending.returned ?_, hs13.nil⟩
      rw [sizeL, ← List.take_of_length_le (show (placesL t w_ h_).length ≤ i by omega), ← p1, ← p2]
end Go.Proofs.Ytghcicggamkjgaa
