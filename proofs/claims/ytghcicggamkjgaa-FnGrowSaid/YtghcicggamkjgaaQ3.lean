/- Walks of Go functions, printed by a program (wip/gen). -/
import Derived.Test.YtghcicggamkjgaaQ2
namespace Go.Proofs.Ytghcicggamkjgaa
open Go Go.RowKit
set_option linter.unusedVariables false
set_option linter.unusedSimpArgs false
set_option maxHeartbeats 4000000 in
theorem c_spec_Grow (A_t : Option Addr) (n_t c_t : Nat) (t : List NodeD) (p : Int) (down : Bool) (by_ : Int) (w_ : Int) (h_ : Int) (w : World) (f_t : SlF encNode w A_t n_t t) (hn : n_t ≤ 268435456) :
    Calls Try.prog 48 #[.slice A_t n_t c_t, i64 p, .bool down, i64 by_, i64 w_, i64 h_] w fun e w' => ∃ A c L1, e = .returned (.tuple #[.slice A (growL t p down by_ w_ h_).length c, .bool (growOk t p down by_ w_ h_)]) ∧ St w [] L1 w' ∧ OwnF encNode 62 (.slice A (growL t p down by_ w_ h_).length c) (growL t p down by_ w_ h_) L1 := by
  have hl := f_t.len
  have hla := atL_lt t p
  refine enter (vs := [.slice A_t n_t c_t, i64 p, .bool down, i64 by_, i64 w_, i64 h_]) 108 Try.func48 rfl Try.ntmps48 rfl rfl ?_
  have hs1 := St.init w
  refine WC.seq (fun K2 hK2 => ?_)
  refine WC.region ?_
  refine WL.val rfl rfl rfl (Run.assign rfl rfl) ?_
  refine WL.val rfl rfl rfl (Run.assign rfl rfl) ?_
  refine WL.nil ?_
  refine tkN ?_
  refine hK2 _ _ ?_
  clear hK2
  refine WC.seq (fun K3 hK3 => ?_)
  refine WC.region ?_
  refine WL.val rfl rfl rfl (Run.move rfl rfl) ?_
  refine WL.val rfl rfl rfl (Run.move rfl rfl) ?_
  refine WL.val rfl rfl rfl (Run.move rfl rfl) ?_
  refine WL.val rfl rfl rfl (Run.move rfl rfl) ?_
  refine WL.call rfl rfl rfl (Run.call Try.call35 rfl rfl rfl) (c_spec_PlaceOf _ _ _ _ _ _ _ _ (SlF.st0 f_t hs1) ?_) ?_
  · first | assumption | rfl | omega
  rintro _ whs4 ⟨rfl, hs4⟩
  replace hs4 := hs1.call0 hs4
  refine ⟨_, rfl, ?_⟩
  refine WL.val rfl rfl rfl (Run.move rfl rfl) ?_
  refine WL.val rfl rfl rfl (Run.extract rfl rfl rfl) ?_
  refine WL.val rfl rfl rfl (Run.extract rfl rfl rfl) ?_
  refine WL.alloc hs4 Try.zeroValue40 rfl rfl rfl rfl rfl (fun b5 whs6 hs6 => ?_)
  refine WL.storeA hs6 0 Try.sizeOf40 rfl rfl rfl rfl rfl rfl rfl rfl rfl (Nat.le_of_ble_eq_true rfl) (.inl (Nat.le_of_ble_eq_true rfl)) (fun whs7 hs7 => ?_)
  refine WL.val rfl rfl rfl (Run.assign rfl rfl) ?_
  refine WL.nil ?_
  refine tkN ?_
  refine hK3 _ _ ?_
  clear hK3
  refine WC.seq (fun K8 hK8 => ?_)
  refine WC.seq (fun K9 hK9 => ?_)
  refine WC.region ?_
  refine WL.val rfl rfl rfl (Run.move rfl rfl) ?_
  refine WL.val rfl rfl rfl (Run.not rfl rfl) ?_
  refine WL.val rfl rfl rfl (Run.move rfl rfl) ?_
  apply WL.meetOr 3 33 36 [(0, _), (1, _), (2, _), (3, _), (4, _), (5, _), (12, _), (13, _), (14, _), (15, _), (23, _), (24, _), (25, _), (26, _), (27, _), (28, _), (29, _), (30, _)] rfl hs7
  · intro g10 J11
    have qg10 := g10
    try simp only [decide_eq_true_eq, decide_eq_false_iff_not, Bool.not_eq_true', Bool.not_eq_false'] at qg10
    refine WL.val (wantF rfl g10) rfl rfl (Run.move rfl rfl) ?_
    refine WL.val (wantF rfl g10) rfl rfl (Run.lss rfl rfl rfl) ?_
    refine WL.val rfl rfl rfl (Run.pickF rfl rfl g10 rfl) ?_
    exact WL.fin J11 hs7 rfl (orF g10) ⟨rfl, rfl, rfl, rfl, rfl, rfl, rfl, rfl, rfl, rfl, rfl, rfl, rfl, rfl, rfl, rfl, rfl, rfl, trivial⟩
  · intro g10 J11
    refine WL.skip (wantNF rfl g10) rfl rfl ?_
    refine WL.skip (wantNF rfl g10) rfl rfl ?_
    refine WL.val rfl rfl rfl (Run.pickT rfl rfl g10 rfl) ?_
    exact WL.fin J11 hs7 rfl (orT g10) ⟨rfl, rfl, rfl, rfl, rfl, rfl, rfl, rfl, rfl, rfl, rfl, rfl, rfl, rfl, rfl, rfl, rfl, rfl, trivial⟩
  · intro whs12 hs12
    refine WL.val rfl rfl rfl (Run.move rfl rfl) ?_
    apply WL.meetOr 3 37 40 [(0, _), (1, _), (2, _), (3, _), (4, _), (5, _), (12, _), (13, _), (14, _), (15, _), (23, _), (24, _), (25, _), (26, _), (27, _), (28, _), (29, _), (30, _)] rfl hs12
    · intro g13 J14
      have qg13 := g13
      try simp only [decide_eq_true_eq, decide_eq_false_iff_not, Bool.not_eq_true', Bool.not_eq_false'] at qg13
      refine WL.val (wantF rfl g13) rfl rfl (Run.move rfl rfl) ?_
      refine WL.val (wantF rfl g13) rfl rfl (Run.gtr rfl rfl rfl) ?_
      refine WL.val rfl rfl rfl (Run.pickF rfl rfl g13 rfl) ?_
      exact WL.fin J14 hs12 rfl (orF g13) ⟨rfl, rfl, rfl, rfl, rfl, rfl, rfl, rfl, rfl, rfl, rfl, rfl, rfl, rfl, rfl, rfl, rfl, rfl, trivial⟩
    · intro g13 J14
      refine WL.skip (wantNF rfl g13) rfl rfl ?_
      refine WL.skip (wantNF rfl g13) rfl rfl ?_
      refine WL.val rfl rfl rfl (Run.pickT rfl rfl g13 rfl) ?_
      exact WL.fin J14 hs12 rfl (orT g13) ⟨rfl, rfl, rfl, rfl, rfl, rfl, rfl, rfl, rfl, rfl, rfl, rfl, rfl, rfl, rfl, rfl, rfl, rfl, trivial⟩
    · intro whs15 hs15
      refine WL.nil ?_
      refine tkN ?_
      refine hK9 _ _ ?_
      clear hK9
      refine WC.cond rfl (fun h16 => ?_) (fun h16 => ?_)
      · have qh16 := h16
        try simp only [decide_eq_true_eq, decide_eq_false_iff_not, Bool.not_eq_true', Bool.not_eq_false', Bool.and_eq_true, Bool.or_eq_false_iff, within_iff, within_not] at qh16
        have hk : growOk t p down by_ w_ h_ = false := by
          rw [← Bool.not_eq_true]; intro h_1
          simp only [growOk, Bool.and_eq_true, decide_eq_true_eq] at h_1
          have h_2 := placeAt_iff.2 h_1.1.1.1
          have h_3 := within_iff.1 h_1.1.1.2
          simp only [h_2, decide_true, Bool.not_true, Bool.false_or, Bool.or_eq_true, decide_eq_true_eq] at h16
          omega
        refine WC.seq (fun K17 hK17 => ?_)
        refine WC.region ?_
        refine WL.val rfl rfl rfl (Run.assign rfl rfl) ?_
        refine WL.val rfl rfl rfl (Run.assign rfl rfl) ?_
        refine WL.nil ?_
        refine tkN ?_
        refine hK17 _ _ ?_
        clear hK17
        refine WC.ret ?_
        refine tkR ?_
        clear hK8
        refine retV2 rfl (resV.tmp rfl) (resV.tmp rfl) ?_
        rw [hk]
        have hx_ := OwnF.eqOf (xs := growL t p down by_ w_ h_) (OwnF.nil encNode 62) (by simp [growL, hk])
        rw [← hx_]
        exact ⟨_, _, _, rfl, hs15.nil, (OwnF.nil encNode 62)⟩
      · have qh16 := h16
        try simp only [decide_eq_true_eq, decide_eq_false_iff_not, Bool.not_eq_true', Bool.not_eq_false', Bool.and_eq_true, Bool.or_eq_false_iff, within_iff, within_not] at qh16
        have hpl : 0 ≤ placeAt t w_ h_ p := by simp only [Bool.or_eq_false_iff, Bool.not_eq_false', decide_eq_true_eq] at h16; exact h16.1.1
        have hyes : placesOk t w_ h_ = true ∧ 0 ≤ atL t p := placeAt_iff.1 hpl
        have hbb : -120 ≤ by_ ∧ by_ ≤ 120 := by simp only [Bool.or_eq_false_iff, decide_eq_false_iff_not] at h16; omega
        have hto : treeOk t = true := (placeAt_at hpl).1
        have hse := atS_eq (p := p) hto
        obtain ⟨_, ⟨T, hv⟩, _⟩ := treeOk_iff.1 hto
        have hch := grow_chain hv (down := down) (k := (atL t p).toNat) (by omega)
        obtain ⟨hi1, hi2, hi3⟩ : -1 ≤ lastI (isUp t (atL t p).toNat) (atL t p).toNat ∧ lastI (isUp t (atL t p).toNat) (atL t p).toNat < n_t ∧ (growUp t down (atL t p).toNat) = (if (lastI (isUp t (atL t p).toNat) (atL t p).toNat) < 0 then (-1 : Int) else if (gat encNode t (lastI (isUp t (atL t p).toNat) (atL t p).toNat).toNat).Down = down then (lastI (isUp t (atL t p).toNat) (atL t p).toNat) else growUp t down (lastI (isUp t (atL t p).toNat) (atL t p).toNat).toNat) := by
          rcases hch with ⟨e1, e2⟩ | ⟨u, e1, e2, e3⟩
          · rw [e1, e2, if_pos (by omega)]; omega
          · rw [e1, e3, Int.toNat_natCast]; exact ⟨by omega, by omega, (if_neg (show ¬ ((u : Int) < 0) by omega)).symm⟩
        refine WC.skip ?_
        refine tkN ?_
        refine hK8 _ _ ?_
        clear hK8
        refine WC.seq (fun K18 hK18 => ?_)
        refine WC.region ?_
        refine WL.val rfl rfl rfl (Run.move rfl rfl) ?_
        refine WL.val rfl rfl rfl (Run.move rfl rfl) ?_
        refine WL.call rfl rfl rfl (Run.call Try.call63 rfl rfl rfl) (c_spec_l13At _ _ _ _ _ _ (SlF.st0 f_t hs15) ?_) ?_
        · first | assumption | rfl | omega
        rintro _ whs19 ⟨rfl, hs19⟩
        replace hs19 := hs15.call0 hs19
        refine ⟨_, rfl, ?_⟩
        refine WL.val rfl rfl rfl (Run.assign rfl rfl) ?_
        refine WL.nil ?_
        refine tkN ?_
        refine hK18 _ _ ?_
        clear hK18
        refine WC.seq (fun K20 hK20 => ?_)
        refine WC.region ?_
        refine WL.val rfl rfl rfl (Run.move rfl rfl) ?_
        refine WL.val rfl rfl rfl (Run.move rfl rfl) ?_
        refine WL.call rfl rfl rfl (Run.call Try.call67 rfl rfl rfl) (c_spec_l13Up _ _ _ _ _ _ (SlF.st0 f_t hs19) ?_ ?_ ?_) ?_
        · first | assumption | rfl | omega
        · first | assumption | rfl | omega
        · first | assumption | rfl | omega
        rintro _ whs21 ⟨rfl, hs21⟩
        replace hs21 := hs19.call0 hs21
        refine ⟨_, rfl, ?_⟩
        refine WL.val rfl rfl rfl (Run.assign rfl rfl) ?_
        refine WL.nil ?_
        refine tkN ?_
        refine hK20 _ _ ?_
        clear hK20
        refine WC.seq (fun K22 hK22 => ?_)
        refine WC.block ?_
        refine WC.loopS [(0, _), (1, _), (2, _), (3, _), (4, _), (5, _), (12, _), (13, _), (14, _), (15, _), (16, _), (23, _), (24, _), (25, _), (26, _), (27, _), (28, _), (29, _), (30, _), (40, _), (41, _), (42, _), (43, _), (44, _), (45, _), (46, _)] ⟨rfl, rfl, rfl, rfl, rfl, rfl, rfl, rfl, rfl, rfl, rfl, rfl, rfl, rfl, rfl, rfl, rfl, rfl, rfl, rfl, rfl, rfl, rfl, rfl, rfl, rfl, trivial⟩ hs21 (fun k_ f w' => ∃ (q : Int), k_ = (q + 1).toNat ∧ (-1 ≤ q) ∧ (q < n_t) ∧ ((growUp t down (atL t p).toNat) = (if q < 0 then (-1 : Int) else if (gat encNode t q.toNat).Down = down then q else growUp t down q.toNat)) ∧ Sub [(17, .int .i64 q)] f) ((fun (q : Int) => (q + 1).toNat) ((lastI (isUp t (atS t p).toNat) (atS t p).toNat))) ?_ ?_
        · refine ⟨(lastI (isUp t (atS t p).toNat) (atS t p).toNat), rfl, ?_, ?_, ?_, ⟨rfl, trivial⟩⟩
          · rw [hse]; exact hi1
          · rw [hse]; exact hi2
          · rw [hse]; exact hi3
        · clear hs21
          rintro _ f w ⟨q, rfl, p0, p1, p2, hG⟩ hF hs23
          refine WC.sub _ (hG.app hF) ?_
          clear hG hF
          refine WC.seq (fun K24 hK24 => ?_)
          refine WC.seq (fun K25 hK25 => ?_)
          refine WC.region ?_
          refine WL.val rfl rfl rfl (Run.move rfl rfl) ?_
          refine WL.val rfl rfl rfl (Run.geq rfl rfl rfl) ?_
          refine WL.val rfl rfl rfl (Run.move rfl rfl) ?_
          apply WL.meetAnd 8 49 57 [(0, _), (1, _), (2, _), (3, _), (4, _), (5, _), (12, _), (13, _), (14, _), (15, _), (16, _), (17, _), (23, _), (24, _), (25, _), (26, _), (27, _), (28, _), (29, _), (30, _), (40, _), (41, _), (42, _), (43, _), (44, _), (45, _), (46, _)] rfl hs23
          · intro g26 J27
            have qg26 := g26
            try simp only [decide_eq_true_eq, decide_eq_false_iff_not, Bool.not_eq_true', Bool.not_eq_false'] at qg26
            refine WL.val (wantT rfl g26) rfl rfl (Run.move rfl rfl) ?_
            refine WL.val (wantT rfl g26) rfl rfl (Run.move rfl rfl) ?_
            refine WL.val (wantT rfl g26) rfl rfl (Run.idxK (q.toNat) Try.runUnderlying25 Try.sizeOf62 rfl rfl rfl ?_ ?_ ?_) ?_
            · exact SlF.some_ (SlF.st0 f_t hs23)
            · omega
            · omega
            refine WL.val (wantT rfl g26) rfl rfl (Run.fieldO Try.runUnderlying62 rfl rfl rfl Try.sizeOf4 rfl) ?_
            refine WL.val (wantT rfl g26) rfl rfl (Run.load Try.isAgg4 rfl rfl (SlF.fld (SlF.st0 f_t hs23) ?_ rfl)) ?_
            · omega
            refine WL.val (wantT rfl g26) rfl rfl (Run.move rfl rfl) ?_
            refine WL.val (wantT rfl g26) rfl rfl (Run.neqB Try.runUnderlying4 rfl rfl rfl) ?_
            refine WL.val rfl rfl rfl (Run.pickT rfl rfl g26 rfl) ?_
            exact WL.fin J27 hs23 rfl (andT g26) ⟨rfl, rfl, rfl, rfl, rfl, rfl, rfl, rfl, rfl, rfl, rfl, rfl, rfl, rfl, rfl, rfl, rfl, rfl, rfl, rfl, rfl, rfl, rfl, rfl, rfl, rfl, rfl, trivial⟩
          · intro g26 J27
            refine WL.skip (wantNT rfl g26) rfl rfl ?_
            refine WL.skip (wantNT rfl g26) rfl rfl ?_
            refine WL.skip (wantNT rfl g26) rfl rfl ?_
            refine WL.skip (wantNT rfl g26) rfl rfl ?_
            refine WL.skip (wantNT rfl g26) rfl rfl ?_
            refine WL.skip (wantNT rfl g26) rfl rfl ?_
            refine WL.skip (wantNT rfl g26) rfl rfl ?_
            refine WL.val rfl rfl rfl (Run.pickF rfl rfl g26 rfl) ?_
            exact WL.fin J27 hs23 rfl (andF g26) ⟨rfl, rfl, rfl, rfl, rfl, rfl, rfl, rfl, rfl, rfl, rfl, rfl, rfl, rfl, rfl, rfl, rfl, rfl, rfl, rfl, rfl, rfl, rfl, rfl, rfl, rfl, rfl, trivial⟩
          · intro whs28 hs28
            refine WL.nil ?_
            refine tkN ?_
            refine hK25 _ _ ?_
            clear hK25
            refine WC.cond rfl (fun h29 => ?_) (fun h29 => ?_)
            · have qh29 := h29
              try simp only [decide_eq_true_eq, decide_eq_false_iff_not, Bool.not_eq_true', Bool.not_eq_false', Bool.and_eq_true, Bool.or_eq_false_iff, within_iff, within_not] at qh29
              have hq0 : 0 ≤ q ∧ ¬ (gat encNode t q.toNat).Down = down := by simp only [Bool.and_eq_true, decide_eq_true_eq, Bool.not_eq_true', decide_eq_false_iff_not] at h29; simpa using h29
              rw [if_neg (by omega), if_neg hq0.2] at p2
              have hch := grow_chain hv (down := down) (k := q.toNat) (by omega)
              obtain ⟨hn1, hn2, hn3⟩ : -1 ≤ lastI (isUp t q.toNat) q.toNat ∧ lastI (isUp t q.toNat) q.toNat < n_t ∧ (growUp t down (atL t p).toNat) = (if (lastI (isUp t q.toNat) q.toNat) < 0 then (-1 : Int) else if (gat encNode t (lastI (isUp t q.toNat) q.toNat).toNat).Down = down then (lastI (isUp t q.toNat) q.toNat) else growUp t down (lastI (isUp t q.toNat) q.toNat).toNat) := by
                rcases hch with ⟨e1, e2⟩ | ⟨u, e1, e2, e3⟩
                · rw [p2, e1, e2, if_pos (by omega)]; omega
                · rw [p2, e1, e3, Int.toNat_natCast]; exact ⟨by omega, by omega, (if_neg (show ¬ ((u : Int) < 0) by omega)).symm⟩
              have hdec : lastI (isUp t q.toNat) q.toNat < q := by rcases hch with ⟨e1, _⟩ | ⟨u, e1, e2, _⟩ <;> omega
              refine WC.skip ?_
              refine tkN ?_
              refine hK24 _ _ ?_
              clear hK24
              refine WC.block ?_
              refine WC.region ?_
              refine WL.val rfl rfl rfl (Run.move rfl rfl) ?_
              refine WL.val rfl rfl rfl (Run.move rfl rfl) ?_
              refine WL.call rfl rfl rfl (Run.call Try.call67 rfl rfl rfl) (c_spec_l13Up _ _ _ _ _ _ (SlF.st0 f_t hs28) ?_ ?_ ?_) ?_
              · first | assumption | rfl | omega
              · first | assumption | rfl | omega
              · first | assumption | rfl | omega
              rintro _ whs30 ⟨rfl, hs30⟩
              replace hs30 := hs28.call0 hs30
              refine ⟨_, rfl, ?_⟩
              refine WL.val rfl rfl rfl (Run.assign rfl rfl) ?_
              refine WL.nil ?_
              refine ibN ?_
              refine tkN ?_
              refine ⟨⟨rfl, rfl, rfl, rfl, rfl, rfl, rfl, rfl, rfl, rfl, rfl, rfl, rfl, rfl, rfl, rfl, rfl, rfl, rfl, rfl, rfl, rfl, rfl, rfl, rfl, rfl, trivial⟩, hs30, _, ?_, _, rfl, ?_, ?_, ?_, ⟨rfl, trivial⟩⟩
              · omega
              · exact hn1
              · exact hn2
              · exact hn3
            · have qh29 := h29
              try simp only [decide_eq_true_eq, decide_eq_false_iff_not, Bool.not_eq_true', Bool.not_eq_false', Bool.and_eq_true, Bool.or_eq_false_iff, within_iff, within_not] at qh29
              have hq : q = (growUp t down (atL t p).toNat) := by
                rw [p2]
                by_cases h_1 : q < 0
                · rw [if_pos h_1]; omega
                · rw [if_neg h_1, if_pos]
                  have h_2 : 0 ≤ q := by omega
                  simpa [h_2] using h29
              subst hq
              refine WC.exit ?_
              refine tkE ?_
              refine tkE ?_
              refine ibE ?_
              refine tkN ?_
              refine hK22 _ _ ?_
              clear hK22
              refine WC.seq (fun K31 hK31 => ?_)
              refine WC.seq (fun K32 hK32 => ?_)
              refine WC.region ?_
              refine WL.val rfl rfl rfl (Run.move rfl rfl) ?_
              refine WL.val rfl rfl rfl (Run.lss rfl rfl rfl) ?_
              refine WL.nil ?_
              refine tkN ?_
              refine hK32 _ _ ?_
              clear hK32
              refine WC.cond rfl (fun h33 => ?_) (fun h33 => ?_)
              · have qh33 := h33
                try simp only [decide_eq_true_eq, decide_eq_false_iff_not, Bool.not_eq_true', Bool.not_eq_false', Bool.and_eq_true, Bool.or_eq_false_iff, within_iff, within_not] at qh33
                have hk : growOk t p down by_ w_ h_ = false := by
                  rw [← Bool.not_eq_true]; intro h_1
                  simp only [growOk, Bool.and_eq_true, decide_eq_true_eq] at h_1
                  omega
                refine WC.seq (fun K34 hK34 => ?_)
                refine WC.region ?_
                refine WL.val rfl rfl rfl (Run.assign rfl rfl) ?_
                refine WL.val rfl rfl rfl (Run.assign rfl rfl) ?_
                refine WL.nil ?_
                refine tkN ?_
                refine hK34 _ _ ?_
                clear hK34
                refine WC.ret ?_
                refine tkR ?_
                clear hK31
                refine retV2 rfl (resV.tmp rfl) (resV.tmp rfl) ?_
                rw [hk]
                have hx_ := OwnF.eqOf (xs := growL t p down by_ w_ h_) (OwnF.nil encNode 62) (by simp [growL, hk])
                rw [← hx_]
                exact ⟨_, _, _, rfl, hs28.nil, (OwnF.nil encNode 62)⟩
              · have qh33 := h33
                try simp only [decide_eq_true_eq, decide_eq_false_iff_not, Bool.not_eq_true', Bool.not_eq_false', Bool.and_eq_true, Bool.or_eq_false_iff, within_iff, within_not] at qh33
                obtain ⟨u, hu, huk, hus, hud⟩ := growUp_some (t := t) (down := down) (k := (atL t p).toNat) (by omega)
                have hul : u < t.length := by omega
                obtain ⟨hz1, hz2, hz3⟩ := size_eq hyes.1 hul hus
                have hab := areas_bound hyes.1 hul
                have hfb := node_first hto hul
                have hzb : 3 ≤ sizeL t (u : Int).toNat w_ h_ ∧ sizeL t (u : Int).toNat w_ h_ ≤ 120 := by rw [Int.toNat_natCast, hz1]; refine ⟨hz3, ?_⟩; unfold sideR; split <;> omega
                obtain ⟨S, hS⟩ := hv.at_ hul
                obtain ⟨n0, a, b, rfl⟩ := hS.of_split hus
                have hpa := hS.parts.2.1
                have hei : endI t ((u : Int) + 1) = sEnd t (u + 1) := by
                  have h_1 : endI t ((u : Int) + 1) = (u + 1 + a.flat.length : Nat) := hpa.endI
                  rw [h_1, hpa.sEnd]
                rw [hu]
                refine WC.skip ?_
                refine tkN ?_
                refine hK31 _ _ ?_
                clear hK31
                refine WC.seq (fun K35 hK35 => ?_)
                refine WC.region ?_
                refine WL.val rfl rfl rfl (Run.move rfl rfl) ?_
                refine WL.val rfl rfl rfl (Run.move rfl rfl) ?_
                refine WL.val rfl rfl rfl (Run.move rfl rfl) ?_
                refine WL.val rfl rfl rfl (Run.move rfl rfl) ?_
                refine WL.call rfl rfl rfl (Run.call Try.call81 rfl rfl rfl) (c_spec_l13Size _ _ _ _ _ _ _ _ (SlF.st0 f_t hs28) ?_ ?_ ?_) ?_
                · first | assumption | rfl | omega
                · first | assumption | rfl | omega
                · first | assumption | rfl | omega
                rintro _ whs36 ⟨rfl, hs36⟩
                replace hs36 := hs28.call0 hs36
                refine ⟨_, rfl, ?_⟩
                refine WL.val rfl rfl rfl (Run.assign rfl rfl) ?_
                refine WL.nil ?_
                refine tkN ?_
                refine hK35 _ _ ?_
                clear hK35
                refine WC.seq (fun K37 hK37 => ?_)
                refine WC.region ?_
                refine WL.val rfl rfl rfl (Run.move rfl rfl) ?_
                refine WL.val rfl rfl rfl (Run.move rfl rfl) ?_
                refine WL.val rfl rfl rfl (Run.idxK (u) Try.runUnderlying25 Try.sizeOf62 rfl rfl rfl ?_ ?_ ?_) ?_
                · exact SlF.some_ (SlF.st0 f_t hs36)
                · omega
                · omega
                refine WL.val rfl rfl rfl (Run.fieldO Try.runUnderlying62 rfl rfl rfl Try.sizeOf3 rfl) ?_
                refine WL.val rfl rfl rfl (Run.load Try.isAgg3 rfl rfl (SlF.fld (SlF.st0 f_t hs36) ?_ rfl)) ?_
                · omega
                refine WL.val rfl rfl rfl (Run.move rfl rfl) ?_
                refine WL.call rfl rfl rfl (Run.call Try.call82 rfl rfl rfl) (c_spec_l13First _ _ _ ?_) ?_
                · first | assumption | rfl | omega
                rintro _ whs38 ⟨rfl, hs38⟩
                replace hs38 := hs36.call0 hs38
                refine ⟨_, rfl, ?_⟩
                refine WL.val rfl rfl rfl (Run.assign rfl rfl) ?_
                refine WL.nil ?_
                refine tkN ?_
                refine hK37 _ _ ?_
                clear hK37
                refine WC.seq (fun K39 hK39 => ?_)
                refine WC.seq (fun K40 hK40 => ?_)
                refine WC.region ?_
                refine WL.val rfl rfl rfl (Run.move rfl rfl) ?_
                refine WL.val rfl rfl rfl (Run.move rfl rfl) ?_
                refine WL.val rfl rfl rfl (Run.move rfl rfl) ?_
                refine WL.val rfl rfl rfl (Run.add rfl rfl rfl ?_) ?_
                · constructor <;> omega
                refine WL.call rfl rfl rfl (Run.call Try.call53 rfl rfl rfl) (c_spec_l13End _ _ _ _ (u + 1) _ (SlF.st0 f_t hs38) ?_ ?_) ?_
                · omega
                · omega
                rintro _ whs41 ⟨rfl, hs41⟩
                replace hs41 := hs38.call0 hs41
                refine ⟨_, rfl, ?_⟩
                refine WL.val rfl rfl rfl (Run.lss rfl rfl rfl) ?_
                refine WL.nil ?_
                refine tkN ?_
                refine hK40 _ _ ?_
                clear hK40
                refine WC.cond rfl (fun h42 => ?_) (fun h42 => ?_)
                · have qh42 := h42
                  try simp only [decide_eq_true_eq, decide_eq_false_iff_not, Bool.not_eq_true', Bool.not_eq_false', Bool.and_eq_true, Bool.or_eq_false_iff, within_iff, within_not] at qh42
                  have hby' : growBy t (atL t p).toNat u by_ = by_ := by rw [growBy, if_neg]; rw [hei]; omega
                  refine WC.region ?_
                  refine WL.val rfl rfl rfl (Run.move rfl rfl) ?_
                  refine WL.val rfl rfl rfl (Run.move rfl rfl) ?_
                  refine WL.val rfl rfl rfl (Run.add rfl rfl rfl ?_) ?_
                  · constructor <;> omega
                  refine WL.val rfl rfl rfl (Run.assign rfl rfl) ?_
                  refine WL.nil ?_
                  refine tkN ?_
                  refine hK39 _ _ ?_
                  clear hK39
                  refine WC.seq (fun K43 hK43 => ?_)
                  refine WC.seq (fun K44 hK44 => ?_)
                  refine WC.region ?_
                  refine WL.val rfl rfl rfl (Run.move rfl rfl) ?_
                  refine WL.val rfl rfl rfl (Run.lss rfl rfl rfl) ?_
                  refine WL.nil ?_
                  refine tkN ?_
                  refine hK44 _ _ ?_
                  clear hK44
                  refine WC.cond rfl (fun h45 => ?_) (fun h45 => ?_)
                  · have qh45 := h45
                    try simp only [decide_eq_true_eq, decide_eq_false_iff_not, Bool.not_eq_true', Bool.not_eq_false', Bool.and_eq_true, Bool.or_eq_false_iff, within_iff, within_not] at qh45
                    refine WC.region ?_
                    refine WL.val rfl rfl rfl (Run.assign rfl rfl) ?_
                    refine WL.nil ?_
                    refine tkN ?_
                    refine hK43 _ _ ?_
                    clear hK43
                    refine WC.seq (fun K46 hK46 => ?_)
                    refine WC.region ?_
                    refine WL.val rfl rfl rfl (Run.move rfl rfl) ?_
                    refine WL.call rfl rfl rfl (Run.call Try.call64 rfl rfl rfl) (c_spec_l13Copy _ _ _ _ _ (SlF.st0 f_t hs41) ?_) ?_
                    · first | assumption | rfl | omega
                    rintro _ whs47 ⟨A48, c49, L150, rfl, hs47, ho51⟩
                    replace hs47 := hs41.callF hs47
                    refine ⟨_, rfl, ?_⟩
                    replace hs47 := St.back [_] hs47
                    refine WL.val rfl rfl rfl (Run.assign rfl rfl) ?_
                    refine WL.nil ?_
                    refine tkN ?_
                    refine hK46 _ _ ?_
                    clear hK46
                    refine WC.seq (fun K52 hK52 => ?_)
                    refine WC.region ?_
                    refine WL.val rfl rfl rfl (Run.move rfl rfl) ?_
                    refine WL.val rfl rfl rfl (Run.move rfl rfl) ?_
                    refine WL.val rfl rfl rfl (Run.move rfl rfl) ?_
                    refine WL.val rfl rfl rfl (Run.move rfl rfl) ?_
                    refine WL.call rfl rfl rfl (Run.call Try.call82 rfl rfl rfl) (c_spec_l13First _ _ _ ?_) ?_
                    · first | assumption | rfl | omega
                    rintro _ whs53 ⟨rfl, hs53⟩
                    replace hs53 := hs47.call0 hs53
                    refine ⟨_, rfl, ?_⟩
                    refine WL.val rfl rfl rfl (Run.idxK (u) Try.runUnderlying25 Try.sizeOf62 rfl rfl rfl ?_ ?_ ?_) ?_
                    · exact SlF.some_ (SlF.ofOwn ho51 (fun p_ hp_ => (hs53.own p_ (List.mem_append_right [_] (List.mem_append_left _ hp_))).1))
                    · omega
                    · omega
                    refine WL.val rfl rfl rfl (Run.fieldO Try.runUnderlying62 rfl rfl rfl Try.sizeOf3 rfl) ?_
                    refine WL.storeF (x' := ⟨(gat encNode t u).Pane, (gat encNode t u).Down, min (1) (sizeL t (u : Int).toNat w_ h_ - 2)⟩) (St.perm hs53 (L' := L150 ++ _) (perm_front (A := [_]) (List.Perm.refl _))) ho51 Try.sizeOf3 rfl rfl rfl rfl rfl rfl rfl rfl rfl ?_ rfl (fun L54 whs55 hs55 ho56 _ => ?_)
                    · omega
                    replace hs55 := St.back [_] hs55
                    refine WL.nil ?_
                    refine tkN ?_
                    refine hK52 _ _ ?_
                    clear hK52
                    refine WC.seq (fun K57 hK57 => ?_)
                    refine WC.region ?_
                    refine WL.val rfl rfl rfl (Run.move rfl rfl) ?_
                    refine WL.val rfl rfl rfl (Run.move rfl rfl) ?_
                    refine WL.val rfl rfl rfl (Run.move rfl rfl) ?_
                    refine WL.call rfl rfl rfl (Run.call Try.call42 rfl rfl rfl) (c_spec_Places _ _ _ _ _ _ _ (SlF.ofOwn ho56 (fun p_ hp_ => (hs55.own p_ (List.mem_append_right [_] (List.mem_append_left _ hp_))).1)) ?_) ?_
                    · first | omega | (simp; omega)
                    rintro _ whs58 ⟨A59, c60, L161, rfl, hs58, ho62⟩
                    replace hs58 := hs55.callF hs58
                    refine ⟨_, rfl, ?_⟩
                    replace hs58 := St.back [_] hs58
                    refine WL.val rfl rfl rfl (Run.move rfl rfl) ?_
                    refine WL.val rfl rfl rfl (Run.extract rfl rfl rfl) ?_
                    refine WL.val rfl rfl rfl (Run.extract rfl rfl rfl) ?_
                    refine WL.val rfl rfl rfl (Run.assign rfl rfl) ?_
                    refine WL.val rfl rfl rfl (Run.assign rfl rfl) ?_
                    refine WL.nil ?_
                    refine tkN ?_
                    refine hK57 _ _ ?_
                    clear hK57
                    refine WC.seq (fun K63 hK63 => ?_)
                    refine WC.seq (fun K64 hK64 => ?_)
                    refine WC.region ?_
                    refine WL.val rfl rfl rfl (Run.move rfl rfl) ?_
                    refine WL.val rfl rfl rfl (Run.not rfl rfl) ?_
                    refine WL.nil ?_
                    refine tkN ?_
                    refine hK64 _ _ ?_
                    clear hK64
                    refine WC.cond rfl (fun h65 => ?_) (fun h65 => ?_)
                    · have qh65 := h65
                      try simp only [decide_eq_true_eq, decide_eq_false_iff_not, Bool.not_eq_true', Bool.not_eq_false', Bool.and_eq_true, Bool.or_eq_false_iff, within_iff, within_not] at qh65
                      have hxs : t.set u ⟨(gat encNode t u).Pane, (gat encNode t u).Down, min (1) (sizeL t (u : Int).toNat w_ h_ - 2)⟩ = growOut t (atL t p).toNat u by_ w_ h_ := by
                        have hzb2 := hzb
                        rw [Int.toNat_natCast] at hzb2
                        have hsz : sizeL t (u : Int).toNat w_ h_ = sizeL t u w_ h_ := by rw [Int.toNat_natCast]
                        simp only [growOut, growFirst, hby', ← hz1, Int.toNat_natCast]
                        congr 2
                        omega
                      have hk : growOk t p down by_ w_ h_ = false := by
                        rw [← Bool.not_eq_true]; intro h_1
                        simp only [growOk, Bool.and_eq_true, decide_eq_true_eq] at h_1
                        have h_2 := h_1.2
                        rw [hu, Int.toNat_natCast, ← hxs] at h_2
                        rw [h_2] at h65
                        cases h65
                      refine WC.seq (fun K66 hK66 => ?_)
                      refine WC.region ?_
                      refine WL.val rfl rfl rfl (Run.assign rfl rfl) ?_
                      refine WL.val rfl rfl rfl (Run.assign rfl rfl) ?_
                      refine WL.nil ?_
                      refine tkN ?_
                      refine hK66 _ _ ?_
                      clear hK66
                      refine WC.ret ?_
                      refine tkR ?_
                      clear hK63
                      refine retV2 rfl (resV.tmp rfl) (resV.tmp rfl) ?_
                      rw [hk]
                      have hx_ := OwnF.eqOf (xs := growL t p down by_ w_ h_) (OwnF.nil encNode 62) (by simp [growL, hk])
                      rw [← hx_]
                      exact ⟨_, _, _, rfl, hs58.nil, (OwnF.nil encNode 62)⟩
                    · have qh65 := h65
                      try simp only [decide_eq_true_eq, decide_eq_false_iff_not, Bool.not_eq_true', Bool.not_eq_false', Bool.and_eq_true, Bool.or_eq_false_iff, within_iff, within_not] at qh65
                      have hxs : t.set u ⟨(gat encNode t u).Pane, (gat encNode t u).Down, min (1) (sizeL t (u : Int).toNat w_ h_ - 2)⟩ = growOut t (atL t p).toNat u by_ w_ h_ := by
                        have hzb2 := hzb
                        rw [Int.toNat_natCast] at hzb2
                        have hsz : sizeL t (u : Int).toNat w_ h_ = sizeL t u w_ h_ := by rw [Int.toNat_natCast]
                        simp only [growOut, growFirst, hby', ← hz1, Int.toNat_natCast]
                        congr 2
                        omega
                      have hk : growOk t p down by_ w_ h_ = true := by
                        simp only [growOk, Bool.and_eq_true, decide_eq_true_eq]
                        rw [hu, Int.toNat_natCast, ← hxs]
                        simp only [Bool.not_eq_false'] at h65
                        exact ⟨⟨⟨⟨hyes.1, hyes.2⟩, within_iff.2 hbb⟩, by omega⟩, h65⟩
                      refine WC.skip ?_
                      refine tkN ?_
                      refine hK63 _ _ ?_
                      clear hK63
                      refine WC.seq (fun K67 hK67 => ?_)
                      refine WC.region ?_
                      refine WL.val rfl rfl rfl (Run.move rfl rfl) ?_
                      refine WL.val rfl rfl rfl (Run.assign rfl rfl) ?_
                      refine WL.val rfl rfl rfl (Run.assign rfl rfl) ?_
                      refine WL.nil ?_
                      refine tkN ?_
                      refine hK67 _ _ ?_
                      clear hK67
                      refine WC.ret ?_
                      refine retV2 rfl (resV.tmp rfl) (resV.tmp rfl) ?_
                      rw [hk]
                      have hx_ := OwnF.eqOf (xs := growL t p down by_ w_ h_) ho56 (by rw [hxs, growL, if_pos hk, hu]; rfl)
                      rw [← hx_]
                      first | exact ⟨_, _, _, rfl, (St.keep1 (St.perm hs58 (L' := L54 ++ _) (perm_front (A := [_]) (perm_front (A := L161) (List.Perm.refl _))))), ho56⟩ | exact ⟨A48, c49, _, by rw [OwnF.len_ ho56], (St.keep1 (St.perm hs58 (L' := L54 ++ _) (perm_front (A := [_]) (perm_front (A := L161) (List.Perm.refl _))))), by rw [OwnF.len_ ho56]; exact ho56⟩
                  · have qh45 := h45
                    try simp only [decide_eq_true_eq, decide_eq_false_iff_not, Bool.not_eq_true', Bool.not_eq_false', Bool.and_eq_true, Bool.or_eq_false_iff, within_iff, within_not] at qh45
                    refine WC.skip ?_
                    refine tkN ?_
                    refine hK43 _ _ ?_
                    clear hK43
                    refine WC.seq (fun K68 hK68 => ?_)
                    refine WC.region ?_
                    refine WL.val rfl rfl rfl (Run.move rfl rfl) ?_
                    refine WL.call rfl rfl rfl (Run.call Try.call64 rfl rfl rfl) (c_spec_l13Copy _ _ _ _ _ (SlF.st0 f_t hs41) ?_) ?_
                    · first | assumption | rfl | omega
                    rintro _ whs69 ⟨A70, c71, L172, rfl, hs69, ho73⟩
                    replace hs69 := hs41.callF hs69
                    refine ⟨_, rfl, ?_⟩
                    replace hs69 := St.back [_] hs69
                    refine WL.val rfl rfl rfl (Run.assign rfl rfl) ?_
                    refine WL.nil ?_
                    refine tkN ?_
                    refine hK68 _ _ ?_
                    clear hK68
                    refine WC.seq (fun K74 hK74 => ?_)
                    refine WC.region ?_
                    refine WL.val rfl rfl rfl (Run.move rfl rfl) ?_
                    refine WL.val rfl rfl rfl (Run.move rfl rfl) ?_
                    refine WL.val rfl rfl rfl (Run.move rfl rfl) ?_
                    refine WL.val rfl rfl rfl (Run.move rfl rfl) ?_
                    refine WL.call rfl rfl rfl (Run.call Try.call82 rfl rfl rfl) (c_spec_l13First _ _ _ ?_) ?_
                    · first | assumption | rfl | omega
                    rintro _ whs75 ⟨rfl, hs75⟩
                    replace hs75 := hs69.call0 hs75
                    refine ⟨_, rfl, ?_⟩
                    refine WL.val rfl rfl rfl (Run.idxK (u) Try.runUnderlying25 Try.sizeOf62 rfl rfl rfl ?_ ?_ ?_) ?_
                    · exact SlF.some_ (SlF.ofOwn ho73 (fun p_ hp_ => (hs75.own p_ (List.mem_append_right [_] (List.mem_append_left _ hp_))).1))
                    · omega
                    · omega
                    refine WL.val rfl rfl rfl (Run.fieldO Try.runUnderlying62 rfl rfl rfl Try.sizeOf3 rfl) ?_
                    refine WL.storeF (x' := ⟨(gat encNode t u).Pane, (gat encNode t u).Down, min ((min (gat encNode t u).First (sizeL t (u : Int).toNat w_ h_ - 2)) + by_) (sizeL t (u : Int).toNat w_ h_ - 2)⟩) (St.perm hs75 (L' := L172 ++ _) (perm_front (A := [_]) (List.Perm.refl _))) ho73 Try.sizeOf3 rfl rfl rfl rfl rfl rfl rfl rfl rfl ?_ rfl (fun L76 whs77 hs77 ho78 _ => ?_)
                    · omega
                    replace hs77 := St.back [_] hs77
                    refine WL.nil ?_
                    refine tkN ?_
                    refine hK74 _ _ ?_
                    clear hK74
                    refine WC.seq (fun K79 hK79 => ?_)
                    refine WC.region ?_
                    refine WL.val rfl rfl rfl (Run.move rfl rfl) ?_
                    refine WL.val rfl rfl rfl (Run.move rfl rfl) ?_
                    refine WL.val rfl rfl rfl (Run.move rfl rfl) ?_
                    refine WL.call rfl rfl rfl (Run.call Try.call42 rfl rfl rfl) (c_spec_Places _ _ _ _ _ _ _ (SlF.ofOwn ho78 (fun p_ hp_ => (hs77.own p_ (List.mem_append_right [_] (List.mem_append_left _ hp_))).1)) ?_) ?_
                    · first | omega | (simp; omega)
                    rintro _ whs80 ⟨A81, c82, L183, rfl, hs80, ho84⟩
                    replace hs80 := hs77.callF hs80
                    refine ⟨_, rfl, ?_⟩
                    replace hs80 := St.back [_] hs80
                    refine WL.val rfl rfl rfl (Run.move rfl rfl) ?_
                    refine WL.val rfl rfl rfl (Run.extract rfl rfl rfl) ?_
                    refine WL.val rfl rfl rfl (Run.extract rfl rfl rfl) ?_
                    refine WL.val rfl rfl rfl (Run.assign rfl rfl) ?_
                    refine WL.val rfl rfl rfl (Run.assign rfl rfl) ?_
                    refine WL.nil ?_
                    refine tkN ?_
                    refine hK79 _ _ ?_
                    clear hK79
                    refine WC.seq (fun K85 hK85 => ?_)
                    refine WC.seq (fun K86 hK86 => ?_)
                    refine WC.region ?_
                    refine WL.val rfl rfl rfl (Run.move rfl rfl) ?_
                    refine WL.val rfl rfl rfl (Run.not rfl rfl) ?_
                    refine WL.nil ?_
                    refine tkN ?_
                    refine hK86 _ _ ?_
                    clear hK86
                    refine WC.cond rfl (fun h87 => ?_) (fun h87 => ?_)
                    · have qh87 := h87
                      try simp only [decide_eq_true_eq, decide_eq_false_iff_not, Bool.not_eq_true', Bool.not_eq_false', Bool.and_eq_true, Bool.or_eq_false_iff, within_iff, within_not] at qh87
                      have hxs : t.set u ⟨(gat encNode t u).Pane, (gat encNode t u).Down, min ((min (gat encNode t u).First (sizeL t (u : Int).toNat w_ h_ - 2)) + by_) (sizeL t (u : Int).toNat w_ h_ - 2)⟩ = growOut t (atL t p).toNat u by_ w_ h_ := by
                        have hzb2 := hzb
                        rw [Int.toNat_natCast] at hzb2
                        have hsz : sizeL t (u : Int).toNat w_ h_ = sizeL t u w_ h_ := by rw [Int.toNat_natCast]
                        simp only [growOut, growFirst, hby', ← hz1, Int.toNat_natCast]
                        congr 2
                        omega
                      have hk : growOk t p down by_ w_ h_ = false := by
                        rw [← Bool.not_eq_true]; intro h_1
                        simp only [growOk, Bool.and_eq_true, decide_eq_true_eq] at h_1
                        have h_2 := h_1.2
                        rw [hu, Int.toNat_natCast, ← hxs] at h_2
                        rw [h_2] at h87
                        cases h87
                      refine WC.seq (fun K88 hK88 => ?_)
                      refine WC.region ?_
                      refine WL.val rfl rfl rfl (Run.assign rfl rfl) ?_
                      refine WL.val rfl rfl rfl (Run.assign rfl rfl) ?_
                      refine WL.nil ?_
                      refine tkN ?_
                      refine hK88 _ _ ?_
                      clear hK88
                      refine WC.ret ?_
                      refine tkR ?_
                      clear hK85
                      refine retV2 rfl (resV.tmp rfl) (resV.tmp rfl) ?_
                      rw [hk]
                      have hx_ := OwnF.eqOf (xs := growL t p down by_ w_ h_) (OwnF.nil encNode 62) (by simp [growL, hk])
                      rw [← hx_]
                      exact ⟨_, _, _, rfl, hs80.nil, (OwnF.nil encNode 62)⟩
                    · have qh87 := h87
                      try simp only [decide_eq_true_eq, decide_eq_false_iff_not, Bool.not_eq_true', Bool.not_eq_false', Bool.and_eq_true, Bool.or_eq_false_iff, within_iff, within_not] at qh87
                      have hxs : t.set u ⟨(gat encNode t u).Pane, (gat encNode t u).Down, min ((min (gat encNode t u).First (sizeL t (u : Int).toNat w_ h_ - 2)) + by_) (sizeL t (u : Int).toNat w_ h_ - 2)⟩ = growOut t (atL t p).toNat u by_ w_ h_ := by
                        have hzb2 := hzb
                        rw [Int.toNat_natCast] at hzb2
                        have hsz : sizeL t (u : Int).toNat w_ h_ = sizeL t u w_ h_ := by rw [Int.toNat_natCast]
                        simp only [growOut, growFirst, hby', ← hz1, Int.toNat_natCast]
                        congr 2
                        omega
                      have hk : growOk t p down by_ w_ h_ = true := by
                        simp only [growOk, Bool.and_eq_true, decide_eq_true_eq]
                        rw [hu, Int.toNat_natCast, ← hxs]
                        simp only [Bool.not_eq_false'] at h87
                        exact ⟨⟨⟨⟨hyes.1, hyes.2⟩, within_iff.2 hbb⟩, by omega⟩, h87⟩
                      refine WC.skip ?_
                      refine tkN ?_
                      refine hK85 _ _ ?_
                      clear hK85
                      refine WC.seq (fun K89 hK89 => ?_)
                      refine WC.region ?_
                      refine WL.val rfl rfl rfl (Run.move rfl rfl) ?_
                      refine WL.val rfl rfl rfl (Run.assign rfl rfl) ?_
                      refine WL.val rfl rfl rfl (Run.assign rfl rfl) ?_
                      refine WL.nil ?_
                      refine tkN ?_
                      refine hK89 _ _ ?_
                      clear hK89
                      refine WC.ret ?_
                      refine retV2 rfl (resV.tmp rfl) (resV.tmp rfl) ?_
                      rw [hk]
                      have hx_ := OwnF.eqOf (xs := growL t p down by_ w_ h_) ho78 (by rw [hxs, growL, if_pos hk, hu]; rfl)
                      rw [← hx_]
                      first | exact ⟨_, _, _, rfl, (St.keep1 (St.perm hs80 (L' := L76 ++ _) (perm_front (A := [_]) (perm_front (A := L183) (List.Perm.refl _))))), ho78⟩ | exact ⟨A70, c71, _, by rw [OwnF.len_ ho78], (St.keep1 (St.perm hs80 (L' := L76 ++ _) (perm_front (A := [_]) (perm_front (A := L183) (List.Perm.refl _))))), by rw [OwnF.len_ ho78]; exact ho78⟩
                · have qh42 := h42
                  try simp only [decide_eq_true_eq, decide_eq_false_iff_not, Bool.not_eq_true', Bool.not_eq_false', Bool.and_eq_true, Bool.or_eq_false_iff, within_iff, within_not] at qh42
                  have hby' : growBy t (atL t p).toNat u by_ = -by_ := by rw [growBy, if_pos]; rw [hei]; omega
                  refine WC.region ?_
                  refine WL.val rfl rfl rfl (Run.move rfl rfl) ?_
                  refine WL.val rfl rfl rfl (Run.move rfl rfl) ?_
                  refine WL.val rfl rfl rfl (Run.sub rfl rfl rfl ?_) ?_
                  · constructor <;> omega
                  refine WL.val rfl rfl rfl (Run.assign rfl rfl) ?_
                  refine WL.nil ?_
                  refine tkN ?_
                  refine hK39 _ _ ?_
                  clear hK39
                  refine WC.seq (fun K90 hK90 => ?_)
                  refine WC.seq (fun K91 hK91 => ?_)
                  refine WC.region ?_
                  refine WL.val rfl rfl rfl (Run.move rfl rfl) ?_
                  refine WL.val rfl rfl rfl (Run.lss rfl rfl rfl) ?_
                  refine WL.nil ?_
                  refine tkN ?_
                  refine hK91 _ _ ?_
                  clear hK91
                  refine WC.cond rfl (fun h92 => ?_) (fun h92 => ?_)
                  · have qh92 := h92
                    try simp only [decide_eq_true_eq, decide_eq_false_iff_not, Bool.not_eq_true', Bool.not_eq_false', Bool.and_eq_true, Bool.or_eq_false_iff, within_iff, within_not] at qh92
                    refine WC.region ?_
                    refine WL.val rfl rfl rfl (Run.assign rfl rfl) ?_
                    refine WL.nil ?_
                    refine tkN ?_
                    refine hK90 _ _ ?_
                    clear hK90
                    refine WC.seq (fun K93 hK93 => ?_)
                    refine WC.region ?_
                    refine WL.val rfl rfl rfl (Run.move rfl rfl) ?_
                    refine WL.call rfl rfl rfl (Run.call Try.call64 rfl rfl rfl) (c_spec_l13Copy _ _ _ _ _ (SlF.st0 f_t hs41) ?_) ?_
                    · first | assumption | rfl | omega
                    rintro _ whs94 ⟨A95, c96, L197, rfl, hs94, ho98⟩
                    replace hs94 := hs41.callF hs94
                    refine ⟨_, rfl, ?_⟩
                    replace hs94 := St.back [_] hs94
                    refine WL.val rfl rfl rfl (Run.assign rfl rfl) ?_
                    refine WL.nil ?_
                    refine tkN ?_
                    refine hK93 _ _ ?_
                    clear hK93
                    refine WC.seq (fun K99 hK99 => ?_)
                    refine WC.region ?_
                    refine WL.val rfl rfl rfl (Run.move rfl rfl) ?_
                    refine WL.val rfl rfl rfl (Run.move rfl rfl) ?_
                    refine WL.val rfl rfl rfl (Run.move rfl rfl) ?_
                    refine WL.val rfl rfl rfl (Run.move rfl rfl) ?_
                    refine WL.call rfl rfl rfl (Run.call Try.call82 rfl rfl rfl) (c_spec_l13First _ _ _ ?_) ?_
                    · first | assumption | rfl | omega
                    rintro _ whs100 ⟨rfl, hs100⟩
                    replace hs100 := hs94.call0 hs100
                    refine ⟨_, rfl, ?_⟩
                    refine WL.val rfl rfl rfl (Run.idxK (u) Try.runUnderlying25 Try.sizeOf62 rfl rfl rfl ?_ ?_ ?_) ?_
                    · exact SlF.some_ (SlF.ofOwn ho98 (fun p_ hp_ => (hs100.own p_ (List.mem_append_right [_] (List.mem_append_left _ hp_))).1))
                    · omega
                    · omega
                    refine WL.val rfl rfl rfl (Run.fieldO Try.runUnderlying62 rfl rfl rfl Try.sizeOf3 rfl) ?_
                    refine WL.storeF (x' := ⟨(gat encNode t u).Pane, (gat encNode t u).Down, min (1) (sizeL t (u : Int).toNat w_ h_ - 2)⟩) (St.perm hs100 (L' := L197 ++ _) (perm_front (A := [_]) (List.Perm.refl _))) ho98 Try.sizeOf3 rfl rfl rfl rfl rfl rfl rfl rfl rfl ?_ rfl (fun L101 whs102 hs102 ho103 _ => ?_)
                    · omega
                    replace hs102 := St.back [_] hs102
                    refine WL.nil ?_
                    refine tkN ?_
                    refine hK99 _ _ ?_
                    clear hK99
                    refine WC.seq (fun K104 hK104 => ?_)
                    refine WC.region ?_
                    refine WL.val rfl rfl rfl (Run.move rfl rfl) ?_
                    refine WL.val rfl rfl rfl (Run.move rfl rfl) ?_
                    refine WL.val rfl rfl rfl (Run.move rfl rfl) ?_
                    refine WL.call rfl rfl rfl (Run.call Try.call42 rfl rfl rfl) (c_spec_Places _ _ _ _ _ _ _ (SlF.ofOwn ho103 (fun p_ hp_ => (hs102.own p_ (List.mem_append_right [_] (List.mem_append_left _ hp_))).1)) ?_) ?_
                    · first | omega | (simp; omega)
                    rintro _ whs105 ⟨A106, c107, L1108, rfl, hs105, ho109⟩
                    replace hs105 := hs102.callF hs105
                    refine ⟨_, rfl, ?_⟩
                    replace hs105 := St.back [_] hs105
                    refine WL.val rfl rfl rfl (Run.move rfl rfl) ?_
                    refine WL.val rfl rfl rfl (Run.extract rfl rfl rfl) ?_
                    refine WL.val rfl rfl rfl (Run.extract rfl rfl rfl) ?_
                    refine WL.val rfl rfl rfl (Run.assign rfl rfl) ?_
                    refine WL.val rfl rfl rfl (Run.assign rfl rfl) ?_
                    refine WL.nil ?_
                    refine tkN ?_
                    refine hK104 _ _ ?_
                    clear hK104
                    refine WC.seq (fun K110 hK110 => ?_)
                    refine WC.seq (fun K111 hK111 => ?_)
                    refine WC.region ?_
                    refine WL.val rfl rfl rfl (Run.move rfl rfl) ?_
                    refine WL.val rfl rfl rfl (Run.not rfl rfl) ?_
                    refine WL.nil ?_
                    refine tkN ?_
                    refine hK111 _ _ ?_
                    clear hK111
                    refine WC.cond rfl (fun h112 => ?_) (fun h112 => ?_)
                    · have qh112 := h112
                      try simp only [decide_eq_true_eq, decide_eq_false_iff_not, Bool.not_eq_true', Bool.not_eq_false', Bool.and_eq_true, Bool.or_eq_false_iff, within_iff, within_not] at qh112
                      have hxs : t.set u ⟨(gat encNode t u).Pane, (gat encNode t u).Down, min (1) (sizeL t (u : Int).toNat w_ h_ - 2)⟩ = growOut t (atL t p).toNat u by_ w_ h_ := by
                        have hzb2 := hzb
                        rw [Int.toNat_natCast] at hzb2
                        have hsz : sizeL t (u : Int).toNat w_ h_ = sizeL t u w_ h_ := by rw [Int.toNat_natCast]
                        simp only [growOut, growFirst, hby', ← hz1, Int.toNat_natCast]
                        congr 2
                        omega
                      have hk : growOk t p down by_ w_ h_ = false := by
                        rw [← Bool.not_eq_true]; intro h_1
                        simp only [growOk, Bool.and_eq_true, decide_eq_true_eq] at h_1
                        have h_2 := h_1.2
                        rw [hu, Int.toNat_natCast, ← hxs] at h_2
                        rw [h_2] at h112
                        cases h112
                      refine WC.seq (fun K113 hK113 => ?_)
                      refine WC.region ?_
                      refine WL.val rfl rfl rfl (Run.assign rfl rfl) ?_
                      refine WL.val rfl rfl rfl (Run.assign rfl rfl) ?_
                      refine WL.nil ?_
                      refine tkN ?_
                      refine hK113 _ _ ?_
                      clear hK113
                      refine WC.ret ?_
                      refine tkR ?_
                      clear hK110
                      refine retV2 rfl (resV.tmp rfl) (resV.tmp rfl) ?_
                      rw [hk]
                      have hx_ := OwnF.eqOf (xs := growL t p down by_ w_ h_) (OwnF.nil encNode 62) (by simp [growL, hk])
                      rw [← hx_]
                      exact ⟨_, _, _, rfl, hs105.nil, (OwnF.nil encNode 62)⟩
                    · have qh112 := h112
                      try simp only [decide_eq_true_eq, decide_eq_false_iff_not, Bool.not_eq_true', Bool.not_eq_false', Bool.and_eq_true, Bool.or_eq_false_iff, within_iff, within_not] at qh112
                      have hxs : t.set u ⟨(gat encNode t u).Pane, (gat encNode t u).Down, min (1) (sizeL t (u : Int).toNat w_ h_ - 2)⟩ = growOut t (atL t p).toNat u by_ w_ h_ := by
                        have hzb2 := hzb
                        rw [Int.toNat_natCast] at hzb2
                        have hsz : sizeL t (u : Int).toNat w_ h_ = sizeL t u w_ h_ := by rw [Int.toNat_natCast]
                        simp only [growOut, growFirst, hby', ← hz1, Int.toNat_natCast]
                        congr 2
                        omega
                      have hk : growOk t p down by_ w_ h_ = true := by
                        simp only [growOk, Bool.and_eq_true, decide_eq_true_eq]
                        rw [hu, Int.toNat_natCast, ← hxs]
                        simp only [Bool.not_eq_false'] at h112
                        exact ⟨⟨⟨⟨hyes.1, hyes.2⟩, within_iff.2 hbb⟩, by omega⟩, h112⟩
                      refine WC.skip ?_
                      refine tkN ?_
                      refine hK110 _ _ ?_
                      clear hK110
                      refine WC.seq (fun K114 hK114 => ?_)
                      refine WC.region ?_
                      refine WL.val rfl rfl rfl (Run.move rfl rfl) ?_
                      refine WL.val rfl rfl rfl (Run.assign rfl rfl) ?_
                      refine WL.val rfl rfl rfl (Run.assign rfl rfl) ?_
                      refine WL.nil ?_
                      refine tkN ?_
                      refine hK114 _ _ ?_
                      clear hK114
                      refine WC.ret ?_
                      refine retV2 rfl (resV.tmp rfl) (resV.tmp rfl) ?_
                      rw [hk]
                      have hx_ := OwnF.eqOf (xs := growL t p down by_ w_ h_) ho103 (by rw [hxs, growL, if_pos hk, hu]; rfl)
                      rw [← hx_]
                      first | exact ⟨_, _, _, rfl, (St.keep1 (St.perm hs105 (L' := L101 ++ _) (perm_front (A := [_]) (perm_front (A := L1108) (List.Perm.refl _))))), ho103⟩ | exact ⟨A95, c96, _, by rw [OwnF.len_ ho103], (St.keep1 (St.perm hs105 (L' := L101 ++ _) (perm_front (A := [_]) (perm_front (A := L1108) (List.Perm.refl _))))), by rw [OwnF.len_ ho103]; exact ho103⟩
                  · have qh92 := h92
                    try simp only [decide_eq_true_eq, decide_eq_false_iff_not, Bool.not_eq_true', Bool.not_eq_false', Bool.and_eq_true, Bool.or_eq_false_iff, within_iff, within_not] at qh92
                    refine WC.skip ?_
                    refine tkN ?_
                    refine hK90 _ _ ?_
                    clear hK90
                    refine WC.seq (fun K115 hK115 => ?_)
                    refine WC.region ?_
                    refine WL.val rfl rfl rfl (Run.move rfl rfl) ?_
                    refine WL.call rfl rfl rfl (Run.call Try.call64 rfl rfl rfl) (c_spec_l13Copy _ _ _ _ _ (SlF.st0 f_t hs41) ?_) ?_
                    · first | assumption | rfl | omega
                    rintro _ whs116 ⟨A117, c118, L1119, rfl, hs116, ho120⟩
                    replace hs116 := hs41.callF hs116
                    refine ⟨_, rfl, ?_⟩
                    replace hs116 := St.back [_] hs116
                    refine WL.val rfl rfl rfl (Run.assign rfl rfl) ?_
                    refine WL.nil ?_
                    refine tkN ?_
                    refine hK115 _ _ ?_
                    clear hK115
                    refine WC.seq (fun K121 hK121 => ?_)
                    refine WC.region ?_
                    refine WL.val rfl rfl rfl (Run.move rfl rfl) ?_
                    refine WL.val rfl rfl rfl (Run.move rfl rfl) ?_
                    refine WL.val rfl rfl rfl (Run.move rfl rfl) ?_
                    refine WL.val rfl rfl rfl (Run.move rfl rfl) ?_
                    refine WL.call rfl rfl rfl (Run.call Try.call82 rfl rfl rfl) (c_spec_l13First _ _ _ ?_) ?_
                    · first | assumption | rfl | omega
                    rintro _ whs122 ⟨rfl, hs122⟩
                    replace hs122 := hs116.call0 hs122
                    refine ⟨_, rfl, ?_⟩
                    refine WL.val rfl rfl rfl (Run.idxK (u) Try.runUnderlying25 Try.sizeOf62 rfl rfl rfl ?_ ?_ ?_) ?_
                    · exact SlF.some_ (SlF.ofOwn ho120 (fun p_ hp_ => (hs122.own p_ (List.mem_append_right [_] (List.mem_append_left _ hp_))).1))
                    · omega
                    · omega
                    refine WL.val rfl rfl rfl (Run.fieldO Try.runUnderlying62 rfl rfl rfl Try.sizeOf3 rfl) ?_
                    refine WL.storeF (x' := ⟨(gat encNode t u).Pane, (gat encNode t u).Down, min ((min (gat encNode t u).First (sizeL t (u : Int).toNat w_ h_ - 2)) - by_) (sizeL t (u : Int).toNat w_ h_ - 2)⟩) (St.perm hs122 (L' := L1119 ++ _) (perm_front (A := [_]) (List.Perm.refl _))) ho120 Try.sizeOf3 rfl rfl rfl rfl rfl rfl rfl rfl rfl ?_ rfl (fun L123 whs124 hs124 ho125 _ => ?_)
                    · omega
                    replace hs124 := St.back [_] hs124
                    refine WL.nil ?_
                    refine tkN ?_
                    refine hK121 _ _ ?_
                    clear hK121
                    refine WC.seq (fun K126 hK126 => ?_)
                    refine WC.region ?_
                    refine WL.val rfl rfl rfl (Run.move rfl rfl) ?_
                    refine WL.val rfl rfl rfl (Run.move rfl rfl) ?_
                    refine WL.val rfl rfl rfl (Run.move rfl rfl) ?_
                    refine WL.call rfl rfl rfl (Run.call Try.call42 rfl rfl rfl) (c_spec_Places _ _ _ _ _ _ _ (SlF.ofOwn ho125 (fun p_ hp_ => (hs124.own p_ (List.mem_append_right [_] (List.mem_append_left _ hp_))).1)) ?_) ?_
                    · first | omega | (simp; omega)
                    rintro _ whs127 ⟨A128, c129, L1130, rfl, hs127, ho131⟩
                    replace hs127 := hs124.callF hs127
                    refine ⟨_, rfl, ?_⟩
                    replace hs127 := St.back [_] hs127
                    refine WL.val rfl rfl rfl (Run.move rfl rfl) ?_
                    refine WL.val rfl rfl rfl (Run.extract rfl rfl rfl) ?_
                    refine WL.val rfl rfl rfl (Run.extract rfl rfl rfl) ?_
                    refine WL.val rfl rfl rfl (Run.assign rfl rfl) ?_
                    refine WL.val rfl rfl rfl (Run.assign rfl rfl) ?_
                    refine WL.nil ?_
                    refine tkN ?_
                    refine hK126 _ _ ?_
                    clear hK126
                    refine WC.seq (fun K132 hK132 => ?_)
                    refine WC.seq (fun K133 hK133 => ?_)
                    refine WC.region ?_
                    refine WL.val rfl rfl rfl (Run.move rfl rfl) ?_
                    refine WL.val rfl rfl rfl (Run.not rfl rfl) ?_
                    refine WL.nil ?_
                    refine tkN ?_
                    refine hK133 _ _ ?_
                    clear hK133
                    refine WC.cond rfl (fun h134 => ?_) (fun h134 => ?_)
                    · have qh134 := h134
                      try simp only [decide_eq_true_eq, decide_eq_false_iff_not, Bool.not_eq_true', Bool.not_eq_false', Bool.and_eq_true, Bool.or_eq_false_iff, within_iff, within_not] at qh134
                      have hxs : t.set u ⟨(gat encNode t u).Pane, (gat encNode t u).Down, min ((min (gat encNode t u).First (sizeL t (u : Int).toNat w_ h_ - 2)) - by_) (sizeL t (u : Int).toNat w_ h_ - 2)⟩ = growOut t (atL t p).toNat u by_ w_ h_ := by
                        have hzb2 := hzb
                        rw [Int.toNat_natCast] at hzb2
                        have hsz : sizeL t (u : Int).toNat w_ h_ = sizeL t u w_ h_ := by rw [Int.toNat_natCast]
                        simp only [growOut, growFirst, hby', ← hz1, Int.toNat_natCast]
                        congr 2
                        omega
                      have hk : growOk t p down by_ w_ h_ = false := by
                        rw [← Bool.not_eq_true]; intro h_1
                        simp only [growOk, Bool.and_eq_true, decide_eq_true_eq] at h_1
                        have h_2 := h_1.2
                        rw [hu, Int.toNat_natCast, ← hxs] at h_2
                        rw [h_2] at h134
                        cases h134
                      refine WC.seq (fun K135 hK135 => ?_)
                      refine WC.region ?_
                      refine WL.val rfl rfl rfl (Run.assign rfl rfl) ?_
                      refine WL.val rfl rfl rfl (Run.assign rfl rfl) ?_
                      refine WL.nil ?_
                      refine tkN ?_
                      refine hK135 _ _ ?_
                      clear hK135
                      refine WC.ret ?_
                      refine tkR ?_
                      clear hK132
                      refine retV2 rfl (resV.tmp rfl) (resV.tmp rfl) ?_
                      rw [hk]
                      have hx_ := OwnF.eqOf (xs := growL t p down by_ w_ h_) (OwnF.nil encNode 62) (by simp [growL, hk])
                      rw [← hx_]
                      exact ⟨_, _, _, rfl, hs127.nil, (OwnF.nil encNode 62)⟩
                    · have qh134 := h134
                      try simp only [decide_eq_true_eq, decide_eq_false_iff_not, Bool.not_eq_true', Bool.not_eq_false', Bool.and_eq_true, Bool.or_eq_false_iff, within_iff, within_not] at qh134
                      have hxs : t.set u ⟨(gat encNode t u).Pane, (gat encNode t u).Down, min ((min (gat encNode t u).First (sizeL t (u : Int).toNat w_ h_ - 2)) - by_) (sizeL t (u : Int).toNat w_ h_ - 2)⟩ = growOut t (atL t p).toNat u by_ w_ h_ := by
                        have hzb2 := hzb
                        rw [Int.toNat_natCast] at hzb2
                        have hsz : sizeL t (u : Int).toNat w_ h_ = sizeL t u w_ h_ := by rw [Int.toNat_natCast]
                        simp only [growOut, growFirst, hby', ← hz1, Int.toNat_natCast]
                        congr 2
                        omega
                      have hk : growOk t p down by_ w_ h_ = true := by
                        simp only [growOk, Bool.and_eq_true, decide_eq_true_eq]
                        rw [hu, Int.toNat_natCast, ← hxs]
                        simp only [Bool.not_eq_false'] at h134
                        exact ⟨⟨⟨⟨hyes.1, hyes.2⟩, within_iff.2 hbb⟩, by omega⟩, h134⟩
                      refine WC.skip ?_
                      refine tkN ?_
                      refine hK132 _ _ ?_
                      clear hK132
                      refine WC.seq (fun K136 hK136 => ?_)
                      refine WC.region ?_
                      refine WL.val rfl rfl rfl (Run.move rfl rfl) ?_
                      refine WL.val rfl rfl rfl (Run.assign rfl rfl) ?_
                      refine WL.val rfl rfl rfl (Run.assign rfl rfl) ?_
                      refine WL.nil ?_
                      refine tkN ?_
                      refine hK136 _ _ ?_
                      clear hK136
                      refine WC.ret ?_
                      refine retV2 rfl (resV.tmp rfl) (resV.tmp rfl) ?_
                      rw [hk]
                      have hx_ := OwnF.eqOf (xs := growL t p down by_ w_ h_) ho125 (by rw [hxs, growL, if_pos hk, hu]; rfl)
                      rw [← hx_]
                      first | exact ⟨_, _, _, rfl, (St.keep1 (St.perm hs127 (L' := L123 ++ _) (perm_front (A := [_]) (perm_front (A := L1130) (List.Perm.refl _))))), ho125⟩ | exact ⟨A117, c118, _, by rw [OwnF.len_ ho125], (St.keep1 (St.perm hs127 (L' := L123 ++ _) (perm_front (A := [_]) (perm_front (A := L1130) (List.Perm.refl _))))), by rw [OwnF.len_ ho125]; exact ho125⟩
end Go.Proofs.Ytghcicggamkjgaa
