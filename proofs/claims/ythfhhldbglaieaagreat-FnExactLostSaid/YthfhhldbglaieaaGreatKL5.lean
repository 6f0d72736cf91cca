/-
  What the proof stands on, part 5.
-/
import Derived.Test.YthfhhldbglaieaaGreatKL4
namespace Go.Proofs.YthfhhldbglaieaaGreat
open Go Go.RowKit
set_option linter.unusedVariables false
set_option linter.unusedSimpArgs false
theorem built_71_3_4 (x0 : Int) (x1 : Int) : Tryz.prog.built 71 [(3, .int .i64 x0), (4, .int .i64 x1)] = some (List.toArray [.int .i64 0, .int .i64 0, .int .i64 0, .int .i64 x0, .int .i64 x1]) := by kernel_rfl
theorem k120_ (A_t : Option Addr) (n_t c_t : Nat) (t : List NodeD) (w_ : Int) (h_ : Int) (w : World) (f_t : SlF encNode w A_t n_t t) (hn : n_t ≤ 268435456) (hk : treeOk t = true) (hw : within w_ 1 120 = true) (hh : within h_ 1 120 = true) :
    Calls Tryz.prog 215 #[.slice A_t n_t c_t, i64 w_, i64 h_] w fun e w' => ∃ A c L1, e = .returned (.tuple #[.slice A ((putL (theT t) ⟨0, 0, 0, w_, h_⟩).1).length c, .bool (putL (theT t) ⟨0, 0, 0, w_, h_⟩).2]) ∧ St w [] L1 w' ∧ OwnF encRect 71 (.slice A ((putL (theT t) ⟨0, 0, 0, w_, h_⟩).1).length c) ((putL (theT t) ⟨0, 0, 0, w_, h_⟩).1) L1 := by
 have hl := f_t.len
 refine enter 20 Tryz.func215 rfl Tryz.ntmps215 rfl rfl ?_
 have hs1 := St.init w
 refine WC.sr (WL.bx hs1 rfl (fun b2 _ hs3 => WL.r 2 hs3 [] rfl (WL.nil (WC.sr (WL.buildF (F := encRect) hs3 ([]) Tryz.runUnderlying158 Tryz.sizeOf71 Tryz.zeroValue71 rfl rfl rfl rfl rfl rfl rfl rfl rfl rfl rfl rfl (fun A7 c8 L4 whs5 hs5 ho6 => ?_))))))
 replace hs5 := St.back [_] hs5
 refine WL.al hs5 Tryz.zeroValue158 rfl rfl (fun b9 _ hs10 => WL.al hs10 Tryz.zeroValue4 rfl rfl (fun b11 _ hs12 => WL.st tbk hs12 1 rfl rfl (fun _ hs13 => WL.st tbk hs13 0 rfl rfl (fun _ hs14 => WL.nil (WC.sr (WL.al hs14 Tryz.zeroValue272 rfl rfl (fun b15 _ hs16 => WL.nil ?_)))))))
 refine WC.sr (WL.val rfl rfl rfl (Run.makeFunc rfl rfl) (WL.st tbk hs16 0 rfl rfl (fun _ hs17 => WL.nil (WC.sr (WL.r 3 hs17 [0] rfl ?_)))))
 refine WL.val rfl rfl rfl (Run.build rfl rfl rfl rfl (built_71_3_4 _ _)) ?_
 replace hs17 := ((((hs17.fb b11).fb b9).fb b2).fb b15)
 have hF18 := St.front (L1 := (b9, _) :: (b11, _) :: L4) [_, _] hs17
 refine WL.call rfl rfl rfl (Run.callC Tryz.call263 rfl rfl rfl) (k119_ _ _ _ _ _ 0 _ _ _ _ _ (theT t) _ _ _ _ _ _ _ _ _ (SlF.st0 f_t hF18) (SlF.own1 (hs17.own _ (nthL_mem (i := 1) rfl)).1) (SlF.own1 (hs17.own _ (nthL_mem (i := 0) rfl)).1) ho6 (St.ownA hF18) (St.nodupL hF18) (St.sep hF18 f_t) (fun _ => St.sepOwn hF18 (List.mem_append_left _ (List.mem_cons_of_mem _ List.mem_cons_self))) (fun _ => St.sepOwn hF18 (List.mem_append_left _ List.mem_cons_self)) ?_ ?_ ?_ ?_ ?_) ?_
 · omega
 · rfl
 · exact (theT_at hk).1
 · exact fine0 hw hh
 · rw [(theT_at hk).2.1]; simp; omega
 rintro _ whs22 ⟨A19, c20, L21, rfl, hs22, ho23⟩
 replace hs22 := St.lend hF18 hs22
 replace hs22 := St.back [_, _] hs22
 simp only [List.cons_append, List.nil_append] at hs22
 refine ⟨_, rfl, WL.nil (WC.q1 hs22 [2, 3] rfl (fun _ hs24 => WC.ret (retV2 rfl (resV.tmp rfl) (resV.tmp rfl) ?_)))⟩
 have hx_ := OwnF.eqOf (xs := (putL (theT t) ⟨0, 0, 0, w_, h_⟩).1) ho23 (by simp)
 rw [← hx_]
 first | exact ⟨_, _, _, rfl, (St.keep1 (hs24.fr L21)), ho23⟩ | exact ⟨A19, c20, _, by rw [OwnF.len_ ho23], (St.keep1 (hs24.fr L21)), by rw [OwnF.len_ ho23]; exact ho23⟩
theorem k121_ (A_t : Option Addr) (n_t c_t : Nat) (t : List NodeD) (w_ : Int) (h_ : Int) (w : World) (f_t : SlF encNode w A_t n_t t) (hn : n_t ≤ 268435456) :
    Calls Tryz.prog 173 #[.slice A_t n_t c_t, i64 w_, i64 h_] w fun e w' => ∃ A c L1, e = .returned (.tuple #[.slice A (areasL t w_ h_).length c, .bool (placesOk t w_ h_)]) ∧ St w [] L1 w' ∧ OwnF encRect 71 (.slice A (areasL t w_ h_).length c) (areasL t w_ h_) L1 := by
 have hl := f_t.len
 refine enter 27 Tryz.func173 rfl Tryz.ntmps173 rfl rfl ?_
 have hs1 := St.init w
 refine WC.r1 hs1 [] rfl (WC.seq (fun K2 hK2 => WC.sr (WL.r 1 hs1 [] rfl ?_)))
 refine WL.cl Tryz.call106 rfl (k108_ _ _ _ _ _ (SlF.st0 f_t hs1) ?_) ?_
 · first | assumption | rfl | omega
 rintro _ whs3 ⟨rfl, hs3⟩
 replace hs3 := hs1.call0 hs3
 refine ⟨_, rfl, WL.r 2 hs3 [] rfl ?_⟩
 apply WL.gO 3 Acts.nil hs3 rfl
 ·intro g4 J5
  have qg4 := g4
  try simp only [bf, within_iff, within_not] at qg4
  refine WL.runA tbk 1 (Acts.nil.cons (j := 3) rfl g4) hs3 [] rfl trivial (WL.call (wantF rfl g4) rfl rfl (Run.call Tryz.call58 rfl rfl rfl) (k0_ _ _ _ _) ?_)
  rintro _ whs6 ⟨rfl, hs6⟩
  replace hs6 := hs3.call0 hs6
  refine ⟨_, rfl, WL.runA tbk 1 (Acts.nil.cons (j := 3) rfl g4) hs6 [] rfl trivial (WL.eO 3 Acts.nil J5 hs6 g4 rfl rfl)⟩
 intro _ hs7
 refine WL.r 1 hs7 [] rfl ?_
 apply WL.gO 3 Acts.nil hs7 rfl
 ·intro g8 J9
  have qg8 := g8
  try simp only [bf, within_iff, within_not] at qg8
  refine WL.runA tbk 1 (Acts.nil.cons (j := 8) rfl g8) hs7 [] rfl trivial (WL.call (wantF rfl g8) rfl rfl (Run.call Tryz.call58 rfl rfl rfl) (k0_ _ _ _ _) ?_)
  rintro _ whs10 ⟨rfl, hs10⟩
  replace hs10 := hs7.call0 hs10
  refine ⟨_, rfl, WL.runA tbk 1 (Acts.nil.cons (j := 8) rfl g8) hs10 [] rfl trivial (WL.eO 3 Acts.nil J9 hs10 g8 rfl rfl)⟩
 intro _ hs11
 refine WL.nil (WC.cq rfl (fun h12 qh12 => ?_) (fun h12 qh12 => ?_))
 ·have hk : sidesOk t w_ h_ = false := by
    rw [← Bool.not_eq_true]; intro h_1
    simp only [sidesOk, Bool.and_eq_true] at h_1
    simp [h_1] at h12
  refine WC.r1 hs11 [] rfl (WC.ret (tkR ?_))
  clear hK2
  refine retV2 rfl (resV.tmp rfl) (resV.tmp rfl) ?_
  rw [show placesOk t w_ h_ = false by simp [placesOk, hk]]
  have hx_ := OwnF.eqOf (xs := areasL t w_ h_) (OwnF.nil encRect 71) (by simp [areasL, hk])
  rw [← hx_]
  exact ⟨_, _, _, rfl, hs11.nil, (OwnF.nil encRect 71)⟩
 have hk : treeOk t = true ∧ within w_ 1 120 = true ∧ within h_ 1 120 = true := by simp at h12; exact ⟨h12.1.1, h12.1.2, h12.2⟩
 have hs : sidesOk t w_ h_ = true := by simp [sidesOk, hk]
 refine WC.skip (hK2 _ _ (WC.sr (WL.r 3 hs11 [] rfl ?_)))
 refine WL.cl Tryz.call215 rfl (k120_ _ _ _ _ _ _ _ (SlF.st0 f_t hs11) ?_ ?_ ?_ ?_) ?_
 · omega
 · exact hk.1
 · exact hk.2.1
 · exact hk.2.2
 rintro _ whs13 ⟨A14, c15, L1_16, rfl, hs13, ho17⟩
 replace hs13 := hs11.callF hs13
 refine ⟨_, rfl, WL.r 4 hs13 [] rfl (WL.nil (WC.ret (retV2 rfl (resV.tmp rfl) (resV.tmp rfl) ?_)))⟩
 rw [show placesOk t w_ h_ = (putL (theT t) ⟨0, 0, 0, w_, h_⟩).2 by simp [placesOk, hs, put_eq hk.1]]
 have hx_ := OwnF.eqOf (xs := areasL t w_ h_) ho17 (by simp [areasL, hs])
 rw [← hx_]
 first | exact ⟨_, _, _, rfl, (St.keep1 hs13), ho17⟩ | exact ⟨A14, c15, _, by rw [OwnF.len_ ho17], (St.keep1 hs13), by rw [OwnF.len_ ho17]; exact ho17⟩
theorem k122_ (r_Pane : Int) (r_X : Int) (r_Y : Int) (r_W : Int) (r_H : Int) (w : World) :
    Calls Tryz.prog 175 #[.agg #[i64 r_Pane, i64 r_X, i64 r_Y, i64 r_W, i64 r_H]] w fun e w' => e = .returned (.bool (decide (r_Pane = 0))) ∧ St w [] [] w' := by
 refine enter 6 Tryz.func175 rfl Tryz.ntmps175 rfl rfl ?_
 have hs1 := St.init w
 refine WC.sr (WL.bx hs1 rfl (fun b2 _ hs3 => WL.r 1 hs3 [] rfl (WL.nil (WC.r1 hs3 [0] rfl (WC.ret (rtv rfl rfl hs3 ?_))))))
 rfl
theorem k123_ (A_s : Option Addr) (n_s c_s : Nat) (s : List RectD) (w : World) (f_s : SlF encRect w A_s n_s s) (hn : n_s ≤ 1099511627776) :
    Calls Tryz.prog 113 #[.slice A_s n_s c_s, .func (.func 175) #[] #[]] w fun e w' => e = .returned (.int .i64 (findI (fun r : RectD => decide (r.Pane = 0)) s)) ∧ St w [] [] w' := by
 refine enter 19 Tryz.func113 rfl Tryz.ntmps113 rfl rfl ?_
 have hs1 := St.init w
 refine WC.r1 hs1 [] rfl (WC.seq (fun K2 hK2 => WC.r1 hs1 [] rfl (WC.block ?_)))
 refine WC.lS [0, 1, 7] rfl hs1 (fun k_ f w' => ∃ (i : Nat), k_ = n_s - i ∧ (i ≤ n_s) ∧ (∀ j, j < i → (fun r : RectD => decide (r.Pane = 0)) (gat encRect s j) = false) ∧ Sub [(8, .int .i64 i)] f) ((fun (i : Nat) => n_s - i) (0)) ?_ ?_
 ·refine ⟨0, rfl, ?_, ?_, ⟨rfl, trivial⟩⟩
  · exact Nat.zero_le _
  · exact fun j hj => absurd hj (by omega)
 clear hs1
 rintro _ f w ⟨i, rfl, p0, p1, hG⟩ hF hs3
 refine WC.sub _ (hG.app hF) ?_
 clear hG hF
 refine WC.r1 hs3 [] rfl (WC.seq (fun K4 hK4 => ?_))
 refine WC.cond rfl (fun h5 => ?_) (fun h5 => ?_)
 ·have qh5 := h5
  try simp only [decide_eq_true_eq, decide_eq_false_iff_not] at qh5
  refine WC.skip (hK4 _ _ (WC.seq (fun K6 hK6 => WC.block (WC.r1 hs3 [] rfl (WC.sr (WL.r 3 hs3 [] rfl ?_))))))
  refine WL.val rfl rfl rfl (Run.idxN Tryz.runUnderlying158 Tryz.sizeOf71 rfl rfl rfl ?_ ?_ ?_) ?_
  · exact SlF.some_ (SlF.st0 f_s hs3)
  · omega
  · omega
  refine WL.val rfl rfl rfl (Run.loadA Tryz.isAgg71 Tryz.sizeOf71 rfl rfl (SlF.whole (SlF.st0 f_s hs3) ?_)) ?_
  · omega
  refine WL.cl Tryz.call175 rfl (k122_ _ _ _ _ _ _) ?_
  rintro _ whs7 ⟨rfl, hs7⟩
  replace hs7 := hs3.call0 hs7
  refine ⟨_, rfl, WL.nil (WC.cond rfl (fun h8 => ?_) (fun h8 => ?_))⟩
  ·have qh8 := h8
   try simp only [decide_eq_true_eq, decide_eq_false_iff_not] at qh8
   refine WC.r1 hs7 [] rfl (WC.ret (ibR (tkR (tkR (ibR (tkR ?_))))))
   clear hK6 hK2
   refine rtv rfl rfl hs7 ?_
   rw [findI_some (F := encRect) (by rw [f_s.len]; omega) p1 h8]
  have qh8 := h8
  try simp only [decide_eq_true_eq, decide_eq_false_iff_not] at qh8
  refine WC.skip (hK6 _ _ (WC.region (WL.r 2 hs7 [] rfl (WL.nil (tkN ?_)))))
  refine ⟨sbF rfl, hs7, _, ?_, i + 1, rfl, ?_, ?_, ⟨rfl, trivial⟩⟩
  · omega
  · omega
  · intro j hj; rcases Nat.lt_or_ge j i with h_ | h_
    · exact p1 j h_
    · obtain rfl : j = i := by omega
      exact h8
 have qh5 := h5
 try simp only [decide_eq_true_eq, decide_eq_false_iff_not] at qh5
 refine WC.exit (hK2 _ _ (WC.r1 hs3 [] rfl (WC.ret (rtv rfl rfl hs3 ?_))))
 rw [findI_none (F := encRect) (fun j hj => p1 j (by rw [f_s.len] at hj; omega))]
theorem k124_ (v_s : Value) (s : List RectD) (L_s : Hp) (w : World) (o_s : OwnF encRect 71 v_s s L_s) (h_s : Hh w L_s) (hn : s.length ≤ 268435456) :
    Calls Tryz.prog 174 #[v_s, .func (.func 175) #[] #[]] w fun e w' => ∃ A c L1, e = .returned (.slice A (s.filter (fun r : RectD => !decide (r.Pane = 0))).length c) ∧ St w (L_s.map (·.1)) L1 w' ∧ OwnF encRect 71 (.slice A (s.filter (fun r : RectD => !decide (r.Pane = 0))).length c) (s.filter (fun r : RectD => !decide (r.Pane = 0))) L1 := by
 obtain ⟨A_s, c_s, rfl⟩ := o_s.shape
 refine enter 42 Tryz.func174 rfl Tryz.ntmps174 rfl rfl ?_
 have hs1 := St.lent1 w L_s o_s h_s
 refine WC.r1 hs1 [] rfl (WC.sr (WL.r 2 hs1 [] rfl (WL.cl Tryz.call113 rfl (k123_ _ _ _ _ _ (SlF.ofOwn o_s (hs1.ow L_s)) ?_) ?_)))
 · first | assumption | rfl | omega
 rintro _ whs2 ⟨rfl, hs2⟩
 replace hs2 := hs1.call0 hs2
 refine ⟨_, rfl, WL.r 1 hs2 [] rfl (WL.nil (WC.seq (fun K3 hK3 => WC.r1 hs2 [] rfl ?_)))⟩
 refine WC.cq rfl (fun h4 qh4 => ?_) (fun h4 qh4 => ?_)
 ·have hall : s.filter (fun r : RectD => !decide (r.Pane = 0)) = s := by
    rcases findI_cases (p := fun r : RectD => decide (r.Pane = 0)) (xs := s) with ⟨_, h1_⟩ | ⟨i1, _, h1_, _⟩
    · exact filter_none h1_
    · omega
  refine WC.r1 hs2 [] rfl (WC.ret (tkR ?_))
  clear hK3
  refine retV1 rfl (resV.tmp rfl) ?_
  have hx_ := OwnF.eqOf (xs := s.filter (fun r : RectD => !decide (r.Pane = 0))) o_s (by rw [hall])
  rw [← hx_]
  first | exact ⟨_, _, _, rfl, (St.keep1 hs2), o_s⟩ | exact ⟨A_s, c_s, _, by rw [OwnF.len_ o_s], (St.keep1 hs2), by rw [OwnF.len_ o_s]; exact o_s⟩
 obtain ⟨i0, hi0, hf0, hp0, hb0⟩ : ∃ i0 : Nat, ∃ hi : i0 < s.length, findI (fun r : RectD => decide (r.Pane = 0)) s = (i0 : Int) ∧ decide (s[i0].Pane = 0) = true ∧ ∀ j (hj : j < i0), decide ((s[j]'(by omega)).Pane = 0) = false := by
   rcases findI_cases (p := fun r : RectD => decide (r.Pane = 0)) (xs := s) with ⟨h1_, _⟩ | ⟨i1, hi, h1_, h2_, h3_⟩
   · omega
   · exact ⟨i1, hi, h1_, h2_, h3_⟩
 rw [hf0]
 have hinit : s.take i0 = (s.take (i0 + 1)).filter (fun r : RectD => !decide (r.Pane = 0)) := by
   rw [filter_take (F := encRect) hi0]
   have hg : gat encRect s i0 = s[i0] := by have e_ := gat_get (F := encRect) hi0; rw [List.getElem?_eq_getElem hi0] at e_; exact (Option.some.inj e_).symm
   rw [if_neg (by rw [hg]; simpa using hp0), List.append_nil, filter_none]
   intro x hx
   obtain ⟨j, hj, rfl⟩ := List.mem_iff_getElem.1 hx
   rw [List.length_take] at hj
   rw [List.getElem_take]
   exact hb0 j (by omega)
 refine WC.skip (hK3 _ _ (WC.seq (fun K5 hK5 => WC.r1 hs2 [] rfl (WC.block ?_))))
 refine WC.lO [1, 4, 12] rfl hs2 (fun k_ f L_ => ∃ (zs : List RectD) (i j : Nat), k_ = s.length - j ∧ (i < j) ∧ (j ≤ s.length) ∧ (zs.length = s.length) ∧ (zs.take i = (s.take j).filter (fun r : RectD => !decide (r.Pane = 0))) ∧ (∀ k, j ≤ k → gat encRect zs k = gat encRect s k) ∧ OwnF encRect 71 (.slice A_s (s.length) c_s) (zs) L_ ∧ Sub [(0, .slice A_s (s.length) c_s), (5, .int .i64 i), (6, .int .i64 j)] f) (((fun (zs : List RectD) (i j : Nat) => s.length - j) (s) (i0) ((i0 + 1)))) ?_ ?_
 ·refine ⟨s, i0, (i0 + 1), rfl, ?_, ?_, ?_, ?_, ?_, o_s, ⟨rfl, rfl, rfl, trivial⟩⟩
  · omega
  · omega
  · rfl
  · exact hinit
  · exact fun k _ => rfl
 clear hs2
 rintro _ f w L8 ⟨zs, i, j, rfl, p0, p1, p2, p3, p4, ho9, hG⟩ hF hs10
 refine WC.sub _ (hG.app hF) ?_
 clear hG hF
 refine WC.seq (fun K11 hK11 => WC.r1 hs10 [] rfl ?_)
 refine WC.cq rfl (fun h12 qh12 => ?_) (fun h12 qh12 => ?_)
 ·refine WC.skip (hK11 _ _ (WC.seq (fun K13 hK13 => WC.block (WC.sr (WL.r 2 hs10 [] rfl ?_)))))
  refine WL.val rfl rfl rfl (Run.idxN Tryz.runUnderlying158 Tryz.sizeOf71 rfl rfl rfl ?_ ?_ ?_) ?_
  · exact SlF.some_ (SlF.ofOwn ho9 (hs10.ow L8))
  · omega
  · omega
  refine WL.val rfl rfl rfl (Run.loadA Tryz.isAgg71 Tryz.sizeOf71 rfl rfl (SlF.whole (SlF.ofOwn ho9 (hs10.ow L8)) ?_)) ?_
  · omega
  refine WL.al hs10 Tryz.zeroValue71 rfl rfl (fun b14 _ hs15 => WL.st tbk hs15 0 rfl rfl (fun _ hs16 => WL.nil (WC.sr (WL.r 2 hs16 [0] rfl (WL.cl Tryz.call175 rfl (k122_ _ _ _ _ _ _) ?_)))))
  rintro _ whs17 ⟨rfl, hs17⟩
  replace hs17 := hs16.call0 hs17
  refine ⟨_, rfl, WL.r 1 hs17 [] rfl (WL.nil (WC.cq rfl (fun h18 qh18 => ?_) (fun h18 qh18 => ?_)))⟩
  ·refine WC.sr (WL.r 3 hs17 [0] rfl (WL.val rfl rfl rfl (Run.idxN Tryz.runUnderlying158 Tryz.sizeOf71 rfl rfl rfl ?_ ?_ ?_) ?_))
   · exact SlF.some_ (SlF.ofOwn ho9 (hs17.ow L8))
   · omega
   · omega
   refine WL.storeF1 (x' := (gat encRect zs j)) (hs17.fr L8) ho9 Tryz.sizeOf71 rfl rfl rfl rfl rfl rfl rfl rfl rfl ?_ rfl (fun L19 whs20 hs20 ho21 _ => ?_)
   · omega
   replace hs20 := St.back [_] hs20
   refine WL.nil (WC.region (WL.r 3 hs20 [] rfl (WL.nil (hK13 _ _ (WC.region (WL.r 3 hs20 [] rfl (WL.nil ?_)))))))
   refine tkN ?_
   replace hs20 := hs20.d1
   refine ⟨sbF rfl, _, hs20, _, ?_, _, (i + 1), (j + 1), rfl, ?_, ?_, ?_, ?_, ?_, ho21, ⟨rfl, rfl, rfl, trivial⟩⟩
   · omega
   · omega
   · omega
   · first | omega | (rw [List.length_set]; omega)
   · first | (rw [set_take (by omega), p3, filter_take (F := encRect) (by omega), if_pos (by rw [← p4 j (Nat.le_refl _)]; simpa using h18), p4 j (Nat.le_refl _)]) | (rw [p3, filter_take (F := encRect) (by omega), if_neg (by rw [← p4 j (Nat.le_refl _)]; simpa using h18), List.append_nil])
   · intro k hk; first | (rw [gat_set_ne (by omega)]; exact p4 k (by omega)) | exact p4 k (by omega)
  refine WC.skip (hK13 _ _ (WC.region (WL.r 3 hs17 [] rfl (WL.nil (tkN ?_)))))
  replace hs17 := hs17.d1
  refine ⟨sbF rfl, _, hs17, _, ?_, _, i, (j + 1), rfl, ?_, ?_, ?_, ?_, ?_, ho9, ⟨rfl, rfl, rfl, trivial⟩⟩
  · omega
  · omega
  · omega
  · first | omega | (rw [List.length_set]; omega)
  · first | (rw [set_take (by omega), p3, filter_take (F := encRect) (by omega), if_pos (by rw [← p4 j (Nat.le_refl _)]; simpa using h18), p4 j (Nat.le_refl _)]) | (rw [p3, filter_take (F := encRect) (by omega), if_neg (by rw [← p4 j (Nat.le_refl _)]; simpa using h18), List.append_nil])
  · intro k hk; first | (rw [gat_set_ne (by omega)]; exact p4 k (by omega)) | exact p4 k (by omega)
 refine WC.exit (hK5 _ _ (WC.sr (WL.r 2 hs10 [] rfl ?_)))
 have hc_ := OwnF.cap ho9
 refine WL.val rfl rfl rfl (Run.sliceL (i) Tryz.runUnderlying158 Tryz.sizeOf71 rfl rfl rfl ?_ ?_) ?_
 · first | rfl | (omega)
 · refine ⟨?_, ?_, ?_⟩ <;> (omega)
 refine WL.clearF (lo := i) hs10 ho9 Tryz.underlying158 Tryz.zeroValue71 rfl rfl rfl rfl rfl ?_ (fun L22 whs23 hs23 ho24 _ => ?_)
 · omega
 refine WL.nil (WC.sr (WL.r 2 hs23 [] rfl ?_))
 have ho25 := OwnF.take (k := i) ho24 (by omega)
 have hcho25 := OwnF.cap ho25
 refine WL.val rfl rfl rfl (Run.sliceH0 (i) Tryz.runUnderlying158 Tryz.sizeOf71 rfl rfl rfl ?_ ?_) ?_
 · first | rfl | (omega)
 · first | (exact Nat.zero_le _) | (omega)
 refine WL.r 1 hs23 [] rfl (WL.nil (WC.ret (retV1 rfl (resV.tmp rfl) ?_)))
 have hx_ := OwnF.eqOf (xs := s.filter (fun r : RectD => !decide (r.Pane = 0))) ho25 (by first | (rw [List.take_left' (by rw [List.length_take]; omega), p3, List.take_of_length_le (by omega)]) | (rw [List.take_append_of_le_length (by rw [List.length_take]; omega), List.take_take, Nat.min_self, p3, List.take_of_length_le (by omega)]))
 rw [← hx_]
 first | exact ⟨_, _, _, rfl, (St.keep1 hs23), ho25⟩ | exact ⟨A_s, c_s, _, by rw [OwnF.len_ ho25], (St.keep1 hs23), by rw [OwnF.len_ ho25]; exact ho25⟩
theorem k125_ (A_t : Option Addr) (n_t c_t : Nat) (t : List NodeD) (w_ : Int) (h_ : Int) (w : World) (f_t : SlF encNode w A_t n_t t) (hn : n_t ≤ 268435456) :
    Calls Tryz.prog 112 #[.slice A_t n_t c_t, i64 w_, i64 h_] w fun e w' => ∃ A c L1, e = .returned (.tuple #[.slice A (placesL t w_ h_).length c, .bool (placesOk t w_ h_)]) ∧ St w [] L1 w' ∧ OwnF encRect 71 (.slice A (placesL t w_ h_).length c) (placesL t w_ h_) L1 := by
 have hal := areasL_len t w_ h_
 refine enter 21 Tryz.func112 rfl Tryz.ntmps112 rfl rfl ?_
 have hs1 := St.init w
 refine WC.r1 hs1 [] rfl (WC.sr (WL.r 3 hs1 [] rfl (WL.cl Tryz.call173 rfl (k121_ _ _ _ _ _ _ _ (SlF.st0 f_t hs1) ?_) ?_)))
 · first | assumption | rfl | omega
 rintro _ whs2 ⟨A3, c4, L1_5, rfl, hs2, ho6⟩
 replace hs2 := hs1.callF hs2
 refine ⟨_, rfl, WL.r 5 hs2 [] rfl (WL.nil (WC.seq (fun K7 hK7 => WC.r1 hs2 [] rfl ?_)))⟩
 refine WC.cq rfl (fun h8 qh8 => ?_) (fun h8 qh8 => ?_)
 ·have hk : placesOk t w_ h_ = false := by simpa using h8
  refine WC.r1 hs2 [] rfl (WC.ret (tkR ?_))
  clear hK7
  refine retV2 rfl (resV.tmp rfl) (resV.tmp rfl) ?_
  rw [hk]
  have hx_ := OwnF.eqOf (xs := placesL t w_ h_) (OwnF.nil encRect 71) (by simp [placesL, hk])
  rw [← hx_]
  exact ⟨_, _, _, rfl, hs2.nil, (OwnF.nil encRect 71)⟩
 have hk : placesOk t w_ h_ = true := by simpa using h8
 have haf := areas_filter hk
 refine WC.skip (hK7 _ _ (WC.sr (WL.r 1 hs2 [] rfl ?_)))
 refine WL.cl Tryz.call174 rfl (k124_ _ _ _ _ ho6 (hs2.ow L1_5) ?_) ?_
 · first | assumption | rfl | omega
 rintro _ whs9 ⟨A10, c11, L1_12, rfl, hs9, ho13⟩
 replace hs9 := St.lend hs2 hs9
 refine ⟨_, rfl, WL.r 2 hs9 [] rfl (WL.nil (WC.ret (retV2 rfl (resV.tmp rfl) (resV.tmp rfl) ?_)))⟩
 rw [hk]
 have hx_ := OwnF.eqOf (xs := placesL t w_ h_) ho13 (by rw [haf])
 rw [← hx_]
 first | exact ⟨_, _, _, rfl, (St.keep1 hs9), ho13⟩ | exact ⟨A10, c11, _, by rw [OwnF.len_ ho13], (St.keep1 hs9), by rw [OwnF.len_ ho13]; exact ho13⟩
theorem k126_ (A_t : Option Addr) (n_t c_t : Nat) (t : List NodeD) (w_ : Int) (h_ : Int) (w : World) (f_t : SlF encNode w A_t n_t t) (hn : n_t ≤ 268435456) :
    Calls Tryz.prog 111 #[.slice A_t n_t c_t, i64 w_, i64 h_] w fun e w' => ∃ A c L1, e = .returned (.tuple #[.slice A (placesL t w_ h_).length c, .bool (placesOk t w_ h_)]) ∧ St w [] L1 w' ∧ OwnF encRect 71 (.slice A (placesL t w_ h_).length c) (placesL t w_ h_) L1 := by
 have hl := f_t.len
 refine enter 40 Tryz.func111 rfl Tryz.ntmps111 rfl rfl ?_
 have hs1 := St.init w
 refine WC.r1 hs1 [] rfl (WC.seq (fun K2 hK2 => WC.sr (WL.r 1 hs1 [] rfl ?_)))
 refine WL.cl Tryz.call101 rfl (k104_ _ _ _ _ _ (SlF.st0 f_t hs1) ?_) ?_
 · first | assumption | rfl | omega
 rintro _ whs3 ⟨rfl, hs3⟩
 replace hs3 := hs1.call0 hs3
 refine ⟨_, rfl, WL.r 2 hs3 [] rfl (WL.pO tbk 2 Acts.nil hs3 [] rfl rfl rfl rfl (fun g_ => trivial) (WL.r 1 hs3 [] rfl (WL.pO tbk 2 Acts.nil hs3 [] rfl rfl rfl rfl (fun g_ => trivial) (WL.r 1 hs3 [] rfl (WL.pO tbk 2 Acts.nil hs3 [] rfl rfl rfl rfl (fun g_ => trivial) (WL.r 1 hs3 [] rfl ?_))))))⟩
 refine WL.pO tbk 2 Acts.nil hs3 [] rfl rfl rfl rfl (fun g_ => trivial) (WL.nil (WC.cq rfl (fun h4 qh4 => ?_) (fun h4 qh4 => ?_)))
 ·have hk : placesOk t w_ h_ = false := by
    rw [← Bool.not_eq_true]; intro h_1
    simp only [placesOk, sidesOk, Bool.and_eq_true, within_iff] at h_1
    obtain ⟨⟨⟨a1_, a2_⟩, a3_⟩, _⟩ := h_1
    simp only [a1_, Bool.not_true, Bool.false_or, Bool.or_eq_true, decide_eq_true_eq] at h4; omega
  refine WC.r1 hs3 [] rfl (WC.ret (tkR ?_))
  clear hK2
  refine retV2 rfl (resV.tmp rfl) (resV.tmp rfl) ?_
  rw [hk]
  have hx_ := OwnF.eqOf (xs := placesL t w_ h_) (OwnF.nil encRect 71) (by simp [placesL, hk])
  rw [← hx_]
  exact ⟨_, _, _, rfl, hs3.nil, (OwnF.nil encRect 71)⟩
 have hs : treeOk t = true ∧ within w_ 1 120 = true ∧ within h_ 1 120 = true := by
   simp only [Bool.or_eq_false_iff, Bool.not_eq_false', decide_eq_false_iff_not] at h4
   exact ⟨h4.1.1.1.1, within_iff.2 ⟨by omega, by omega⟩, within_iff.2 ⟨by omega, by omega⟩⟩
 have hso : sidesOk t w_ h_ = true := by simp [sidesOk, hs]
 refine WC.skip (hK2 _ _ (WC.sr (WL.r 3 hs3 [] rfl ?_)))
 refine WL.val rfl rfl rfl (Run.build rfl rfl rfl rfl (built_71_3_4 _ _)) (WL.cl Tryz.call172 rfl (k117_ _ _ _ _ _ 0 _ _ _ _ _ (theT t) _ (SlF.st0 f_t hs3) ?_ ?_ ?_ ?_) ?_)
 · omega
 · rfl
 · exact (theT_at hs.1).1
 · exact fine0 hs.2.1 hs.2.2
 rintro _ whs5 ⟨A6, c7, L1_8, rfl, hs5, ho9⟩
 replace hs5 := hs3.callF hs5
 refine ⟨_, rfl, WL.r 5 hs5 [] rfl (WL.nil (WC.seq (fun K10 hK10 => WC.r1 hs5 [] rfl ?_)))⟩
 refine WC.cq rfl (fun h11 qh11 => ?_) (fun h11 qh11 => ?_)
 ·have hk : placesOk t w_ h_ = false := by simpa [placesOk, hso] using h11
  refine WC.r1 hs5 [] rfl (WC.ret (tkR ?_))
  clear hK10
  refine retV2 rfl (resV.tmp rfl) (resV.tmp rfl) ?_
  rw [hk]
  have hx_ := OwnF.eqOf (xs := placesL t w_ h_) (OwnF.nil encRect 71) (by simp [placesL, hk])
  rw [← hx_]
  exact ⟨_, _, _, rfl, hs5.nil, (OwnF.nil encRect 71)⟩
 have hk : placesOk t w_ h_ = true := by simpa [placesOk, hso] using h11
 refine WC.skip (hK10 _ _ (WC.r1 hs5 [] rfl (WC.ret (retV2 rfl (resV.tmp rfl) (resV.tmp rfl) ?_))))
 rw [hk]
 have hx_ := OwnF.eqOf (xs := placesL t w_ h_) ho9 (by simp [placesL, hk])
 rw [← hx_]
 first | exact ⟨_, _, _, rfl, (St.keep1 hs5), ho9⟩ | exact ⟨A6, c7, _, by rw [OwnF.len_ ho9], (St.keep1 hs5), by rw [OwnF.len_ ho9]; exact ho9⟩
theorem built_71 : Tryz.prog.built 71 [] = some (List.toArray [.int .i64 0, .int .i64 0, .int .i64 0, .int .i64 0, .int .i64 0]) := by kernel_rfl
theorem k127_ (r_Pane : Int) (r_X : Int) (r_Y : Int) (r_W : Int) (r_H : Int) (b_p : Nat) (p : Int) (w : World) (f_p : SlF encI w (some ⟨b_p, 0, none⟩) 1 [p]) :
    Calls Tryz.prog 114 #[.agg #[i64 r_Pane, i64 r_X, i64 r_Y, i64 r_W, i64 r_H], .pointer (some ⟨b_p, 0, none⟩)] w fun e w' => e = .returned (.bool (decide (r_Pane = p))) ∧ St w [] [] w' := by
 refine enter 8 Tryz.func114 rfl Tryz.ntmps114 rfl rfl ?_
 have hs1 := St.init w
 refine WC.sr (WL.bx hs1 rfl (fun b2 _ hs3 => WL.r 1 hs3 [] rfl (WL.nil (WC.sr (WL.r 2 hs3 [0] rfl (WL.val rfl rfl rfl (Run.load Tryz.isAgg3 rfl rfl (SlF.var (SlF.st0 f_p hs3) rfl)) (WL.r 2 hs3 [] rfl ?_)))))))
 refine WL.nil (WC.ret (rtv rfl rfl hs3 ?_))
 rfl
theorem k128_ (A_s : Option Addr) (n_s c_s : Nat) (s : List RectD) (b_p : Nat) (p : Int) (w : World) (f_s : SlF encRect w A_s n_s s) (f_p : SlF encI w (some ⟨b_p, 0, none⟩) 1 [p]) (hn : n_s ≤ 1099511627776) :
    Calls Tryz.prog 113 #[.slice A_s n_s c_s, .func (.func 114) #[] #[.pointer (some ⟨b_p, 0, none⟩)]] w fun e w' => e = .returned (.int .i64 (findI (fun r : RectD => decide (r.Pane = p)) s)) ∧ St w [] [] w' := by
 refine enter 19 Tryz.func113 rfl Tryz.ntmps113 rfl rfl ?_
 have hs1 := St.init w
 refine WC.r1 hs1 [] rfl (WC.seq (fun K2 hK2 => WC.r1 hs1 [] rfl (WC.block ?_)))
 refine WC.lS [0, 1, 7] rfl hs1 (fun k_ f w' => ∃ (i : Nat), k_ = n_s - i ∧ (i ≤ n_s) ∧ (∀ j, j < i → (fun r : RectD => decide (r.Pane = p)) (gat encRect s j) = false) ∧ Sub [(8, .int .i64 i)] f) ((fun (i : Nat) => n_s - i) (0)) ?_ ?_
 ·refine ⟨0, rfl, ?_, ?_, ⟨rfl, trivial⟩⟩
  · exact Nat.zero_le _
  · exact fun j hj => absurd hj (by omega)
 clear hs1
 rintro _ f w ⟨i, rfl, p0, p1, hG⟩ hF hs3
 refine WC.sub _ (hG.app hF) ?_
 clear hG hF
 refine WC.r1 hs3 [] rfl (WC.seq (fun K4 hK4 => ?_))
 refine WC.cond rfl (fun h5 => ?_) (fun h5 => ?_)
 ·have qh5 := h5
  try simp only [decide_eq_true_eq, decide_eq_false_iff_not] at qh5
  refine WC.skip (hK4 _ _ (WC.seq (fun K6 hK6 => WC.block (WC.r1 hs3 [] rfl (WC.sr (WL.r 3 hs3 [] rfl ?_))))))
  refine WL.val rfl rfl rfl (Run.idxN Tryz.runUnderlying158 Tryz.sizeOf71 rfl rfl rfl ?_ ?_ ?_) ?_
  · exact SlF.some_ (SlF.st0 f_s hs3)
  · omega
  · omega
  refine WL.val rfl rfl rfl (Run.loadA Tryz.isAgg71 Tryz.sizeOf71 rfl rfl (SlF.whole (SlF.st0 f_s hs3) ?_)) ?_
  · omega
  refine WL.call rfl rfl rfl (Run.callC Tryz.call114 rfl rfl rfl) (k127_ _ _ _ _ _ _ _ _ (SlF.st0 f_p hs3)) ?_
  rintro _ whs7 ⟨rfl, hs7⟩
  replace hs7 := hs3.call0 hs7
  refine ⟨_, rfl, WL.nil (WC.cond rfl (fun h8 => ?_) (fun h8 => ?_))⟩
  ·have qh8 := h8
   try simp only [decide_eq_true_eq, decide_eq_false_iff_not] at qh8
   refine WC.r1 hs7 [] rfl (WC.ret (ibR (tkR (tkR (ibR (tkR ?_))))))
   clear hK6 hK2
   refine rtv rfl rfl hs7 ?_
   rw [findI_some (F := encRect) (by rw [f_s.len]; omega) p1 h8]
  have qh8 := h8
  try simp only [decide_eq_true_eq, decide_eq_false_iff_not] at qh8
  refine WC.skip (hK6 _ _ (WC.region (WL.r 2 hs7 [] rfl (WL.nil (tkN ?_)))))
  refine ⟨sbF rfl, hs7, _, ?_, i + 1, rfl, ?_, ?_, ⟨rfl, trivial⟩⟩
  · omega
  · omega
  · intro j hj; rcases Nat.lt_or_ge j i with h_ | h_
    · exact p1 j h_
    · obtain rfl : j = i := by omega
      exact h8
 have qh5 := h5
 try simp only [decide_eq_true_eq, decide_eq_false_iff_not] at qh5
 refine WC.exit (hK2 _ _ (WC.r1 hs3 [] rfl (WC.ret (rtv rfl rfl hs3 ?_))))
 rw [findI_none (F := encRect) (fun j hj => p1 j (by rw [f_s.len] at hj; omega))]
theorem k129_ (A_t : Option Addr) (n_t c_t : Nat) (t : List NodeD) (w_ : Int) (h_ : Int) (p : Int) (w : World) (f_t : SlF encNode w A_t n_t t) (hn : n_t ≤ 268435456) :
    Calls Tryz.prog 52 #[.slice A_t n_t c_t, i64 w_, i64 h_, i64 p] w fun e w' => e = .returned (.tuple #[.agg (encRect.enc (placeR t w_ h_ p)).toArray, .bool (decide (0 ≤ placeAt t w_ h_ p))]) ∧ St w [] [] w' := by
 have hpl := placesL_len t w_ h_
 have hpa := placeAt_lt t w_ h_ p
 refine enter 30 Tryz.func52 rfl Tryz.ntmps52 rfl rfl ?_
 have hs1 := St.init w
 refine WC.sr (WL.bx hs1 rfl (fun b2 _ hs3 => WL.al hs3 Tryz.zeroValue71 rfl rfl (fun b4 _ hs5 => WL.r 1 hs5 [] rfl (WL.nil (WC.sr (WL.r 3 hs5 [] rfl ?_))))))
 refine WL.cl Tryz.call112 rfl (k125_ _ _ _ _ _ _ _ (SlF.st0 f_t hs5) ?_) ?_
 · first | assumption | rfl | omega
 rintro _ whs6 ⟨A7, c8, L1_9, rfl, hs6, ho10⟩
 replace hs6 := hs5.callF hs6
 refine ⟨_, rfl, ?_⟩
 replace hs6 := St.back [_, _] hs6
 refine WL.r 5 hs6 [] rfl (WL.nil (WC.sr (WL.r 1 hs6 [] rfl (WL.val rfl rfl rfl (Run.makeFunc rfl rfl) (WL.cl Tryz.call113 rfl (k128_ _ _ _ _ _ _ _ (SlF.ofOwn ho10 (hs6.ow L1_9)) (SlF.own1 (hs6.own _ (nthL_mem (i := 1) rfl)).1) ?_) ?_)))))
 · first | assumption | rfl | omega
 rintro _ whs11 ⟨rfl, hs11⟩
 replace hs11 := hs6.call0 hs11
 refine ⟨_, rfl, WL.r 1 hs11 [] rfl (WL.nil (WC.seq (fun K12 hK12 => WC.r1 hs11 [] rfl ?_)))⟩
 refine WC.cD rfl (fun qh13 => ?_) (fun qh13 => ?_)
 ·have hk : ¬ 0 ≤ placeAt t w_ h_ p := by show ¬ 0 ≤ findI _ _; omega
  refine WC.sr ?_
  refine WL.val rfl rfl rfl (Run.build rfl rfl rfl rfl (built_71)) (WL.st tbk hs11 0 rfl rfl (fun _ hs14 => WL.r 1 hs14 [] rfl (WL.nil (WC.ret (tkR ?_)))))
  clear hK12
  refine retV2 rfl (resV.cellA tbk hs14 0 rfl rfl rfl rfl) (resV.tmp rfl) (⟨congrArg Ending.returned ?_, hs14.nil⟩)
  rw [placeR, if_neg hk, decide_eq_false hk]; rfl
 have hk : 0 ≤ placeAt t w_ h_ p := by show 0 ≤ findI _ _; omega
 have hpe : findI (fun r : RectD => decide (r.Pane = p)) (placesL t w_ h_) = placeAt t w_ h_ p := rfl
 refine WC.skip (hK12 _ _ (WC.sr (WL.r 2 hs11 [] rfl ?_)))
 refine WL.val rfl rfl rfl (Run.idxK ((placeAt t w_ h_ p).toNat) Tryz.runUnderlying158 Tryz.sizeOf71 rfl rfl rfl ?_ ?_ ?_) ?_
 · exact SlF.some_ (SlF.ofOwn ho10 (hs11.ow L1_9))
 · omega
 · omega
 refine WL.val rfl rfl rfl (Run.loadA Tryz.isAgg71 Tryz.sizeOf71 rfl rfl (SlF.whole (SlF.ofOwn ho10 (hs11.ow L1_9)) ?_)) ?_
 · omega
 refine WL.st tbk hs11 0 rfl rfl (fun _ hs15 => WL.r 1 hs15 [] rfl (WL.nil (WC.ret (retV2 rfl (resV.cellA tbk hs15 0 rfl rfl rfl rfl) (resV.tmp rfl) (⟨congrArg Ending.returned ?_, hs15.nil⟩)))))
 rw [placeR, if_pos hk, decide_eq_true hk]; rfl
theorem k130_ (A_t : Option Addr) (n_t c_t : Nat) (t : List NodeD) (w_ : Int) (h_ : Int) (p : Int) (w : World) (f_t : SlF encNode w A_t n_t t) (hn : n_t ≤ 268435456) :
    Calls Tryz.prog 51 #[.slice A_t n_t c_t, i64 w_, i64 h_, i64 p] w fun e w' => e = .returned (.tuple #[.agg (encRect.enc (placeR t w_ h_ p)).toArray, .bool (decide (0 ≤ placeAt t w_ h_ p))]) ∧ St w [] [] w' := by
 have hpl := placesL_len t w_ h_
 refine enter 34 Tryz.func51 rfl Tryz.ntmps51 rfl rfl ?_
 have hs1 := St.init w
 refine WC.sr (WL.al hs1 Tryz.zeroValue71 rfl rfl (fun b2 _ hs3 => WL.r 1 hs3 [] rfl (WL.nil (WC.sr (WL.r 3 hs3 [] rfl ?_)))))
 refine WL.cl Tryz.call111 rfl (k126_ _ _ _ _ _ _ _ (SlF.st0 f_t hs3) ?_) ?_
 · first | assumption | rfl | omega
 rintro _ whs4 ⟨A5, c6, L1_7, rfl, hs4, ho8⟩
 replace hs4 := hs3.callF hs4
 refine ⟨_, rfl, ?_⟩
 replace hs4 := St.back [_] hs4
 refine WL.r 5 hs4 [] rfl (WL.nil (WC.seq (fun K9 hK9 => WC.r1 hs4 [] rfl (WC.block ?_))))
 refine WC.lS [3, 8, 21, 22] rfl hs4 (fun k_ f w' => ∃ (i : Nat), k_ = (placesL t w_ h_).length - i ∧ (i ≤ (placesL t w_ h_).length) ∧ (∀ j, j < i → (fun r : RectD => decide (r.Pane = p)) (gat encRect (placesL t w_ h_) j) = false) ∧ Sub [(23, .int .i64 i)] f) ((fun (i : Nat) => (placesL t w_ h_).length - i) (0)) ?_ ?_
 ·refine ⟨0, rfl, ?_, ?_, ⟨rfl, trivial⟩⟩
  · exact Nat.zero_le _
  · exact fun j hj => absurd hj (by omega)
 clear hs4
 rintro _ f w ⟨i, rfl, p0, p1, hG⟩ hF hs10
 refine WC.sub _ (hG.app hF) ?_
 clear hG hF
 refine WC.r1 hs10 [] rfl (WC.seq (fun K11 hK11 => ?_))
 refine WC.cq rfl (fun h12 qh12 => ?_) (fun h12 qh12 => ?_)
 ·refine WC.skip (hK11 _ _ (WC.seq (fun K13 hK13 => WC.block (WC.sr ?_))))
  refine WL.val rfl rfl rfl (Run.idxN Tryz.runUnderlying158 Tryz.sizeOf71 rfl rfl rfl ?_ ?_ ?_) ?_
  · exact SlF.some_ (SlF.ofOwn ho8 (hs10.ow L1_7))
  · omega
  · omega
  refine WL.val rfl rfl rfl (Run.loadA Tryz.isAgg71 Tryz.sizeOf71 rfl rfl (SlF.whole (SlF.ofOwn ho8 (hs10.ow L1_7)) ?_)) ?_
  · omega
  refine WL.al hs10 Tryz.zeroValue71 rfl rfl (fun b14 _ hs15 => WL.st tbk hs15 0 rfl rfl (fun _ hs16 => WL.nil (WC.r1 hs16 [0] rfl ?_)))
  refine WC.cq rfl (fun h17 qh17 => ?_) (fun h17 qh17 => ?_)
  ·have hfi : placeAt t w_ h_ p = (i : Int) := findI_some (F := encRect) (by omega) p1 h17
   refine WC.sr (WL.r 1 hs16 [0] rfl (WL.st tbk hs16 1 rfl rfl (fun _ hs18 => WL.r 1 hs18 [] rfl (WL.nil (WC.ret (ibR (tkR (tkR (ibR (tkR ?_))))))))))
   clear hK13 hK9
   refine retV2 rfl (resV.cellA tbk hs18 1 rfl rfl rfl rfl) (resV.tmp rfl) (⟨congrArg Ending.returned ?_, hs18.nil⟩)
   rw [placeR, hfi, if_pos (by omega), decide_eq_true (by omega)]; rfl
  refine WC.skip (hK13 _ _ (WC.region (WL.r 2 hs16 [] rfl (WL.nil (tkN ?_)))))
  refine ⟨sbF rfl, (hs16.drop (by repeat (first | exact List.Sublist.refl _ | exact List.sublist_append_left _ _ | exact List.Sublist.trans (List.sublist_append_left _ _) (List.sublist_append_left _ _) | apply List.Sublist.cons | refine List.Sublist.trans ?_ (sR _)))), _, ?_, i + 1, rfl, ?_, ?_, ⟨rfl, trivial⟩⟩
  · omega
  · omega
  · intro j hj; rcases Nat.lt_or_ge j i with h_0 | h_0
    · exact p1 j h_0
    · obtain rfl : j = i := by omega
      exact h17
 have hfi : placeAt t w_ h_ p = -1 := findI_none (F := encRect) (fun j hj => p1 j (by omega))
 refine WC.exit (hK9 _ _ (WC.sr ?_))
 refine WL.val rfl rfl rfl (Run.build rfl rfl rfl rfl (built_71)) (WL.st tbk hs10 0 rfl rfl (fun _ hs19 => WL.r 1 hs19 [] rfl (WL.nil (WC.ret (retV2 rfl (resV.cellA tbk hs19 0 rfl rfl rfl rfl) (resV.tmp rfl) (⟨congrArg Ending.returned ?_, hs19.nil⟩))))))
 rw [placeR, hfi]; rfl
theorem k131_ (s : StateR) (p : Int) (w : World) (f_s : okStateR 549755813888 w s) (hT : totState s.dat ≤ 1048576) :
    Calls Tryz.prog 17 #[.agg #[i64 s.W, i64 s.H, i64 s.Limit, i64 s.Next, .slice s.Panes.A s.Panes.n s.Panes.c, .slice s.Wins.A s.Wins.n s.Wins.c, .slice s.Sess.A s.Sess.n s.Sess.c], i64 p] w fun e w' => e = .returned (.tuple #[.int .i64 (areaD s.dat p).1, .int .i64 (areaD s.dat p).2]) ∧ St w [] [] w' := by
 have nb_s_Panes := f_s.Panes_n
 have nl_s_Panes := f_s.Panes.sl.len
 have nb_s_Wins := f_s.Wins_n
 have nl_s_Wins := f_s.Wins.sl.len
 have nb_s_Sess := f_s.Sess_n
 have nl_s_Sess := f_s.Sess.sl.len
 have hsm0 : smState 1048576 s.dat := totState_sm hT
 have hWn : ∀ y, y ∈ s.Wins.xs → y.Tree.n ≤ 1048576 := fun y hy => by have h1 := (f_s.Wins.all y hy).Tree.len; have h2 : y.Tree.xs.length ≤ 1048576 := (hsm0.2.2.2.1 _ (List.mem_map_of_mem hy)).2; omega
 refine enter 47 Tryz.func17 rfl Tryz.ntmps17 rfl rfl ?_
 have hs1 := St.init w
 refine WC.sr (WL.bx hs1 rfl (fun b2 _ hs3 => WL.r 2 hs3 [] rfl (WL.nil (WC.sr (WL.r 2 hs3 [0] rfl ?_)))))
 refine WL.cl Tryz.call14 rfl (k112_ s _ _ (okStateR.st0 f_s hs3) ?_) ?_
 · first | assumption | rfl | omega
 rintro _ whs4 ⟨rfl, hs4⟩
 replace hs4 := hs3.call0 hs4
 refine ⟨_, rfl, WL.r 1 hs4 [] rfl (WL.nil (WC.seq (fun K5 hK5 => WC.r1 hs4 [] rfl ?_)))⟩
 refine WC.cq rfl (fun h6 qh6 => ?_) (fun h6 qh6 => ?_)
 ·have hfd : s.dat.Wins.find? (winHas p) = none := by rw [find_findI, if_neg (by have h9 := h6; simp at h9; omega)]
  have hAD : areaD s.dat p = (0, 0) := by unfold areaD; rw [hfd]
  refine WC.r1 hs4 [] rfl (WC.ret (tkR ?_))
  clear hK5
  refine retV2 rfl (resV.tmp rfl) (resV.tmp rfl) (⟨congrArg Ending.returned ?_, hs4.nil⟩)
  rw [hAD]
 have hk0 : 0 ≤ (findI (winHas p) s.dat.Wins) := by have h9 := h6; simp at h9; omega
 have hlt : (findI (winHas p) s.dat.Wins).toNat < s.Wins.xs.length := by have h9 := findI_lt (p := winHas p) (xs := s.dat.Wins); have h8 : s.dat.Wins.length = s.Wins.xs.length := List.length_map _; omega
 have hfd : s.dat.Wins.find? (winHas p) = some (gat encWinR s.Wins.xs (findI (winHas p) s.dat.Wins).toNat).dat := by rw [find_findI, if_pos hk0, show s.dat.Wins = s.Wins.xs.map WinR.dat from rfl, List.getElem?_map, gat_get (F := encWinR) (by exact hlt)]; rfl
 have hAD : areaD s.dat p = areaW s.dat p (gat encWinR s.Wins.xs (findI (winHas p) s.dat.Wins).toNat).dat := by unfold areaD; rw [hfd]
 have hWi := hWn (gat encWinR s.Wins.xs (findI (winHas p) s.dat.Wins).toNat) (gat_mem hlt)
 have hwl : (findI (winHas p) s.dat.Wins) < s.Wins.n := by omega
 refine WC.skip (hK5 _ _ (WC.sr (WL.r 3 hs4 [0] rfl ?_)))
 refine WL.val rfl rfl rfl (Run.idxK ((findI (winHas p) s.dat.Wins).toNat) Tryz.runUnderlying30 Tryz.sizeOf58 rfl rfl rfl ?_ ?_ ?_) ?_
 · exact SlF.some_ (SlF.st0 f_s.Wins.sl hs4)
 · omega
 · omega
 refine WL.val rfl rfl rfl (Run.loadA Tryz.isAgg58 Tryz.sizeOf58 rfl rfl (SlF.whole (SlF.st0 f_s.Wins.sl hs4) ?_)) ?_
 · omega
 refine WL.al hs4 Tryz.zeroValue58 rfl rfl (fun b7 _ hs8 => WL.st tbk hs8 0 rfl rfl (fun _ hs9 => WL.nil (WC.seq (fun K10 hK10 => WC.sr (WL.r 3 hs9 [0] rfl (WL.pA tbk 4 Acts.nil hs9 [0] rfl rfl rfl rfl (fun g_ => ⟨rfl, trivial⟩) (WL.nil ?_)))))))
 refine WC.cq rfl (fun h11 qh11 => ?_) (fun h11 qh11 => ?_)
 ·have hz : ((gat encWinR s.Wins.xs (findI (winHas p) s.dat.Wins).toNat).Zoom && decide ((gat encWinR s.Wins.xs (findI (winHas p) s.dat.Wins).toNat).Active = p)) = true := h11
  have hAW : areaW s.dat p (gat encWinR s.Wins.xs (findI (winHas p) s.dat.Wins).toNat).dat = (s.W, s.H) := if_pos hz
  refine WC.q1 hs9 [1, 1] rfl (fun _ hs12 => WC.ret (tkR ?_))
  clear hK10
  refine retV2 rfl (resV.tmp rfl) (resV.tmp rfl) (⟨congrArg Ending.returned ?_, hs12.nil⟩)
  rw [hAD, hAW]
 have hz : ¬ ((gat encWinR s.Wins.xs (findI (winHas p) s.dat.Wins).toNat).Zoom && decide ((gat encWinR s.Wins.xs (findI (winHas p) s.dat.Wins).toNat).Active = p)) = true := by have h9 := h11; rw [h9]; decide
 have hAW : areaW s.dat p (gat encWinR s.Wins.xs (findI (winHas p) s.dat.Wins).toNat).dat = ((placeR (gat encWinR s.Wins.xs (findI (winHas p) s.dat.Wins).toNat).Tree.xs s.W s.H p).W, (placeR (gat encWinR s.Wins.xs (findI (winHas p) s.dat.Wins).toNat).Tree.xs s.W s.H p).H) := if_neg hz
 refine WC.skip (hK10 _ _ (WC.sr (WL.r 7 hs9 [0, 1, 1] rfl ?_)))
 refine WL.cl Tryz.call52 rfl (k129_ _ _ _ _ _ _ _ _ (SlF.st0 (SlN.nth f_s.Wins (by omega)).Tree hs9) ?_) ?_
 · first | assumption | rfl | omega
 rintro _ whs13 ⟨rfl, hs13⟩
 replace hs13 := hs9.call0 hs13
 refine ⟨_, rfl, WL.r 3 hs13 [] rfl (WL.al hs13 Tryz.zeroValue71 rfl rfl (fun b14 _ hs15 => WL.st tbk hs15 0 rfl rfl (fun _ hs16 => WL.r 1 hs16 [] rfl (WL.nil (WC.q1 hs16 [0, 0] rfl (fun _ hs17 => WC.ret ?_))))))⟩
 refine retV2 rfl (resV.tmp rfl) (resV.tmp rfl) (⟨congrArg Ending.returned ?_, hs17.nil⟩)
 rw [hAD, hAW]
theorem k132_ (s : StateR) (p : Int) (w : World) (f_s : okStateR 549755813888 w s) (hT : totState s.dat ≤ 1048576) :
    Calls Tryz.prog 16 #[.agg #[i64 s.W, i64 s.H, i64 s.Limit, i64 s.Next, .slice s.Panes.A s.Panes.n s.Panes.c, .slice s.Wins.A s.Wins.n s.Wins.c, .slice s.Sess.A s.Sess.n s.Sess.c], i64 p] w fun e w' => e = .returned (.tuple #[.int .i64 (areaD s.dat p).1, .int .i64 (areaD s.dat p).2]) ∧ St w [] [] w' := by
 have nb_s_Panes := f_s.Panes_n
 have nl_s_Panes := f_s.Panes.sl.len
 have nb_s_Wins := f_s.Wins_n
 have nl_s_Wins := f_s.Wins.sl.len
 have nb_s_Sess := f_s.Sess_n
 have nl_s_Sess := f_s.Sess.sl.len
 have hsm0 : smState 1048576 s.dat := totState_sm hT
 have hWn : ∀ y, y ∈ s.Wins.xs → y.Tree.n ≤ 1048576 := fun y hy => by have h1 := (f_s.Wins.all y hy).Tree.len; have h2 : y.Tree.xs.length ≤ 1048576 := (hsm0.2.2.2.1 _ (List.mem_map_of_mem hy)).2; omega
 refine enter 47 Tryz.func16 rfl Tryz.ntmps16 rfl rfl ?_
 have hs1 := St.init w
 refine WC.sr (WL.bx hs1 rfl (fun b2 _ hs3 => WL.r 2 hs3 [] rfl (WL.nil (WC.sr (WL.r 2 hs3 [0] rfl ?_)))))
 refine WL.cl Tryz.call12 rfl (k113_ s _ _ (okStateR.st0 f_s hs3) ?_) ?_
 · first | assumption | rfl | omega
 rintro _ whs4 ⟨rfl, hs4⟩
 replace hs4 := hs3.call0 hs4
 refine ⟨_, rfl, WL.r 1 hs4 [] rfl (WL.nil (WC.seq (fun K5 hK5 => WC.r1 hs4 [] rfl ?_)))⟩
 refine WC.cq rfl (fun h6 qh6 => ?_) (fun h6 qh6 => ?_)
 ·have hfd : s.dat.Wins.find? (winHas p) = none := by rw [find_findI, if_neg (by have h9 := h6; simp at h9; omega)]
  have hAD : areaD s.dat p = (0, 0) := by unfold areaD; rw [hfd]
  refine WC.r1 hs4 [] rfl (WC.ret (tkR ?_))
  clear hK5
  refine retV2 rfl (resV.tmp rfl) (resV.tmp rfl) (⟨congrArg Ending.returned ?_, hs4.nil⟩)
  rw [hAD]
 have hk0 : 0 ≤ (findI (winHas p) s.dat.Wins) := by have h9 := h6; simp at h9; omega
 have hlt : (findI (winHas p) s.dat.Wins).toNat < s.Wins.xs.length := by have h9 := findI_lt (p := winHas p) (xs := s.dat.Wins); have h8 : s.dat.Wins.length = s.Wins.xs.length := List.length_map _; omega
 have hfd : s.dat.Wins.find? (winHas p) = some (gat encWinR s.Wins.xs (findI (winHas p) s.dat.Wins).toNat).dat := by rw [find_findI, if_pos hk0, show s.dat.Wins = s.Wins.xs.map WinR.dat from rfl, List.getElem?_map, gat_get (F := encWinR) (by exact hlt)]; rfl
 have hAD : areaD s.dat p = areaW s.dat p (gat encWinR s.Wins.xs (findI (winHas p) s.dat.Wins).toNat).dat := by unfold areaD; rw [hfd]
 have hWi := hWn (gat encWinR s.Wins.xs (findI (winHas p) s.dat.Wins).toNat) (gat_mem hlt)
 have hwl : (findI (winHas p) s.dat.Wins) < s.Wins.n := by omega
 refine WC.skip (hK5 _ _ (WC.sr (WL.r 3 hs4 [0] rfl ?_)))
 refine WL.val rfl rfl rfl (Run.idxK ((findI (winHas p) s.dat.Wins).toNat) Tryz.runUnderlying30 Tryz.sizeOf58 rfl rfl rfl ?_ ?_ ?_) ?_
 · exact SlF.some_ (SlF.st0 f_s.Wins.sl hs4)
 · omega
 · omega
 refine WL.val rfl rfl rfl (Run.loadA Tryz.isAgg58 Tryz.sizeOf58 rfl rfl (SlF.whole (SlF.st0 f_s.Wins.sl hs4) ?_)) ?_
 · omega
 refine WL.al hs4 Tryz.zeroValue58 rfl rfl (fun b7 _ hs8 => WL.st tbk hs8 0 rfl rfl (fun _ hs9 => WL.nil (WC.seq (fun K10 hK10 => WC.sr (WL.r 3 hs9 [0] rfl (WL.pA tbk 4 Acts.nil hs9 [0] rfl rfl rfl rfl (fun g_ => ⟨rfl, trivial⟩) (WL.nil ?_)))))))
 refine WC.cq rfl (fun h11 qh11 => ?_) (fun h11 qh11 => ?_)
 ·have hz : ((gat encWinR s.Wins.xs (findI (winHas p) s.dat.Wins).toNat).Zoom && decide ((gat encWinR s.Wins.xs (findI (winHas p) s.dat.Wins).toNat).Active = p)) = true := h11
  have hAW : areaW s.dat p (gat encWinR s.Wins.xs (findI (winHas p) s.dat.Wins).toNat).dat = (s.W, s.H) := if_pos hz
  refine WC.q1 hs9 [1, 1] rfl (fun _ hs12 => WC.ret (tkR ?_))
  clear hK10
  refine retV2 rfl (resV.tmp rfl) (resV.tmp rfl) (⟨congrArg Ending.returned ?_, hs12.nil⟩)
  rw [hAD, hAW]
 have hz : ¬ ((gat encWinR s.Wins.xs (findI (winHas p) s.dat.Wins).toNat).Zoom && decide ((gat encWinR s.Wins.xs (findI (winHas p) s.dat.Wins).toNat).Active = p)) = true := by have h9 := h11; rw [h9]; decide
 have hAW : areaW s.dat p (gat encWinR s.Wins.xs (findI (winHas p) s.dat.Wins).toNat).dat = ((placeR (gat encWinR s.Wins.xs (findI (winHas p) s.dat.Wins).toNat).Tree.xs s.W s.H p).W, (placeR (gat encWinR s.Wins.xs (findI (winHas p) s.dat.Wins).toNat).Tree.xs s.W s.H p).H) := if_neg hz
 refine WC.skip (hK10 _ _ (WC.sr (WL.r 7 hs9 [0, 1, 1] rfl ?_)))
 refine WL.cl Tryz.call51 rfl (k130_ _ _ _ _ _ _ _ _ (SlF.st0 (SlN.nth f_s.Wins (by omega)).Tree hs9) ?_) ?_
 · first | assumption | rfl | omega
 rintro _ whs13 ⟨rfl, hs13⟩
 replace hs13 := hs9.call0 hs13
 refine ⟨_, rfl, WL.r 3 hs13 [] rfl (WL.al hs13 Tryz.zeroValue71 rfl rfl (fun b14 _ hs15 => WL.st tbk hs15 0 rfl rfl (fun _ hs16 => WL.r 1 hs16 [] rfl (WL.nil (WC.q1 hs16 [0, 0] rfl (fun _ hs17 => WC.ret ?_))))))⟩
 refine retV2 rfl (resV.tmp rfl) (resV.tmp rfl) (⟨congrArg Ending.returned ?_, hs17.nil⟩)
 rw [hAD, hAW]
theorem k133_ (s : StateR) (p : Int) (w : World) (f_s : okStateR 549755813888 w s) :
    Calls Tryz.prog 116 #[.agg #[i64 s.W, i64 s.H, i64 s.Limit, i64 s.Next, .slice s.Panes.A s.Panes.n s.Panes.c, .slice s.Wins.A s.Wins.n s.Wins.c, .slice s.Sess.A s.Sess.n s.Sess.c], i64 p] w fun e w' => e = .returned (.int .i64 (findI (fun q : PaneD => decide (q.Id = p)) s.dat.Panes)) ∧ St w [] [] w' := by
 have nb_s_Panes := f_s.Panes_n
 have nl_s_Panes := f_s.Panes.sl.len
 have nb_s_Wins := f_s.Wins_n
 have nl_s_Wins := f_s.Wins.sl.len
 have nb_s_Sess := f_s.Sess_n
 have nl_s_Sess := f_s.Sess.sl.len
 refine enter 21 Tryz.func116 rfl Tryz.ntmps116 rfl rfl ?_
 have hs1 := St.init w
 refine WC.sr (WL.bx hs1 rfl (fun b2 _ hs3 => WL.r 1 hs3 [] rfl (WL.nil (WC.seq (fun K4 hK4 => WC.r1 hs3 [0] rfl (WC.block ?_))))))
 refine WC.lS [1, 8, 9] rfl hs3 (fun k_ f w' => ∃ (i : Nat), k_ = s.Panes.n - i ∧ (i ≤ s.Panes.n) ∧ (∀ j, j < i → (fun q : PaneR => decide (q.Id = p)) (gat encPaneR s.Panes.xs j) = false) ∧ Sub [(10, .int .i64 i)] f) ((fun (i : Nat) => s.Panes.n - i) (0)) ?_ ?_
 ·refine ⟨0, rfl, ?_, ?_, ⟨rfl, trivial⟩⟩
  · exact Nat.zero_le _
  · exact fun j hj => absurd hj (by omega)
 clear hs3
 rintro _ f w ⟨i, rfl, p0, p1, hG⟩ hF hs5
 refine WC.sub _ (hG.app hF) ?_
 clear hG hF
 refine WC.r1 hs5 [] rfl (WC.seq (fun K6 hK6 => ?_))
 refine WC.cq rfl (fun h7 qh7 => ?_) (fun h7 qh7 => ?_)
 ·refine WC.skip (hK6 _ _ (WC.seq (fun K8 hK8 => WC.block (WC.sr (WL.r 1 hs5 [] rfl ?_)))))
  refine WL.val rfl rfl rfl (Run.idxN Tryz.runUnderlying29 Tryz.sizeOf93 rfl rfl rfl ?_ ?_ ?_) ?_
  · exact SlF.some_ (SlF.st0 f_s.Panes.sl hs5)
  · omega
  · omega
  refine WL.val rfl rfl rfl (Run.loadA Tryz.isAgg93 Tryz.sizeOf93 rfl rfl (SlF.whole (SlF.st0 f_s.Panes.sl hs5) ?_)) ?_
  · omega
  refine WL.al hs5 Tryz.zeroValue93 rfl rfl (fun b9 _ hs10 => WL.r 1 hs10 [] rfl (WL.st tbk hs10 0 rfl rfl (fun _ hs11 => WL.nil (WC.r1 hs11 [0] rfl ?_))))
  refine WC.cq rfl (fun h12 qh12 => ?_) (fun h12 qh12 => ?_)
  ·refine WC.r1 hs11 [] rfl (WC.ret (ibR (tkR (tkR (ibR (tkR ?_))))))
   clear hK8 hK4
   refine rtv rfl rfl hs11 ?_
   rw [show s.dat.Panes = s.Panes.xs.map PaneR.dat from rfl, findI_map]; exact congrArg (Value.int _) (findI_some (F := encPaneR) (p := (fun q : PaneR => decide (q.Id = p))) (xs := s.Panes.xs) (by omega) p1 h12).symm
  refine WC.skip (hK8 _ _ (WC.region (WL.r 2 hs11 [] rfl (WL.nil (tkN ?_)))))
  refine ⟨sbF rfl, (hs11.drop (by repeat (first | exact List.Sublist.refl _ | exact List.sublist_append_left _ _ | exact List.Sublist.trans (List.sublist_append_left _ _) (List.sublist_append_left _ _) | apply List.Sublist.cons | refine List.Sublist.trans ?_ (sR _)))), _, ?_, i + 1, rfl, ?_, ?_, ⟨rfl, trivial⟩⟩
  · omega
  · omega
  · intro j hj; rcases Nat.lt_or_ge j i with h_ | h_
    · exact p1 j h_
    · obtain rfl : j = i := by omega
      exact h12
 refine WC.exit (hK4 _ _ (WC.r1 hs5 [] rfl (WC.ret (rtv rfl rfl hs5 ?_))))
 rw [show s.dat.Panes = s.Panes.xs.map PaneR.dat from rfl, findI_map]; exact congrArg (Value.int _) (findI_none (F := encPaneR) (p := (fun q : PaneR => decide (q.Id = p))) (xs := s.Panes.xs) (fun j hj => p1 j (by omega))).symm
theorem k134_ (q : WinR) (b_p : Nat) (p : Int) (w : World) (f_q : okWinR 549755813888 w q) (f_p : SlF encI w (some ⟨b_p, 0, none⟩) 1 [p]) :
    Calls Tryz.prog 177 #[.agg #[i64 q.Id, .string q.Name, .slice q.Tree.A q.Tree.n q.Tree.c, i64 q.Active, .bool q.Zoom], .pointer (some ⟨b_p, 0, none⟩)] w fun e w' => e = .returned (.bool (decide (q.Id = p))) ∧ St w [] [] w' := by
 have nz_q_Name := f_q.Name_z
 have nb_q_Tree := f_q.Tree_n
 have nl_q_Tree := f_q.Tree.len
 refine enter 8 Tryz.func177 rfl Tryz.ntmps177 rfl rfl ?_
 have hs1 := St.init w
 refine WC.sr (WL.bx hs1 rfl (fun b2 _ hs3 => WL.r 1 hs3 [] rfl (WL.nil (WC.sr (WL.r 2 hs3 [0] rfl (WL.val rfl rfl rfl (Run.load Tryz.isAgg3 rfl rfl (SlF.var (SlF.st0 f_p hs3) rfl)) (WL.r 2 hs3 [] rfl ?_)))))))
 refine WL.nil (WC.ret (rtv rfl rfl hs3 ?_))
 rfl
theorem k135_ (A_s : Option Addr) (n_s c_s : Nat) (s : List WinR) (b_p : Nat) (p : Int) (w : World) (f_s : SlN encWinR (okWinR 549755813888) w A_s n_s s) (f_p : SlF encI w (some ⟨b_p, 0, none⟩) 1 [p]) (hn : n_s ≤ 549755813888) :
    Calls Tryz.prog 44 #[.slice A_s n_s c_s, .func (.func 177) #[] #[.pointer (some ⟨b_p, 0, none⟩)]] w fun e w' => e = .returned (.int .i64 (findI (fun q => decide (q.Id = p)) s)) ∧ St w [] [] w' := by
 refine enter 19 Tryz.func44 rfl Tryz.ntmps44 rfl rfl ?_
 have hs1 := St.init w
 refine WC.r1 hs1 [] rfl (WC.seq (fun K2 hK2 => WC.r1 hs1 [] rfl (WC.block ?_)))
 refine WC.lS [0, 1, 7] rfl hs1 (fun k_ f w' => ∃ (i : Nat), k_ = n_s - i ∧ (i ≤ n_s) ∧ (∀ j, j < i → (fun q => decide (q.Id = p)) (gat encWinR s j) = false) ∧ Sub [(8, .int .i64 i)] f) ((fun (i : Nat) => n_s - i) (0)) ?_ ?_
 ·refine ⟨0, rfl, ?_, ?_, ⟨rfl, trivial⟩⟩
  · exact Nat.zero_le _
  · exact fun j hj => absurd hj (by omega)
 clear hs1
 rintro _ f w ⟨i, rfl, p0, p1, hG⟩ hF hs3
 refine WC.sub _ (hG.app hF) ?_
 clear hG hF
 refine WC.r1 hs3 [] rfl (WC.seq (fun K4 hK4 => ?_))
 refine WC.cond rfl (fun h5 => ?_) (fun h5 => ?_)
 ·have qh5 := h5
  try simp only [decide_eq_true_eq, decide_eq_false_iff_not] at qh5
  refine WC.skip (hK4 _ _ (WC.seq (fun K6 hK6 => WC.block (WC.r1 hs3 [] rfl (WC.sr (WL.r 3 hs3 [] rfl ?_))))))
  refine WL.val rfl rfl rfl (Run.idxN Tryz.runUnderlying30 Tryz.sizeOf58 rfl rfl rfl ?_ ?_ ?_) ?_
  · exact SlF.some_ (SlF.st0 f_s.sl hs3)
  · omega
  · omega
  refine WL.val rfl rfl rfl (Run.loadA Tryz.isAgg58 Tryz.sizeOf58 rfl rfl (SlF.whole (SlF.st0 f_s.sl hs3) ?_)) ?_
  · omega
  refine WL.call rfl rfl rfl (Run.callC Tryz.call177 rfl rfl rfl) (k134_ (gat encWinR s i) _ _ _ (okWinR.st0 (SlN.nth f_s (by omega)) hs3) (SlF.st0 f_p hs3)) ?_
  rintro _ whs7 ⟨rfl, hs7⟩
  replace hs7 := hs3.call0 hs7
  refine ⟨_, rfl, WL.nil (WC.cond rfl (fun h8 => ?_) (fun h8 => ?_))⟩
  ·have qh8 := h8
   try simp only [decide_eq_true_eq, decide_eq_false_iff_not] at qh8
   refine WC.r1 hs7 [] rfl (WC.ret (ibR (tkR (tkR (ibR (tkR ?_))))))
   clear hK6 hK2
   refine rtv rfl rfl hs7 ?_
   rw [findI_some (F := encWinR) (by rw [f_s.len]; omega) p1 h8]
  have qh8 := h8
  try simp only [decide_eq_true_eq, decide_eq_false_iff_not] at qh8
  refine WC.skip (hK6 _ _ (WC.region (WL.r 2 hs7 [] rfl (WL.nil (tkN ?_)))))
  refine ⟨sbF rfl, hs7, _, ?_, i + 1, rfl, ?_, ?_, ⟨rfl, trivial⟩⟩
  · omega
  · omega
  · intro j hj; rcases Nat.lt_or_ge j i with h_ | h_
    · exact p1 j h_
    · obtain rfl : j = i := by omega
      exact h8
 have qh5 := h5
 try simp only [decide_eq_true_eq, decide_eq_false_iff_not] at qh5
 refine WC.exit (hK2 _ _ (WC.r1 hs3 [] rfl (WC.ret (rtv rfl rfl hs3 ?_))))
 rw [findI_none (F := encWinR) (fun j hj => p1 j (by rw [f_s.len] at hj; omega))]
theorem k136_ (s : StateR) (p : Int) (w : World) (f_s : okStateR 549755813888 w s) :
    Calls Tryz.prog 122 #[.agg #[i64 s.W, i64 s.H, i64 s.Limit, i64 s.Next, .slice s.Panes.A s.Panes.n s.Panes.c, .slice s.Wins.A s.Wins.n s.Wins.c, .slice s.Sess.A s.Sess.n s.Sess.c], i64 p] w fun e w' => e = .returned (.int .i64 (findI (fun q : WinD => decide (q.Id = p)) s.dat.Wins)) ∧ St w [] [] w' := by
 have nb_s_Panes := f_s.Panes_n
 have nl_s_Panes := f_s.Panes.sl.len
 have nb_s_Wins := f_s.Wins_n
 have nl_s_Wins := f_s.Wins.sl.len
 have nb_s_Sess := f_s.Sess_n
 have nl_s_Sess := f_s.Sess.sl.len
 refine enter 9 Tryz.func122 rfl Tryz.ntmps122 rfl rfl ?_
 have hs1 := St.init w
 refine WC.sr (WL.bx hs1 rfl (fun b2 _ hs3 => WL.bx hs3 rfl (fun b4 _ hs5 => WL.r 1 hs5 [] rfl (WL.nil (WC.sr (WL.r 2 hs5 [1] rfl (WL.val rfl rfl rfl (Run.makeFunc rfl rfl) ?_)))))))
 refine WL.cl Tryz.call44 rfl (k135_ _ _ _ _ _ _ _ (SlN.st0 okWinR.st0 f_s.Wins hs5) (SlF.own1 (hs5.own _ (nthL_mem (i := 0) rfl)).1) ?_) ?_
 · first | assumption | rfl | omega
 rintro _ whs6 ⟨rfl, hs6⟩
 replace hs6 := hs5.call0 hs6
 refine ⟨_, rfl, WL.r 1 hs6 [] rfl (WL.nil (WC.ret (rtv rfl rfl hs6 ?_)))⟩
 rw [show s.dat.Wins = s.Wins.xs.map WinR.dat from rfl, findI_map]; rfl
theorem k137_ (s : StateR) (p : Int) (w : World) (f_s : okStateR 549755813888 w s) :
    Calls Tryz.prog 119 #[.agg #[i64 s.W, i64 s.H, i64 s.Limit, i64 s.Next, .slice s.Panes.A s.Panes.n s.Panes.c, .slice s.Wins.A s.Wins.n s.Wins.c, .slice s.Sess.A s.Sess.n s.Sess.c], i64 p] w fun e w' => e = .returned (.int .i64 (findI (fun q : WinD => decide (q.Id = p)) s.dat.Wins)) ∧ St w [] [] w' := by
 have nb_s_Panes := f_s.Panes_n
 have nl_s_Panes := f_s.Panes.sl.len
 have nb_s_Wins := f_s.Wins_n
 have nl_s_Wins := f_s.Wins.sl.len
 have nb_s_Sess := f_s.Sess_n
 have nl_s_Sess := f_s.Sess.sl.len
 refine enter 21 Tryz.func119 rfl Tryz.ntmps119 rfl rfl ?_
 have hs1 := St.init w
 refine WC.sr (WL.bx hs1 rfl (fun b2 _ hs3 => WL.r 1 hs3 [] rfl (WL.nil (WC.seq (fun K4 hK4 => WC.r1 hs3 [0] rfl (WC.block ?_))))))
 refine WC.lS [1, 8, 9] rfl hs3 (fun k_ f w' => ∃ (i : Nat), k_ = s.Wins.n - i ∧ (i ≤ s.Wins.n) ∧ (∀ j, j < i → (fun q : WinR => decide (q.Id = p)) (gat encWinR s.Wins.xs j) = false) ∧ Sub [(10, .int .i64 i)] f) ((fun (i : Nat) => s.Wins.n - i) (0)) ?_ ?_
 ·refine ⟨0, rfl, ?_, ?_, ⟨rfl, trivial⟩⟩
  · exact Nat.zero_le _
  · exact fun j hj => absurd hj (by omega)
 clear hs3
 rintro _ f w ⟨i, rfl, p0, p1, hG⟩ hF hs5
 refine WC.sub _ (hG.app hF) ?_
 clear hG hF
 refine WC.r1 hs5 [] rfl (WC.seq (fun K6 hK6 => ?_))
 refine WC.cq rfl (fun h7 qh7 => ?_) (fun h7 qh7 => ?_)
 ·refine WC.skip (hK6 _ _ (WC.seq (fun K8 hK8 => WC.block (WC.sr (WL.r 1 hs5 [] rfl ?_)))))
  refine WL.val rfl rfl rfl (Run.idxN Tryz.runUnderlying30 Tryz.sizeOf58 rfl rfl rfl ?_ ?_ ?_) ?_
  · exact SlF.some_ (SlF.st0 f_s.Wins.sl hs5)
  · omega
  · omega
  refine WL.val rfl rfl rfl (Run.loadA Tryz.isAgg58 Tryz.sizeOf58 rfl rfl (SlF.whole (SlF.st0 f_s.Wins.sl hs5) ?_)) ?_
  · omega
  refine WL.al hs5 Tryz.zeroValue58 rfl rfl (fun b9 _ hs10 => WL.r 1 hs10 [] rfl (WL.st tbk hs10 0 rfl rfl (fun _ hs11 => WL.nil (WC.r1 hs11 [0] rfl ?_))))
  refine WC.cq rfl (fun h12 qh12 => ?_) (fun h12 qh12 => ?_)
  ·refine WC.r1 hs11 [] rfl (WC.ret (ibR (tkR (tkR (ibR (tkR ?_))))))
   clear hK8 hK4
   refine rtv rfl rfl hs11 ?_
   rw [show s.dat.Wins = s.Wins.xs.map WinR.dat from rfl, findI_map]; exact congrArg (Value.int _) (findI_some (F := encWinR) (p := (fun q : WinR => decide (q.Id = p))) (xs := s.Wins.xs) (by omega) p1 h12).symm
  refine WC.skip (hK8 _ _ (WC.region (WL.r 2 hs11 [] rfl (WL.nil (tkN ?_)))))
  refine ⟨sbF rfl, (hs11.drop (by repeat (first | exact List.Sublist.refl _ | exact List.sublist_append_left _ _ | exact List.Sublist.trans (List.sublist_append_left _ _) (List.sublist_append_left _ _) | apply List.Sublist.cons | refine List.Sublist.trans ?_ (sR _)))), _, ?_, i + 1, rfl, ?_, ?_, ⟨rfl, trivial⟩⟩
  · omega
  · omega
  · intro j hj; rcases Nat.lt_or_ge j i with h_ | h_
    · exact p1 j h_
    · obtain rfl : j = i := by omega
      exact h12
 refine WC.exit (hK4 _ _ (WC.r1 hs5 [] rfl (WC.ret (rtv rfl rfl hs5 ?_))))
 rw [show s.dat.Wins = s.Wins.xs.map WinR.dat from rfl, findI_map]; exact congrArg (Value.int _) (findI_none (F := encWinR) (p := (fun q : WinR => decide (q.Id = p))) (xs := s.Wins.xs) (fun j hj => p1 j (by omega))).symm
theorem k138_ (q : SessR) (b_p : Nat) (p : ByteArray) (w : World) (f_q : okSessR 549755813888 w q) (f_p : SlF encS w (some ⟨b_p, 0, none⟩) 1 [p]) :
    Calls Tryz.prog 181 #[.agg #[.string q.Name, .slice q.Wins.A q.Wins.n q.Wins.c, i64 q.Active], .pointer (some ⟨b_p, 0, none⟩)] w fun e w' => e = .returned (.bool (decide (q.Name = p))) ∧ St w [] [] w' := by
 have nz_q_Name := f_q.Name_z
 have nb_q_Wins := f_q.Wins_n
 have nl_q_Wins := f_q.Wins.len
 refine enter 8 Tryz.func181 rfl Tryz.ntmps181 rfl rfl ?_
 have hs1 := St.init w
 refine WC.sr (WL.bx hs1 rfl (fun b2 _ hs3 => WL.r 1 hs3 [] rfl (WL.nil (WC.sr (WL.r 2 hs3 [0] rfl (WL.val rfl rfl rfl (Run.load Tryz.isAgg9 rfl rfl (SlF.var (SlF.st0 f_p hs3) rfl)) (WL.r 2 hs3 [] rfl ?_)))))))
 refine WL.nil (WC.ret (rtv rfl rfl hs3 ?_))
 rfl
theorem k139_ (A_s : Option Addr) (n_s c_s : Nat) (s : List SessR) (b_p : Nat) (p : ByteArray) (w : World) (f_s : SlN encSessR (okSessR 549755813888) w A_s n_s s) (f_p : SlF encS w (some ⟨b_p, 0, none⟩) 1 [p]) (hn : n_s ≤ 549755813888) :
    Calls Tryz.prog 180 #[.slice A_s n_s c_s, .func (.func 181) #[] #[.pointer (some ⟨b_p, 0, none⟩)]] w fun e w' => e = .returned (.int .i64 (findI (fun q => decide (q.Name = p)) s)) ∧ St w [] [] w' := by
 refine enter 19 Tryz.func180 rfl Tryz.ntmps180 rfl rfl ?_
 have hs1 := St.init w
 refine WC.r1 hs1 [] rfl (WC.seq (fun K2 hK2 => WC.r1 hs1 [] rfl (WC.block ?_)))
 refine WC.lS [0, 1, 7] rfl hs1 (fun k_ f w' => ∃ (i : Nat), k_ = n_s - i ∧ (i ≤ n_s) ∧ (∀ j, j < i → (fun q => decide (q.Name = p)) (gat encSessR s j) = false) ∧ Sub [(8, .int .i64 i)] f) ((fun (i : Nat) => n_s - i) (0)) ?_ ?_
 ·refine ⟨0, rfl, ?_, ?_, ⟨rfl, trivial⟩⟩
  · exact Nat.zero_le _
  · exact fun j hj => absurd hj (by omega)
 clear hs1
 rintro _ f w ⟨i, rfl, p0, p1, hG⟩ hF hs3
 refine WC.sub _ (hG.app hF) ?_
 clear hG hF
 refine WC.r1 hs3 [] rfl (WC.seq (fun K4 hK4 => ?_))
 refine WC.cond rfl (fun h5 => ?_) (fun h5 => ?_)
 ·have qh5 := h5
  try simp only [decide_eq_true_eq, decide_eq_false_iff_not] at qh5
  refine WC.skip (hK4 _ _ (WC.seq (fun K6 hK6 => WC.block (WC.r1 hs3 [] rfl (WC.sr (WL.r 3 hs3 [] rfl ?_))))))
  refine WL.val rfl rfl rfl (Run.idxN Tryz.runUnderlying31 Tryz.sizeOf106 rfl rfl rfl ?_ ?_ ?_) ?_
  · exact SlF.some_ (SlF.st0 f_s.sl hs3)
  · omega
  · omega
  refine WL.val rfl rfl rfl (Run.loadA Tryz.isAgg106 Tryz.sizeOf106 rfl rfl (SlF.whole (SlF.st0 f_s.sl hs3) ?_)) ?_
  · omega
  refine WL.call rfl rfl rfl (Run.callC Tryz.call181 rfl rfl rfl) (k138_ (gat encSessR s i) _ _ _ (okSessR.st0 (SlN.nth f_s (by omega)) hs3) (SlF.st0 f_p hs3)) ?_
  rintro _ whs7 ⟨rfl, hs7⟩
  replace hs7 := hs3.call0 hs7
  refine ⟨_, rfl, WL.nil (WC.cond rfl (fun h8 => ?_) (fun h8 => ?_))⟩
  ·have qh8 := h8
   try simp only [decide_eq_true_eq, decide_eq_false_iff_not] at qh8
   refine WC.r1 hs7 [] rfl (WC.ret (ibR (tkR (tkR (ibR (tkR ?_))))))
   clear hK6 hK2
   refine rtv rfl rfl hs7 ?_
   rw [findI_some (F := encSessR) (by rw [f_s.len]; omega) p1 h8]
  have qh8 := h8
  try simp only [decide_eq_true_eq, decide_eq_false_iff_not] at qh8
  refine WC.skip (hK6 _ _ (WC.region (WL.r 2 hs7 [] rfl (WL.nil (tkN ?_)))))
  refine ⟨sbF rfl, hs7, _, ?_, i + 1, rfl, ?_, ?_, ⟨rfl, trivial⟩⟩
  · omega
  · omega
  · intro j hj; rcases Nat.lt_or_ge j i with h_ | h_
    · exact p1 j h_
    · obtain rfl : j = i := by omega
      exact h8
 have qh5 := h5
 try simp only [decide_eq_true_eq, decide_eq_false_iff_not] at qh5
 refine WC.exit (hK2 _ _ (WC.r1 hs3 [] rfl (WC.ret (rtv rfl rfl hs3 ?_))))
 rw [findI_none (F := encSessR) (fun j hj => p1 j (by rw [f_s.len] at hj; omega))]
theorem k140_ (s : StateR) (p : ByteArray) (w : World) (f_s : okStateR 549755813888 w s) :
    Calls Tryz.prog 125 #[.agg #[i64 s.W, i64 s.H, i64 s.Limit, i64 s.Next, .slice s.Panes.A s.Panes.n s.Panes.c, .slice s.Wins.A s.Wins.n s.Wins.c, .slice s.Sess.A s.Sess.n s.Sess.c], .string p] w fun e w' => e = .returned (.int .i64 (findI (fun q : SessD => decide (q.Name = p)) s.dat.Sess)) ∧ St w [] [] w' := by
 have nb_s_Panes := f_s.Panes_n
 have nl_s_Panes := f_s.Panes.sl.len
 have nb_s_Wins := f_s.Wins_n
 have nl_s_Wins := f_s.Wins.sl.len
 have nb_s_Sess := f_s.Sess_n
 have nl_s_Sess := f_s.Sess.sl.len
 refine enter 9 Tryz.func125 rfl Tryz.ntmps125 rfl rfl ?_
 have hs1 := St.init w
 refine WC.sr (WL.bx hs1 rfl (fun b2 _ hs3 => WL.bx hs3 rfl (fun b4 _ hs5 => WL.r 1 hs5 [] rfl (WL.nil (WC.sr (WL.r 2 hs5 [1] rfl (WL.val rfl rfl rfl (Run.makeFunc rfl rfl) ?_)))))))
 refine WL.cl Tryz.call180 rfl (k139_ _ _ _ _ _ _ _ (SlN.st0 okSessR.st0 f_s.Sess hs5) (SlF.own1 (hs5.own _ (nthL_mem (i := 0) rfl)).1) ?_) ?_
 · first | assumption | rfl | omega
 rintro _ whs6 ⟨rfl, hs6⟩
 replace hs6 := hs5.call0 hs6
 refine ⟨_, rfl, WL.r 1 hs6 [] rfl (WL.nil (WC.ret (rtv rfl rfl hs6 ?_)))⟩
 rw [show s.dat.Sess = s.Sess.xs.map SessR.dat from rfl, findI_map]; rfl
theorem k141_ (s : StateR) (p : ByteArray) (w : World) (f_s : okStateR 549755813888 w s) :
    Calls Tryz.prog 118 #[.agg #[i64 s.W, i64 s.H, i64 s.Limit, i64 s.Next, .slice s.Panes.A s.Panes.n s.Panes.c, .slice s.Wins.A s.Wins.n s.Wins.c, .slice s.Sess.A s.Sess.n s.Sess.c], .string p] w fun e w' => e = .returned (.int .i64 (findI (fun q : SessD => decide (q.Name = p)) s.dat.Sess)) ∧ St w [] [] w' := by
 have nb_s_Panes := f_s.Panes_n
 have nl_s_Panes := f_s.Panes.sl.len
 have nb_s_Wins := f_s.Wins_n
 have nl_s_Wins := f_s.Wins.sl.len
 have nb_s_Sess := f_s.Sess_n
 have nl_s_Sess := f_s.Sess.sl.len
 refine enter 21 Tryz.func118 rfl Tryz.ntmps118 rfl rfl ?_
 have hs1 := St.init w
 refine WC.sr (WL.bx hs1 rfl (fun b2 _ hs3 => WL.r 1 hs3 [] rfl (WL.nil (WC.seq (fun K4 hK4 => WC.r1 hs3 [0] rfl (WC.block ?_))))))
 refine WC.lS [1, 8, 9] rfl hs3 (fun k_ f w' => ∃ (i : Nat), k_ = s.Sess.n - i ∧ (i ≤ s.Sess.n) ∧ (∀ j, j < i → (fun q : SessR => decide (q.Name = p)) (gat encSessR s.Sess.xs j) = false) ∧ Sub [(10, .int .i64 i)] f) ((fun (i : Nat) => s.Sess.n - i) (0)) ?_ ?_
 ·refine ⟨0, rfl, ?_, ?_, ⟨rfl, trivial⟩⟩
  · exact Nat.zero_le _
  · exact fun j hj => absurd hj (by omega)
 clear hs3
 rintro _ f w ⟨i, rfl, p0, p1, hG⟩ hF hs5
 refine WC.sub _ (hG.app hF) ?_
 clear hG hF
 refine WC.r1 hs5 [] rfl (WC.seq (fun K6 hK6 => ?_))
 refine WC.cq rfl (fun h7 qh7 => ?_) (fun h7 qh7 => ?_)
 ·refine WC.skip (hK6 _ _ (WC.seq (fun K8 hK8 => WC.block (WC.sr (WL.r 1 hs5 [] rfl ?_)))))
  refine WL.val rfl rfl rfl (Run.idxN Tryz.runUnderlying31 Tryz.sizeOf106 rfl rfl rfl ?_ ?_ ?_) ?_
  · exact SlF.some_ (SlF.st0 f_s.Sess.sl hs5)
  · omega
  · omega
  refine WL.val rfl rfl rfl (Run.loadA Tryz.isAgg106 Tryz.sizeOf106 rfl rfl (SlF.whole (SlF.st0 f_s.Sess.sl hs5) ?_)) ?_
  · omega
  refine WL.al hs5 Tryz.zeroValue106 rfl rfl (fun b9 _ hs10 => WL.r 1 hs10 [] rfl (WL.st tbk hs10 0 rfl rfl (fun _ hs11 => WL.nil (WC.r1 hs11 [0] rfl ?_))))
  refine WC.cq rfl (fun h12 qh12 => ?_) (fun h12 qh12 => ?_)
  ·refine WC.r1 hs11 [] rfl (WC.ret (ibR (tkR (tkR (ibR (tkR ?_))))))
   clear hK8 hK4
   refine rtv rfl rfl hs11 ?_
   rw [show s.dat.Sess = s.Sess.xs.map SessR.dat from rfl, findI_map]; exact congrArg (Value.int _) (findI_some (F := encSessR) (p := (fun q : SessR => decide (q.Name = p))) (xs := s.Sess.xs) (by omega) p1 h12).symm
  refine WC.skip (hK8 _ _ (WC.region (WL.r 2 hs11 [] rfl (WL.nil (tkN ?_)))))
  refine ⟨sbF rfl, (hs11.drop (by repeat (first | exact List.Sublist.refl _ | exact List.sublist_append_left _ _ | exact List.Sublist.trans (List.sublist_append_left _ _) (List.sublist_append_left _ _) | apply List.Sublist.cons | refine List.Sublist.trans ?_ (sR _)))), _, ?_, i + 1, rfl, ?_, ?_, ⟨rfl, trivial⟩⟩
  · omega
  · omega
  · intro j hj; rcases Nat.lt_or_ge j i with h_ | h_
    · exact p1 j h_
    · obtain rfl : j = i := by omega
      exact h12
 refine WC.exit (hK4 _ _ (WC.r1 hs5 [] rfl (WC.ret (rtv rfl rfl hs5 ?_))))
 rw [show s.dat.Sess = s.Sess.xs.map SessR.dat from rfl, findI_map]; exact congrArg (Value.int _) (findI_none (F := encSessR) (p := (fun q : SessR => decide (q.Name = p))) (xs := s.Sess.xs) (fun j hj => p1 j (by omega))).symm
set_option maxHeartbeats 4000000 in
theorem k142_ (p : PaneR) (w : World) (f_p : okPaneR 549755813888 w p) :
    Calls Tryz.prog 121 #[.agg #[i64 p.Id, .string p.Cmd, .string p.Dir, i64 p.Life, i64 p.Code, i64 p.Pid, i64 p.Term.P.State, .bool p.Term.P.Mark, .slice p.Term.P.Args.A p.Term.P.Args.n p.Term.P.Args.c, .slice p.Term.P.Part.A p.Term.P.Part.n p.Term.P.Part.c, i64 p.Term.S.W, i64 p.Term.S.H, i64 p.Term.S.Main.W, i64 p.Term.S.Main.H, .slice p.Term.S.Main.Cells.A p.Term.S.Main.Cells.n p.Term.S.Main.Cells.c, i64 p.Term.S.Alt.W, i64 p.Term.S.Alt.H, .slice p.Term.S.Alt.Cells.A p.Term.S.Alt.Cells.n p.Term.S.Alt.Cells.c, .bool p.Term.S.OnAlt, i64 p.Term.S.X, i64 p.Term.S.Y, .bool p.Term.S.Wrap, i64 p.Term.S.A.Fg, i64 p.Term.S.A.Bg, .bool p.Term.S.A.Bold, .bool p.Term.S.A.Under, .bool p.Term.S.A.Turn, i64 p.Term.S.Top, i64 p.Term.S.Bot, .bool p.Term.S.NoWrap, .bool p.Term.S.Hide, i64 p.Term.S.SaveX, i64 p.Term.S.SaveY, i64 p.Term.S.SaveA.Fg, i64 p.Term.S.SaveA.Bg, .bool p.Term.S.SaveA.Bold, .bool p.Term.S.SaveA.Under, .bool p.Term.S.SaveA.Turn, .slice p.Term.S.Tabs.A p.Term.S.Tabs.n p.Term.S.Tabs.c, i64 p.Term.S.Limit, .slice p.Term.S.Back.A p.Term.S.Back.n p.Term.S.Back.c]] w fun e w' => e = .returned (.bool (paneOk p.dat)) ∧ St w [] [] w' := by
 have nz_p_Cmd := f_p.Cmd_z
 have nz_p_Dir := f_p.Dir_z
 have nb_p_Term_P_Args := f_p.Term.P.Args_n
 have nl_p_Term_P_Args := f_p.Term.P.Args.len
 have nb_p_Term_P_Part := f_p.Term.P.Part_n
 have nl_p_Term_P_Part := f_p.Term.P.Part.len
 have nb_p_Term_S_Main_Cells := f_p.Term.S.Main.Cells_n
 have nl_p_Term_S_Main_Cells := f_p.Term.S.Main.Cells.len
 have nb_p_Term_S_Alt_Cells := f_p.Term.S.Alt.Cells_n
 have nl_p_Term_S_Alt_Cells := f_p.Term.S.Alt.Cells.len
 have nb_p_Term_S_Tabs := f_p.Term.S.Tabs_n
 have nl_p_Term_S_Tabs := f_p.Term.S.Tabs.len
 have nb_p_Term_S_Back := f_p.Term.S.Back_n
 have nl_p_Term_S_Back := f_p.Term.S.Back.sl.len
 refine enter 57 Tryz.func121 rfl Tryz.ntmps121 rfl rfl ?_
 have hs1 := St.init w
 refine WC.sr (WL.bx hs1 rfl (fun b2 _ hs3 => WL.r 1 hs3 [] rfl (WL.nil (WC.seq (fun K4 hK4 => WC.sr (WL.r 2 hs3 [0] rfl (WL.cl Tryz.call59 rfl (k1_ _ _) ?_)))))))
 rintro _ whs5 ⟨rfl, hs5⟩
 replace hs5 := hs3.call0 hs5
 refine ⟨_, rfl, WL.r 2 hs5 [] rfl ?_⟩
 apply WL.gO 4 Acts.nil hs5 rfl
 ·intro g6 J7
  have qg6 := g6
  try simp only [bf, within_iff, within_not] at qg6
  refine WL.runA tbk 2 (Acts.nil.cons (j := 4) rfl g6) hs5 [0] rfl ⟨rfl, trivial⟩ (WL.call (wantF rfl g6) rfl rfl (Run.call Tryz.call176 rfl rfl rfl) (k2_ _ _) ?_)
  rintro _ whs8 ⟨rfl, hs8⟩
  replace hs8 := hs5.call0 hs8
  refine ⟨_, rfl, WL.runA tbk 1 (Acts.nil.cons (j := 4) rfl g6) hs8 [] rfl trivial (WL.eO 4 Acts.nil J7 hs8 g6 rfl rfl)⟩
 intro _ hs9
 refine WL.r 1 hs9 [] rfl ?_
 apply WL.gO 4 Acts.nil hs9 rfl
 ·intro g10 J11
  have qg10 := g10
  try simp only [bf, within_iff, within_not] at qg10
  refine WL.runA tbk 2 (Acts.nil.cons (j := 10) rfl g10) hs9 [0] rfl ⟨rfl, trivial⟩ (WL.call (wantF rfl g10) rfl rfl (Run.call Tryz.call176 rfl rfl rfl) (k2_ _ _) ?_)
  rintro _ whs12 ⟨rfl, hs12⟩
  replace hs12 := hs9.call0 hs12
  refine ⟨_, rfl, WL.runA tbk 1 (Acts.nil.cons (j := 10) rfl g10) hs12 [] rfl trivial (WL.eO 4 Acts.nil J11 hs12 g10 rfl rfl)⟩
 intro _ hs13
 refine WL.r 1 hs13 [] rfl ?_
 apply WL.gO 4 Acts.nil hs13 rfl
 ·intro g14 J15
  have qg14 := g14
  try simp only [bf, within_iff, within_not] at qg14
  refine WL.runA tbk 2 (Acts.nil.cons (j := 16) rfl g14) hs13 [0] rfl ⟨rfl, trivial⟩ (WL.call (wantF rfl g14) rfl rfl (Run.call Tryz.call150 rfl rfl rfl) (k64_ p.Term _ (okTermR.st0 f_p.Term hs13)) ?_)
  rintro _ whs16 ⟨rfl, hs16⟩
  replace hs16 := hs13.call0 hs16
  refine ⟨_, rfl, WL.runA tbk 1 (Acts.nil.cons (j := 16) rfl g14) hs16 [] rfl trivial (WL.eO 4 Acts.nil J15 hs16 g14 rfl rfl)⟩
 intro _ hs17
 refine WL.nil (WC.cq rfl (fun h18 qh18 => ?_) (fun h18 qh18 => ?_))
 ·refine WC.r1 hs17 [] rfl (WC.ret (tkR ?_))
  clear hK4
  refine retV1 rfl (resV.tmp rfl) (⟨congrArg Ending.returned (congrArg Value.bool ?_), hs17.nil⟩)
  unfold paneOk; show _ = ((((isId p.Id && isCmd p.Cmd) && isCmd p.Dir) && termOk p.Term.dat) && lifeOk p.Life p.Code p.Pid)
  simp only [lifeOk, isId, isCmd, within] at *; grind
 refine WC.skip (hK4 _ _ (WC.seq (fun K19 hK19 => WC.r1 hs17 [0] rfl (WC.block (WC.r1 hs17 [] rfl ?_)))))
 refine WC.cq rfl (fun h20 qh20 => ?_) (fun h20 qh20 => ?_)
 ·refine WC.sr (WL.r 2 hs17 [0] rfl (WL.cl Tryz.call59 rfl (k1_ _ _) ?_))
  rintro _ whs21 ⟨rfl, hs21⟩
  replace hs21 := hs17.call0 hs21
  refine ⟨_, rfl, WL.r 1 hs21 [] rfl (WL.pA tbk 3 Acts.nil hs21 [0] rfl rfl rfl rfl (fun g_ => ⟨rfl, trivial⟩) (WL.r 1 hs21 [] rfl (WL.nil (WC.ret (ibR (tkR ?_))))))⟩
  clear hK19
  refine retV1 rfl (resV.tmp rfl) (⟨congrArg Ending.returned (congrArg Value.bool ?_), hs21.nil⟩)
  unfold paneOk; show _ = ((((isId p.Id && isCmd p.Cmd) && isCmd p.Dir) && termOk p.Term.dat) && lifeOk p.Life p.Code p.Pid)
  simp only [lifeOk, isId, isCmd, within] at *; grind
 refine WC.r1 hs17 [] rfl (WC.cq rfl (fun h22 qh22 => ?_) (fun h22 qh22 => ?_))
 ·refine WC.sr (WL.r 2 hs17 [0] rfl (WL.cl Tryz.call58 rfl (k0_ _ _ _ _) ?_))
  rintro _ whs23 ⟨rfl, hs23⟩
  replace hs23 := hs17.call0 hs23
  refine ⟨_, rfl, WL.r 1 hs23 [] rfl (WL.pA tbk 3 Acts.nil hs23 [0] rfl rfl rfl rfl (fun g_ => ⟨rfl, trivial⟩) (WL.r 1 hs23 [] rfl (WL.nil (WC.ret (ibR (tkR ?_))))))⟩
  clear hK19
  refine retV1 rfl (resV.tmp rfl) (⟨congrArg Ending.returned (congrArg Value.bool ?_), hs23.nil⟩)
  unfold paneOk; show _ = ((((isId p.Id && isCmd p.Cmd) && isCmd p.Dir) && termOk p.Term.dat) && lifeOk p.Life p.Code p.Pid)
  simp only [lifeOk, isId, isCmd, within] at *; grind
 refine WC.r1 hs17 [] rfl (WC.cq rfl (fun h24 qh24 => ?_) (fun h24 qh24 => ?_))
 ·refine WC.sr (WL.r 4 hs17 [0] rfl (WL.pA tbk 3 Acts.nil hs17 [0] rfl rfl rfl rfl (fun g_ => ⟨rfl, trivial⟩) (WL.r 1 hs17 [] rfl (WL.nil (WC.ret (ibR (tkR ?_)))))))
  clear hK19
  refine retV1 rfl (resV.tmp rfl) (⟨congrArg Ending.returned (congrArg Value.bool ?_), hs17.nil⟩)
  unfold paneOk; show _ = ((((isId p.Id && isCmd p.Cmd) && isCmd p.Dir) && termOk p.Term.dat) && lifeOk p.Life p.Code p.Pid)
  simp only [lifeOk, isId, isCmd, within] at *; grind
 refine WC.skip (hK19 _ _ (WC.r1 hs17 [] rfl (WC.ret (retV1 rfl (resV.tmp rfl) (⟨congrArg Ending.returned (congrArg Value.bool ?_), hs17.nil⟩)))))
 unfold paneOk; show _ = ((((isId p.Id && isCmd p.Cmd) && isCmd p.Dir) && termOk p.Term.dat) && lifeOk p.Life p.Code p.Pid)
 simp only [lifeOk, isId, isCmd, within] at *; grind
set_option maxHeartbeats 4000000 in
theorem k143_ (p : PaneR) (w : World) (f_p : okPaneR 549755813888 w p) :
    Calls Tryz.prog 120 #[.agg #[i64 p.Id, .string p.Cmd, .string p.Dir, i64 p.Life, i64 p.Code, i64 p.Pid, i64 p.Term.P.State, .bool p.Term.P.Mark, .slice p.Term.P.Args.A p.Term.P.Args.n p.Term.P.Args.c, .slice p.Term.P.Part.A p.Term.P.Part.n p.Term.P.Part.c, i64 p.Term.S.W, i64 p.Term.S.H, i64 p.Term.S.Main.W, i64 p.Term.S.Main.H, .slice p.Term.S.Main.Cells.A p.Term.S.Main.Cells.n p.Term.S.Main.Cells.c, i64 p.Term.S.Alt.W, i64 p.Term.S.Alt.H, .slice p.Term.S.Alt.Cells.A p.Term.S.Alt.Cells.n p.Term.S.Alt.Cells.c, .bool p.Term.S.OnAlt, i64 p.Term.S.X, i64 p.Term.S.Y, .bool p.Term.S.Wrap, i64 p.Term.S.A.Fg, i64 p.Term.S.A.Bg, .bool p.Term.S.A.Bold, .bool p.Term.S.A.Under, .bool p.Term.S.A.Turn, i64 p.Term.S.Top, i64 p.Term.S.Bot, .bool p.Term.S.NoWrap, .bool p.Term.S.Hide, i64 p.Term.S.SaveX, i64 p.Term.S.SaveY, i64 p.Term.S.SaveA.Fg, i64 p.Term.S.SaveA.Bg, .bool p.Term.S.SaveA.Bold, .bool p.Term.S.SaveA.Under, .bool p.Term.S.SaveA.Turn, .slice p.Term.S.Tabs.A p.Term.S.Tabs.n p.Term.S.Tabs.c, i64 p.Term.S.Limit, .slice p.Term.S.Back.A p.Term.S.Back.n p.Term.S.Back.c]] w fun e w' => e = .returned (.bool (paneOk p.dat)) ∧ St w [] [] w' := by
 have nz_p_Cmd := f_p.Cmd_z
 have nz_p_Dir := f_p.Dir_z
 have nb_p_Term_P_Args := f_p.Term.P.Args_n
 have nl_p_Term_P_Args := f_p.Term.P.Args.len
 have nb_p_Term_P_Part := f_p.Term.P.Part_n
 have nl_p_Term_P_Part := f_p.Term.P.Part.len
 have nb_p_Term_S_Main_Cells := f_p.Term.S.Main.Cells_n
 have nl_p_Term_S_Main_Cells := f_p.Term.S.Main.Cells.len
 have nb_p_Term_S_Alt_Cells := f_p.Term.S.Alt.Cells_n
 have nl_p_Term_S_Alt_Cells := f_p.Term.S.Alt.Cells.len
 have nb_p_Term_S_Tabs := f_p.Term.S.Tabs_n
 have nl_p_Term_S_Tabs := f_p.Term.S.Tabs.len
 have nb_p_Term_S_Back := f_p.Term.S.Back_n
 have nl_p_Term_S_Back := f_p.Term.S.Back.sl.len
 refine enter 71 Tryz.func120 rfl Tryz.ntmps120 rfl rfl ?_
 have hs1 := St.init w
 refine WC.sr (WL.bx hs1 rfl (fun b2 _ hs3 => WL.r 1 hs3 [] rfl (WL.nil (WC.seq (fun K4 hK4 => WC.sr (WL.r 4 hs3 [0] rfl (WL.pO tbk 3 Acts.nil hs3 [0] rfl rfl rfl rfl (fun g_ => ⟨rfl, trivial⟩) ?_)))))))
 refine WL.r 1 hs3 [] rfl (WL.pO tbk 4 Acts.nil hs3 [0] rfl rfl rfl rfl (fun g_ => ⟨rfl, trivial⟩) (WL.r 1 hs3 [] rfl (WL.pO tbk 4 Acts.nil hs3 [0] rfl rfl rfl rfl (fun g_ => ⟨rfl, trivial⟩) (WL.r 1 hs3 [] rfl ?_))))
 apply WL.gO 4 Acts.nil hs3 rfl
 ·intro g5 J6
  have qg5 := g5
  try simp only [bf, within_iff, within_not] at qg5
  refine WL.runA tbk 2 (Acts.nil.cons (j := 20) rfl g5) hs3 [0] rfl ⟨rfl, trivial⟩ (WL.call (wantF rfl g5) rfl rfl (Run.call Tryz.call136 rfl rfl rfl) (k68_ p.Term _ (okTermR.st0 f_p.Term hs3)) ?_)
  rintro _ whs7 ⟨rfl, hs7⟩
  replace hs7 := hs3.call0 hs7
  refine ⟨_, rfl, WL.runA tbk 1 (Acts.nil.cons (j := 20) rfl g5) hs7 [] rfl trivial (WL.eO 4 Acts.nil J6 hs7 g5 rfl rfl)⟩
 intro _ hs8
 refine WL.nil (WC.cq rfl (fun h9 qh9 => ?_) (fun h9 qh9 => ?_))
 ·refine WC.r1 hs8 [] rfl (WC.ret (tkR ?_))
  clear hK4
  refine retV1 rfl (resV.tmp rfl) (⟨congrArg Ending.returned (congrArg Value.bool ?_), hs8.nil⟩)
  unfold paneOk; show _ = ((((isId p.Id && isCmd p.Cmd) && isCmd p.Dir) && termOk p.Term.dat) && lifeOk p.Life p.Code p.Pid)
  simp only [lifeOk, isId, isCmd, within] at *; grind
 refine WC.skip (hK4 _ _ (WC.seq (fun K10 hK10 => WC.r1 hs8 [0] rfl (WC.block (WC.r1 hs8 [] rfl ?_)))))
 refine WC.cq rfl (fun h11 qh11 => ?_) (fun h11 qh11 => ?_)
 ·refine WC.sr (WL.r 4 hs8 [0] rfl (WL.pA tbk 3 Acts.nil hs8 [0] rfl rfl rfl rfl (fun g_ => ⟨rfl, trivial⟩) (WL.r 1 hs8 [] rfl (WL.pA tbk 3 Acts.nil hs8 [0] rfl rfl rfl rfl (fun g_ => ⟨rfl, trivial⟩) (WL.r 1 hs8 [] rfl (WL.nil (WC.ret ?_)))))))
  refine ibR (tkR ?_)
  clear hK10
  refine retV1 rfl (resV.tmp rfl) (⟨congrArg Ending.returned (congrArg Value.bool ?_), hs8.nil⟩)
  unfold paneOk; show _ = ((((isId p.Id && isCmd p.Cmd) && isCmd p.Dir) && termOk p.Term.dat) && lifeOk p.Life p.Code p.Pid)
  simp only [lifeOk, isId, isCmd, within] at *; grind
 refine WC.r1 hs8 [] rfl (WC.cq rfl (fun h12 qh12 => ?_) (fun h12 qh12 => ?_))
 ·refine WC.sr (WL.r 4 hs8 [0] rfl (WL.pA tbk 3 Acts.nil hs8 [0] rfl rfl rfl rfl (fun g_ => ⟨rfl, trivial⟩) (WL.r 1 hs8 [] rfl (WL.pA tbk 3 Acts.nil hs8 [0] rfl rfl rfl rfl (fun g_ => ⟨rfl, trivial⟩) (WL.r 1 hs8 [] rfl (WL.nil (WC.ret ?_)))))))
  refine ibR (tkR ?_)
  clear hK10
  refine retV1 rfl (resV.tmp rfl) (⟨congrArg Ending.returned (congrArg Value.bool ?_), hs8.nil⟩)
  unfold paneOk; show _ = ((((isId p.Id && isCmd p.Cmd) && isCmd p.Dir) && termOk p.Term.dat) && lifeOk p.Life p.Code p.Pid)
  simp only [lifeOk, isId, isCmd, within] at *; grind
 refine WC.r1 hs8 [] rfl (WC.cq rfl (fun h13 qh13 => ?_) (fun h13 qh13 => ?_))
 ·refine WC.sr (WL.r 4 hs8 [0] rfl (WL.pA tbk 3 Acts.nil hs8 [0] rfl rfl rfl rfl (fun g_ => ⟨rfl, trivial⟩) (WL.r 1 hs8 [] rfl (WL.nil (WC.ret (ibR (tkR ?_)))))))
  clear hK10
  refine retV1 rfl (resV.tmp rfl) (⟨congrArg Ending.returned (congrArg Value.bool ?_), hs8.nil⟩)
  unfold paneOk; show _ = ((((isId p.Id && isCmd p.Cmd) && isCmd p.Dir) && termOk p.Term.dat) && lifeOk p.Life p.Code p.Pid)
  simp only [lifeOk, isId, isCmd, within] at *; grind
 refine WC.skip (hK10 _ _ (WC.r1 hs8 [] rfl (WC.ret (retV1 rfl (resV.tmp rfl) (⟨congrArg Ending.returned (congrArg Value.bool ?_), hs8.nil⟩)))))
 unfold paneOk; show _ = ((((isId p.Id && isCmd p.Cmd) && isCmd p.Dir) && termOk p.Term.dat) && lifeOk p.Life p.Code p.Pid)
 simp only [lifeOk, isId, isCmd, within] at *; grind
theorem nthL_eq : ∀ (L : Hp) (i : Nat), nthL L i = L[i]?
 | [], _ => rfl
 | _ :: _, 0 => rfl
 | _ :: L, i + 1 => (nthL_eq L i).trans (by simp)
section
variable {P : Program} {w0 w : World} {T : List Nat} {L : Hp} {n : Nat} {ol : List Oper} {o : Oper} {rest : List Oper} {f : Fr} {d : Nat} {K : Fr → World → Prop}
theorem St.setObj (h : St w0 T L w) {i b : Nat} {o1 : Obj} (hi : nthL L i = some (b, o1)) (o2 : Obj) : St w0 T (setL L i o2) { w with heap := w.heap.setIfInBounds b o2 } := by
 have hb := (h.own _ (nthL_mem hi))
 have hlt := lt_of_heap hb.1
 have hother : ∀ k, k ≠ b → (w.heap.setIfInBounds b o2)[k]? = w.heap[k]? := fun k hk => by
  rw [Array.getElem?_setIfInBounds]; rw [if_neg (fun h => hk h.symm)]
 refine ⟨h.os, h.tape, h.output, by simpa using h.size, fun k hk hT => ?_, fun p hp => ?_, by rw [setL_keys]; exact h.nodup⟩
 ·refine (hother k ?_).trans (h.keep k hk hT)
  rintro rfl
  rcases hb.2 with h1 | h1
  ·simp at h1; omega
  ·exact hT h1
 ·rcases setL_mem hi h.nodup hp with rfl | ⟨hm, hne⟩
  ·refine ⟨?_, hb.2⟩
   show (w.heap.setIfInBounds b o2)[b]? = some o2
   rw [Array.getElem?_setIfInBounds, if_pos rfl]
   simp only at hlt
   rw [if_pos hlt]
  ·exact ⟨(hother p.1 hne).trans (h.own p hm).1, (h.own p hm).2⟩
theorem WL.makeMap {t : TypeId} (hst : St w0 T L w) (ho : o.op = .makeMap t none) (hw : want ol o f = some true) (hd : o.dst = some d) (hn : Nat.blt d n = true)
  (k : ∀ b w', St w0 T ((b, .map #[] 0) :: L) w' → WL P n ol rest K ((d, .map (some b)) :: f) w') : WL P n ol (o :: rest) K f w := by
 refine WL.val (w' := w.alloc (.map #[] 0)) hw hd hn (fun ρ hρ => ?_) (k _ _ (hst.alloc _))
 simp [execOp, ho, Instr.makeMap]
theorem St.neq (h : St w0 T L w) {i j : Nat} {p q : Nat × Obj} (hi : nthL L i = some p) (hj : nthL L j = some q) (hij : i ≠ j) : p.1 ≠ q.1 := by
 intro he
 rw [nthL_eq] at hi hj
 have h1 : (L.map (·.1))[i]? = some p.1 := by rw [List.getElem?_map, hi]; rfl
 have h2 : (L.map (·.1))[j]? = some q.1 := by rw [List.getElem?_map, hj]; rfl
 exact hij ((List.getElem?_inj (List.getElem?_eq_some_iff.1 h1).1 h.nodup).1 (h1.trans (he ▸ h2.symm)))
end
def BM (es : Array MapEntry) (q : Int → Bool) : Prop :=
 (∀ x ∈ es.toList, ∃ n v, x.key = .int .i64 n ∧ x.val = .bool v ∧ q n = v) ∧ (∀ n, q n = true → ∃ x ∈ es.toList, x.key = .int .i64 n)
theorem BM.nil : BM #[] (fun _ => false) := ⟨by simp, by simp⟩
theorem BM.keys {es : Array MapEntry} {q : Int → Bool} (h : BM es q) : ∀ x ∈ es.toList, MapKept.IsKey (.int .i64) x.key := by
 intro x hx
 obtain ⟨n, v, hk, _, _⟩ := h.1 x hx
 rw [hk]; rfl
theorem BM.find {es : Array MapEntry} {q : Int → Bool} (h : BM es q) (n : Int) :
  (Instr.findNow (.int .i64) (.int .i64 n) es.toList 0 = some none ∧ q n = false ∧ ∀ x ∈ es.toList, x.key ≠ .int .i64 n) ∨ ∃ j e, Instr.findNow (.int .i64) (.int .i64 n) es.toList 0 = some (some (j, .bool (q n))) ∧ es[j]? = some e ∧ e.key = .int .i64 n := by
 rcases MapKept.findNow_spec (d := .int .i64) (k := .int .i64 n) rfl es.toList 0 h.keys with ⟨h1, h2⟩ | ⟨j, e, h1, h2, h3⟩
 ·refine .inl ⟨h1, ?_, h2⟩
  cases hq : q n with
  | false => rfl
  | true =>
   obtain ⟨x, hx, hk⟩ := h.2 n hq
   exact absurd hk (h2 x hx)
 ·refine .inr ⟨j, e, ?_, by simpa using h2, h3⟩
  obtain ⟨m, v, hk, hv, hq⟩ := h.1 e (List.mem_of_getElem? h2)
  rw [hk] at h3
  cases h3
  rw [h1, hv, hq, Nat.zero_add]
theorem BM.put {es : Array MapEntry} {q : Int → Bool} (h : BM es q) {n : Int} {v : Bool} {clock : Nat} (hn : ∀ x ∈ es.toList, x.key ≠ .int .i64 n) : BM (es.push { key := .int .i64 n, val := .bool v, born := clock }) (fun m => if m = n then v else q m) := by
 refine ⟨fun x hx => ?_, fun m hm => ?_⟩
 ·simp only [Array.toList_push, List.mem_append, List.mem_singleton] at hx
  rcases hx with hx | rfl
  ·obtain ⟨m, u, hk, hv, hq⟩ := h.1 x hx
   refine ⟨m, u, hk, hv, ?_⟩
   show (if m = n then v else q m) = u
   rw [if_neg (fun e => hn x hx (by rw [hk, e]))]; exact hq
  ·exact ⟨n, v, rfl, rfl, by simp⟩
 ·by_cases he : m = n
  ·subst he
   exact ⟨{ key := .int .i64 m, val := .bool v, born := clock }, by simp, rfl⟩
  ·simp only [if_neg he] at hm
   obtain ⟨x, hx, hk⟩ := h.2 m hm
   exact ⟨x, by simp [hx], hk⟩
theorem BM.set {es : Array MapEntry} {q : Int → Bool} (h : BM es q) {n : Int} {v : Bool} {j : Nat} {e : MapEntry} (hj : es[j]? = some e) (hk : e.key = .int .i64 n) (hu : (es.toList.map (·.key)).Nodup) : BM (es.modify j fun e => { e with key := .int .i64 n, val := .bool v }) (fun m => if m = n then v else q m) := by
 have hmem : ∀ x, x ∈ (es.modify j fun e => { e with key := .int .i64 n, val := .bool v }).toList ↔ ∃ i y, es[i]? = some y ∧ x = if i = j then { y with key := .int .i64 n, val := .bool v } else y := by
  intro x
  rw [Array.mem_toList_iff, Array.mem_iff_getElem?]
  constructor
  ·rintro ⟨i, hi⟩
   rw [Array.getElem?_modify] at hi
   by_cases hij : j = i
   ·rw [if_pos hij] at hi
    obtain ⟨y, hy, rfl⟩ := Option.map_eq_some_iff.1 hi
    exact ⟨i, y, hy, by rw [if_pos hij.symm]⟩
   ·rw [if_neg hij] at hi
    exact ⟨i, x, hi, by rw [if_neg (fun h => hij h.symm)]⟩
  ·rintro ⟨i, y, hy, rfl⟩
   refine ⟨i, ?_⟩
   rw [Array.getElem?_modify]
   by_cases hij : j = i
   ·subst hij; rw [if_pos rfl, hy, if_pos rfl]; rfl
   ·rw [if_neg hij, hy, if_neg (fun h => hij h.symm)]
 have huniq : ∀ (i : Nat) (y : MapEntry), es[i]? = some y → y.key = .int .i64 n → i = j := by
  intro i y hy hky
  have e1 : (es.toList.map (·.key))[i]? = some (.int .i64 n) := by rw [List.getElem?_map, Array.getElem?_toList, hy, ← hky]; rfl
  have e2 : (es.toList.map (·.key))[j]? = some (.int .i64 n) := by rw [List.getElem?_map, Array.getElem?_toList, hj, ← hk]; rfl
  exact (List.getElem?_inj (List.getElem?_eq_some_iff.1 e1).1 hu).1 (e1.trans e2.symm)
 refine ⟨fun x hx => ?_, fun m hm => ?_⟩
 ·obtain ⟨i, y, hy, rfl⟩ := (hmem x).1 hx
  by_cases hij : i = j
  ·rw [if_pos hij]; exact ⟨n, v, rfl, rfl, by simp⟩
  ·rw [if_neg hij]
   obtain ⟨m, u, hk', hv, hq⟩ := h.1 y (by rw [← Array.getElem?_toList] at hy; exact List.mem_of_getElem? hy)
   refine ⟨m, u, hk', hv, ?_⟩
   show (if m = n then v else q m) = u
   rw [if_neg (fun he => hij (huniq i y hy (by rw [hk', he])))]; exact hq
 ·by_cases he : m = n
  ·subst he
   exact ⟨_, (hmem _).2 ⟨j, e, hj, rfl⟩, by rw [if_pos rfl]⟩
  ·simp only [if_neg he] at hm
   obtain ⟨x, hx, hkx⟩ := h.2 m hm
   obtain ⟨i, hi⟩ := List.mem_iff_getElem?.1 hx
   rw [Array.getElem?_toList] at hi
   by_cases hij : i = j
   ·subst hij
    rw [hj] at hi; cases hi
    rw [hk] at hkx; cases hkx; exact absurd rfl he
   ·exact ⟨x, (hmem x).2 ⟨i, x, hi, by rw [if_neg hij]⟩, hkx⟩
theorem BM.cast {es : Array MapEntry} {q q' : Int → Bool} (h : BM es q) (e : ∀ x, q x = q' x) : BM es q' := by
 have : q = q' := funext e
 rw [← this]; exact h
theorem SlF.varA {α : Type} {F : Enc α} {P : Program} {w : World} {a : Addr} {x : α} (h : SlF F w (some a) 1 [x]) : (loadCells a F.sz).run P w = .ok (F.enc x).toArray w := by
 have h1 := SlF.whole (P := P) (k := 0) h (by omega)
 have e : (adr (some a)).add (0 * F.sz) = a := by
  rw [Nat.zero_mul]
  show a.add 0 = a
  unfold Addr.add
  split <;> simp_all
 rw [e] at h1
 exact h1
section
variable {P : Program} {w0 w : World} {T : List Nat} {L : Hp} {n : Nat} {ol : List Oper} {o : Oper} {rest : List Oper} {f : Fr} {d : Nat} {K : Fr → World → Prop}
theorem Run.addS {t t' : TypeId} {x y : Operand} {a b : ByteArray} (ho : o.op = .binOp .add t x y t') (hx : ev f x = some (.string a)) (hy : ev f y = some (.string b)) (hb : a.size + b.size ≤ 9223372036854775807) : Run P o f w (.value (.string (a ++ b))) w := fun ρ hρ => by
 have h : ¬ (((a.size + b.size : Nat) : Int) > IntKind.i64.max) := by
  have e : IntKind.i64.max = 9223372036854775807 := rfl
  rw [e]; omega
 simp only [Int.natCast_add] at h
 simp [execOp, ho, hρ _ _ hx, hρ _ _ hy, eqGuard, binOp, Op.stringOp, h]
 omega
theorem Run.askM {t kt et : TypeId} {x y : Operand} {b clock : Nat} {es : Array MapEntry} {q : Int → Bool} {m : Int} (hm : P.underlying t = some (.map kt et)) (hkd : P.underlying kt = some (.int .i64)) (hz : ∀ w, (zeroValue et).run P w = .ok (.bool false) w) (ho : o.op = .lookup t x y false) (hx : ev f x = some (.map (some b))) (hy : ev f y = some (.int .i64 m))
  (hb : w.heap[b]? = some (.map es clock)) (hq : BM es q) : Run P o f w (.value (.bool (q m))) w := fun ρ hρ => by
 rcases hq.find m with ⟨h1, h2, _⟩ | ⟨j, e, h1, _⟩
 ·rw [h2]
  simp [execOp, ho, hρ _ _ hx, hρ _ _ hy, Instr.lookup, run_underlying hm, MapKept.run_getObj_map hb, MapKept.run_checkKey hkd (d := .int .i64) (k := .int .i64 m) rfl, MapKept.run_findKey hkd h1, hz, Result.andThen]
 ·simp [execOp, ho, hρ _ _ hx, hρ _ _ hy, Instr.lookup, run_underlying hm, MapKept.run_getObj_map hb, MapKept.run_checkKey hkd (d := .int .i64) (k := .int .i64 m) rfl, MapKept.run_findKey hkd h1, Result.andThen]
theorem WL.putM {L' : Array MapEntry → Nat → Hp} {t kt et : TypeId} {x y z : Operand} {b clock : Nat} {es : Array MapEntry} {q : Int → Bool} {m : Int} {v : Bool} (hst : St w0 T L w) (i : Nat) (hi : nthL L i = some (b, .map es clock)) (hm : P.underlying t = some (.map kt et)) (hkd : P.underlying kt = some (.int .i64))
  (ho : o.op = .mapUpdate t x y z) (hw : want ol o f = some true) (hd : o.dst = none) (hx : ev f x = some (.map (some b))) (hy : ev f y = some (.int .i64 m)) (hz : ev f z = some (.bool v)) (hL : ∀ e c, setLK L i (.map e c) some = some (L' e c)) (hq : BM es q) (hu : (es.toList.map (·.key)).Nodup)
  (k : ∀ es' clock' w', BM es' (fun j => if j = m then v else q j) → (es'.toList.map (·.key)).Nodup → St w0 T (L' es' clock') w' → WL P n ol rest K f w') : WL P n ol (o :: rest) K f w := by
 have hb := (hst.own _ (nthL_mem hi)).1
 rcases hq.find m with ⟨h1, h2, h3⟩ | ⟨j, e, h1, h2, h3⟩
 ·refine WL.unit (w' := { w with heap := w.heap.setIfInBounds b (.map (es.push { key := .int .i64 m, val := .bool v, born := clock }) (clock + 1)) }) hw hd (fun ρ hρ => ?_) (k _ _ _ (hq.put h3) ?_ (Option.some.inj (setLK_some (hL _ _)) ▸ hst.setObj hi _))
  ·simp [execOp, ho, hρ _ _ hx, hρ _ _ hy, hρ _ _ hz, Instr.mapUpdate, run_underlying hm, MapKept.run_getObj_map hb, MapKept.run_checkKey hkd (d := .int .i64) (k := .int .i64 m) rfl, MapKept.run_findKey hkd h1, MapKept.run_setObj_map _ hb, Result.andThen]
  ·rw [Array.toList_push, List.map_append, List.map_cons, List.map_nil, List.nodup_append]
   refine ⟨hu, by simp, ?_⟩
   intro a ha c hc
   simp only [List.mem_singleton] at hc
   subst hc
   obtain ⟨x, hx2, rfl⟩ := List.mem_map.1 ha
   exact h3 x hx2
 ·refine WL.unit (w' := { w with heap := w.heap.setIfInBounds b (.map (es.modify j fun e => { e with key := .int .i64 m, val := .bool v }) clock) }) hw hd (fun ρ hρ => ?_) (k _ _ _ (hq.set h2 h3 hu) ?_ (Option.some.inj (setLK_some (hL _ _)) ▸ hst.setObj hi _))
  ·simp [execOp, ho, hρ _ _ hx, hρ _ _ hy, hρ _ _ hz, Instr.mapUpdate, run_underlying hm, MapKept.run_getObj_map hb, MapKept.run_checkKey hkd (d := .int .i64) (k := .int .i64 m) rfl, MapKept.run_findKey hkd h1, h2, h3, MapKept.run_keyThatStays (d := .int .i64) (k := .int .i64 m) rfl, MapKept.run_setObj_map _ hb, Result.andThen]
  ·rw [MapKept.modify_keys j _ (fun e' he' => by rw [h2] at he'; cases he'; exact h3.symm)]
   exact hu
end
set_option maxHeartbeats 4000000 in
theorem k144_ (s : StateR) (w : World) (f_s : okStateR 549755813888 w s) (hT : totState s.dat ≤ 1048576) :
    Calls Tryz.prog 60 #[.agg #[i64 s.W, i64 s.H, i64 s.Limit, i64 s.Next, .slice s.Panes.A s.Panes.n s.Panes.c, .slice s.Wins.A s.Wins.n s.Wins.c, .slice s.Sess.A s.Sess.n s.Sess.c]] w fun e w' => e = .returned (.bool (panesOkI s.dat)) ∧ St w [] [] w' := by
 have nb_s_Panes := f_s.Panes_n
 have nl_s_Panes := f_s.Panes.sl.len
 have nb_s_Wins := f_s.Wins_n
 have nl_s_Wins := f_s.Wins.sl.len
 have nb_s_Sess := f_s.Sess_n
 have nl_s_Sess := f_s.Sess.sl.len
 have hsm0 : smState 1048576 s.dat := totState_sm hT
 have hlP : s.dat.Panes.length = s.Panes.xs.length := List.length_map _
 have hlW : s.dat.Wins.length = s.Wins.xs.length := List.length_map _
 have hlS : s.dat.Sess.length = s.Sess.xs.length := List.length_map _
 have hnP : s.dat.Panes.length ≤ 1048576 := hsm0.1
 have hnW : s.dat.Wins.length ≤ 1048576 := hsm0.2.2.1
 have hnS : s.dat.Sess.length ≤ 1048576 := hsm0.2.2.2.2.1
 have hWn : ∀ y, y ∈ s.Wins.xs → y.Tree.n ≤ 1048576 := fun y hy => by have h1 := (f_s.Wins.all y hy).Tree.len; have h2 : y.Tree.xs.length ≤ 1048576 := (hsm0.2.2.2.1 _ (List.mem_map_of_mem hy)).2; omega
 refine enter 83 Tryz.func60 rfl Tryz.ntmps60 rfl rfl ?_
 have hs1 := St.init w
 refine WC.sr (WL.bx hs1 rfl (fun b2 _ hs3 => WL.r 1 hs3 [] rfl (WL.nil (WC.sr (WL.makeMap hs3 rfl rfl rfl rfl (fun b4 whs5 hs5 => WL.r 1 hs5 [] rfl (WL.nil ?_)))))))
 refine WC.seq (fun K6 hK6 => WC.r1 hs5 [1] rfl (WC.block ?_))
 have hM7 := (St.grp0 [_] ((hs5.fb b2).fb b4))
 refine WC.lV [1, 3, 8, 9] rfl hM7 (fun k_ (a_ : Hp) f => ∃ (i : Nat) (es : Array MapEntry) (ck : Nat), k_ = s.Panes.n - i ∧ a_ = [(b4, .map es ck)] ∧ (i ≤ s.Panes.n) ∧ (BM es (fun x => decide (x ∈ (pidsL ((s.Panes.xs.take (i)).map PaneR.dat))))) ∧ ((es.toList.map (·.key)).Nodup) ∧ (∀ j, j < i → paneB s.dat (gat encPaneR s.Panes.xs j).dat = true ∧ (0 < j → (gat encPaneR s.Panes.xs (j - 1)).Id < (gat encPaneR s.Panes.xs j).Id) ∧ hasI (wIds s.dat) (gat encPaneR s.Panes.xs j).Id = false) ∧ ((pidsL ((s.Panes.xs.take (i)).map PaneR.dat)).Nodup) ∧ Sub [(10, .int .i64 i)] f) (((fun (i : Nat) (es : Array MapEntry) (ck : Nat) => s.Panes.n - i) (0) (#[]) (0))) ?_ ?_
 ·refine ⟨0, #[], 0, rfl, rfl, ?_, ?_, ?_, ?_, ?_, ⟨rfl, trivial⟩⟩
  · exact Nat.zero_le _
  · exact BM.cast BM.nil (fun x => (decide_eq_false (by rw [List.take_zero]; exact List.not_mem_nil)).symm)
  · exact List.nodup_nil
  · exact fun j hj => absurd hj (by omega)
  · rw [List.take_zero]; exact List.nodup_nil
 rintro _ _ f w ⟨i, es, ck, rfl, rfl, p0, p1, p2, p3, p4, hG⟩ hF hs8
 refine WC.sub _ (hG.app hF) ?_
 clear hG hF
 replace hs8 := St.ungrp0 [_] hs8
 have hs9 := ((hs8.fb b2).fb b4)
 refine WC.r1 hs9 [] rfl (WC.seq (fun K10 hK10 => ?_))
 refine WC.cq rfl (fun h11 qh11 => ?_) (fun h11 qh11 => ?_)
 ·have hTm := (SlN.nth f_s.Panes (show i < s.Panes.n by omega))
  refine WC.skip (hK10 _ _ (WC.seq (fun K12 hK12 => WC.block (WC.sr (WL.r 1 hs9 [] rfl ?_)))))
  refine WL.val rfl rfl rfl (Run.idxN Tryz.runUnderlying29 Tryz.sizeOf93 rfl rfl rfl ?_ ?_ ?_) ?_
  · exact SlF.some_ (SlF.st0 f_s.Panes.sl hs9)
  · omega
  · omega
  refine WL.val rfl rfl rfl (Run.loadA Tryz.isAgg93 Tryz.sizeOf93 rfl rfl (SlF.whole (SlF.st0 f_s.Panes.sl hs9) ?_)) ?_
  · omega
  refine WL.al hs9 Tryz.zeroValue93 rfl rfl (fun b13 _ hs14 => WL.r 1 hs14 [] rfl (WL.st tbk hs14 0 rfl rfl (fun _ hs15 => WL.nil (WC.seq (fun K16 hK16 => WC.sq1 hs15 (WQ.r 1 [0] rfl ?_))))))
  refine WQ.call rfl rfl rfl (fun w_ hs_ => (Run.call Tryz.call121 rfl rfl rfl)) (fun w_ hs_ => (k142_ (gat encPaneR s.Panes.xs i) _ (okPaneR.st0 (SlN.nth f_s.Panes (by omega)) (hs_ : St _ _ _ _))).mono fun e_ w_ h_ => ⟨h_.1, (hs_ : St _ _ _ _).call0 h_.2⟩) ?_
  refine WQ.r 2 [] rfl (WQ.pO tbk 5 Acts.nil [0, 2] rfl rfl rfl rfl (fun g_ => ⟨rfl, rfl, trivial⟩) (WQ.r 1 [] rfl ?_))
  apply WQ.gO 14 Acts.nil rfl
  ·intro g17 J18
   have qg17 := g17
   try simp only [bf, within_iff, within_not] at qg17
   refine WQ.runA tbk 3 (Acts.nil.cons (j := 10) rfl g17) [] rfl trivial ?_
   apply WQ.gA 10 (Acts.nil.cons (j := 10) rfl g17) rfl
   ·intro g19 J20
    have qg19 := g19
    try simp only [bf, within_iff, within_not] at qg19
    refine WQ.runA tbk 4 (Acts.nil.cons (j := 13) rfl g19) [2] rfl ⟨by omega, rfl, trivial⟩ ?_
    refine WQ.val (wantT rfl g19) rfl rfl (fun w_ hs_ => (Run.idxK ((i - 1)) Tryz.runUnderlying29 Tryz.sizeOf93 rfl rfl rfl ?_ ?_ ?_)) ?_
    · exact SlF.some_ (SlF.st0 f_s.Panes.sl (hs_ : St _ _ _ _))
    · omega
    · omega
    refine WQ.val (wantT rfl g19) rfl rfl (fun w_ hs_ => (Run.fieldO Tryz.runUnderlying93 rfl rfl rfl Tryz.sizeOf3 rfl)) ?_
    refine WQ.val (wantT rfl g19) rfl rfl (fun w_ hs_ => (Run.load Tryz.isAgg3 rfl rfl (SlF.fld (SlF.st0 f_s.Panes.sl (hs_ : St _ _ _ _)) ?_ rfl))) ?_
    · omega
    refine WQ.runA tbk 3 (Acts.nil.cons (j := 13) rfl g19) [0] rfl ⟨rfl, trivial⟩ (WQ.eA 10 (Acts.nil.cons (j := 10) rfl g17) J20 g19 rfl rfl)
   exact WQ.eO 4 Acts.nil J18 g17 rfl rfl
  refine WQ.r 1 [] rfl ?_
  apply WQ.gO 5 Acts.nil rfl
  ·intro g21 J22
   have qg21 := g21
   try simp only [bf, within_iff, within_not] at qg21
   refine WQ.runA tbk 3 (Acts.nil.cons (j := 26) rfl g21) [2, 0] rfl ⟨rfl, rfl, trivial⟩ ?_
   refine WQ.call (wantF rfl g21) rfl rfl (fun w_ hs_ => (Run.call Tryz.call122 rfl rfl rfl)) (fun w_ hs_ => (k136_ s _ _ (okStateR.st0 f_s (hs_ : St _ _ _ _))).mono fun e_ w_ h_ => ⟨h_.1, (hs_ : St _ _ _ _).call0 h_.2⟩) ?_
   refine WQ.runA tbk 1 (Acts.nil.cons (j := 26) rfl g21) [] rfl trivial (WQ.eO 5 Acts.nil J22 g21 rfl rfl)
  refine WQ.r 1 [] rfl (WQ.pO tbk 7 Acts.nil [0, 2] rfl rfl rfl rfl (fun g_ => ⟨rfl, rfl, trivial⟩) (WQ.nil (fun _ (hs23 : St _ _ _ _) => ?_)))
  refine WC.cq rfl (fun h24 qh24 => ?_) (fun h24 qh24 => ?_)
  ·have hbad : panesOkI s.dat = false := panesI_no (i := i) (by omega) (by
     show ((paneOk (gat encPaneR s.Panes.xs i).dat && decide ((gat encPaneR s.Panes.xs i).Id < s.Next)) && decide ((gat encPaneR s.Panes.xs i).Term.S.Limit = s.Limit)) = false ∨ _
     have h9 := h24
     simp only [Bool.or_eq_true, Bool.and_eq_true, Bool.not_eq_true', decide_eq_true_eq, winAt_has, Bool.and_eq_false_iff, decide_eq_false_iff_not, ge_iff_le, gt_iff_lt, Int.not_lt] at h9 ⊢
     grind)
   refine WC.r1 hs23 [] rfl (WC.ret (tkR (ibR (tkR (tkR (ibR (tkR ?_)))))))
   clear hK16 hK12 hK6
   refine rtv rfl rfl hs23 ?_
   rw [hbad]
  have hgood : paneB s.dat (gat encPaneR s.Panes.xs i).dat = true ∧ (0 < i → (gat encPaneR s.Panes.xs (i - 1)).Id < (gat encPaneR s.Panes.xs i).Id) ∧ hasI (wIds s.dat) (gat encPaneR s.Panes.xs i).Id = false := by
    show ((paneOk (gat encPaneR s.Panes.xs i).dat && decide ((gat encPaneR s.Panes.xs i).Id < s.Next)) && decide ((gat encPaneR s.Panes.xs i).Term.S.Limit = s.Limit)) = true ∧ _
    have h9 := h24
    rw [← Bool.not_eq_true (hasI _ _), ← winAt_has]
    simp only [Bool.or_eq_false_iff, Bool.and_eq_true, Bool.not_eq_false', decide_eq_true_eq, decide_eq_false_iff_not, Bool.and_eq_false_iff] at h9 ⊢
    grind
  refine WC.skip (hK16 _ _ (WC.seq (fun K25 hK25 => WC.sr (WL.r 4 hs23 [0] rfl ?_))))
  apply WL.gA 4 Acts.nil hs23 rfl
  ·intro g26 J27
   have qg26 := g26
   try simp only [bf, within_iff, within_not] at qg26
   refine WL.runA tbk 3 (Acts.nil.cons (j := 3) rfl g26) hs23 [0] rfl ⟨rfl, trivial⟩ (WL.val (wantT rfl g26) rfl rfl (Run.askM Tryz.underlying168 Tryz.underlying3 Tryz.zeroValue4 rfl rfl rfl (hs23.own _ (nthL_mem (i := 1) rfl)).1 p1) (WL.eA 4 Acts.nil J27 hs23 g26 rfl rfl))
  intro _ hs28
  refine WL.nil (WC.cq rfl (fun h29 qh29 => ?_) (fun h29 qh29 => ?_))
  ·have hbad : panesOkI s.dat = false := by
     have h9 := h29
     simp only [Bool.and_eq_true, decide_eq_true_eq] at h9
     exact panesI_pid_no (panesI_pid (i := i) (by omega) h9.1 h9.2)
   refine WC.r1 hs28 [] rfl (WC.ret (tkR (ibR (tkR (tkR (ibR (tkR ?_)))))))
   clear hK25 hK12 hK6
   refine rtv rfl rfl hs28 ?_
   rw [hbad]
  have hpid : ¬ ((gat encPaneR s.Panes.xs i).Life = 1 ∧ (gat encPaneR s.Panes.xs i).Pid ∈ (pidsL ((s.Panes.xs.take (i)).map PaneR.dat))) := by
    have h9 := h29
    intro h8
    rw [decide_eq_true h8.1, decide_eq_true h8.2] at h9
    exact absurd h9 (by decide)
  refine WC.skip (hK25 _ _ (WC.region (WL.r 6 hs28 [0, 0] rfl (WL.val rfl rfl rfl (Run.askM Tryz.underlying168 Tryz.underlying3 Tryz.zeroValue4 rfl rfl rfl (hs28.own _ (nthL_mem (i := 1) rfl)).1 p1) (WL.r 1 hs28 [] rfl (WL.pO tbk 3 Acts.nil hs28 [0] rfl rfl rfl rfl (fun g_ => ⟨rfl, trivial⟩) (WL.putM hs28 1 rfl Tryz.underlying168 Tryz.underlying3 rfl rfl rfl rfl rfl rfl (fun _ _ => rfl) p1 p2 (fun es31 ck32 whs30 hq33 hu34 hs30 => ?_))))))))
  refine WL.nil (hK12 _ _ (WC.region (WL.r 2 hs30 [] rfl (WL.nil (tkN ?_)))))
  replace hs30 := hs30.d1
  have hF35 := (St.grp0 [_] ((hs30.fb b2).fb b4))
  refine ⟨sbF rfl, _, hF35, _, ?_, i + 1, es31, ck32, rfl, rfl, ?_, ?_, ?_, ?_, ?_, ⟨rfl, trivial⟩⟩
  · omega
  · omega
  · exact BM.cast hq33 (fun x => by
      rw [pidsL_take (by omega)]
      by_cases hx : x = (gat encPaneR s.Panes.xs i).Pid <;> by_cases hl : (gat encPaneR s.Panes.xs i).Life = 1 <;> simp [hx, hl])
  · exact hu34
  · intro j hj; rcases Nat.lt_or_ge j i with h_ | h_
    · exact p3 j h_
    · obtain rfl : j = i := by omega
      exact hgood
  · rw [pidsL_take (by omega)]; split
    · rename_i hl; exact nodup_snoc p4 (fun hm => hpid ⟨hl, hm⟩)
    · rw [List.append_nil]; exact p4
 have hin : i = s.Panes.xs.length := by omega
 have hall := panesI_all (s := s) (fun j hj => p3 j (by omega)) (pidsC_all (i := i) (by omega) p4)
 refine WC.exit (hK6 _ _ (WC.r1 hs9 [1] rfl (WC.ret (rtv rfl rfl hs9 ?_))))
 rw [hall, nl_s_Panes]
theorem k145_ (A_a : Option Addr) (n_a c_a : Nat) (a : List Int) (A_b : Option Addr) (n_b c_b : Nat) (b : List Int) (w : World) (f_a : SlF encI w A_a n_a a) (f_b : SlF encI w A_b n_b b) (hn : n_a ≤ 1099511627776) :
    Calls Tryz.prog 179 #[.slice A_a n_a c_a, .slice A_b n_b c_b] w fun e w' => e = .returned (.bool (decide (a = b))) ∧ St w [] [] w' := by
 have hla := f_a.len
 have hlb := f_b.len
 refine enter 26 Tryz.func179 rfl Tryz.ntmps179 rfl rfl ?_
 have hs1 := St.init w
 refine WC.r1 hs1 [] rfl (WC.seq (fun K2 hK2 => WC.r1 hs1 [] rfl ?_))
 refine WC.cq rfl (fun h3 qh3 => ?_) (fun h3 qh3 => ?_)
 ·refine WC.r1 hs1 [] rfl (WC.ret (tkR ?_))
  clear hK2
  refine rtv rfl rfl hs1 ?_
  refine congrArg Value.bool ?_; symm; rw [decide_eq_false_iff_not]; intro he; subst he; omega
 refine WC.skip (hK2 _ _ (WC.seq (fun K4 hK4 => WC.r1 hs1 [] rfl (WC.block ?_))))
 refine WC.lS [0, 1, 10, 12] rfl hs1 (fun k_ f w' => ∃ (i : Nat), k_ = n_a - i ∧ (i ≤ n_a) ∧ (∀ j, j < i → gat encI a j = gat encI b j) ∧ Sub [(13, .int .i64 i)] f) ((fun (i : Nat) => n_a - i) (0)) ?_ ?_
 ·refine ⟨0, rfl, ?_, ?_, ⟨rfl, trivial⟩⟩
  · exact Nat.zero_le _
  · exact fun j hj => absurd hj (by omega)
 clear hs1
 rintro _ f w ⟨i, rfl, p0, p1, hG⟩ hF hs5
 refine WC.sub _ (hG.app hF) ?_
 clear hG hF
 refine WC.r1 hs5 [] rfl (WC.seq (fun K6 hK6 => ?_))
 refine WC.cq rfl (fun h7 qh7 => ?_) (fun h7 qh7 => ?_)
 ·refine WC.skip (hK6 _ _ (WC.seq (fun K8 hK8 => WC.block (WC.r1 hs5 [] rfl (WC.sq1 hs5 (WQ.r 2 [] rfl ?_))))))
  refine WQ.val rfl rfl rfl (fun w_ hs_ => (Run.idxN Tryz.runUnderlying60 Tryz.sizeOf3 rfl rfl rfl ?_ ?_ ?_)) ?_
  · exact SlF.some_ (SlF.st0 f_a (hs_ : St _ _ _ _))
  · omega
  · omega
  refine WQ.val rfl rfl rfl (fun w_ hs_ => (Run.load Tryz.isAgg3 rfl rfl (SlF.one1 (SlF.st0 f_a (hs_ : St _ _ _ _)) ?_ rfl))) ?_
  · omega
  refine WQ.r 2 [] rfl ?_
  refine WQ.val rfl rfl rfl (fun w_ hs_ => (Run.idxN Tryz.runUnderlying60 Tryz.sizeOf3 rfl rfl rfl ?_ ?_ ?_)) ?_
  · exact SlF.some_ (SlF.st0 f_b (hs_ : St _ _ _ _))
  · omega
  · omega
  refine WQ.val rfl rfl rfl (fun w_ hs_ => (Run.load Tryz.isAgg3 rfl rfl (SlF.one1 (SlF.st0 f_b (hs_ : St _ _ _ _)) ?_ rfl))) ?_
  · omega
  refine WQ.r 1 [] rfl (WQ.nil (fun _ (hs9 : St _ _ _ _) => ?_))
  refine WC.cq rfl (fun h10 qh10 => ?_) (fun h10 qh10 => ?_)
  ·refine WC.r1 hs9 [] rfl (WC.ret (ibR (tkR (tkR (ibR (tkR ?_))))))
   clear hK8 hK4
   refine rtv rfl rfl hs9 ?_
   refine congrArg Value.bool ?_; symm; rw [decide_eq_false_iff_not]; intro he; subst he; simp at h10
  refine WC.skip (hK8 _ _ (WC.region (WL.r 2 hs9 [] rfl (WL.nil (tkN ?_)))))
  refine ⟨sbF rfl, hs9, _, ?_, i + 1, rfl, ?_, ?_, ⟨rfl, trivial⟩⟩
  · omega
  · omega
  · intro j hj; rcases Nat.lt_or_ge j i with h_ | h_
    · exact p1 j h_
    · obtain rfl : j = i := by omega
      exact (by simpa using h10)
 refine WC.exit (hK4 _ _ (WC.r1 hs5 [] rfl (WC.ret (rtv rfl rfl hs5 ?_))))
 refine congrArg Value.bool ?_; symm; rw [decide_eq_true_eq]; exact gat_ext (F := encI) (by omega) (fun j hj => p1 j (by omega))
theorem k146_ (A_a : Option Addr) (n_a c_a : Nat) (a : List Int) (A_b : Option Addr) (n_b c_b : Nat) (b : List Int) (w : World) (f_a : SlF encI w A_a n_a a) (f_b : SlF encI w A_b n_b b) (h1 : n_a ≤ 268435456) (h2 : n_b ≤ 268435456) :
    Calls Tryz.prog 124 #[.slice A_a n_a c_a, .slice A_b n_b c_b] w fun e w' => e = .returned (.bool (decide (sortI a = sortI b))) ∧ St w [] [] w' := by
 have hla := f_a.len
 have hlb := f_b.len
 have hsa := sortI_len a
 have hsb := sortI_len b
 refine enter 18 Tryz.func124 rfl Tryz.ntmps124 rfl rfl ?_
 have hs1 := St.init w
 refine WC.r1 hs1 [] rfl (WC.sr (WL.r 1 hs1 [] rfl (WL.cl Tryz.call149 rfl (k74_ _ _ _ _ _ (SlF.st0 f_a hs1) ?_) ?_)))
 · first | assumption | rfl | omega
 rintro _ whs2 ⟨A3, c4, L1_5, rfl, hs2, ho6⟩
 replace hs2 := hs1.callF hs2
 refine ⟨_, rfl, WL.r 1 hs2 [] rfl (WL.cl Tryz.call149 rfl (k74_ _ _ _ _ _ (SlF.st0 f_b hs2) ?_) ?_)⟩
 · first | assumption | rfl | omega
 rintro _ whs7 ⟨A8, c9, L1_10, rfl, hs7, ho11⟩
 replace hs7 := hs2.callF hs7
 refine ⟨_, rfl, WL.r 2 hs7 [] rfl (WL.nil (WC.sr (WL.r 1 hs7 [] rfl (WL.cl Tryz.call166 rfl (k106_ _ _ _ _ ho6 (hs7.ow L1_5) ?_) ?_))))⟩
 · first | omega | assumption
 rintro _ whs12 ⟨L1_13, rfl, hs12, ho14⟩
 replace hs12 := St.lend (hs7.fr L1_5) hs12
 refine ⟨_, rfl, WL.nil (WC.sr (WL.r 1 hs12 [] rfl (WL.cl Tryz.call166 rfl (k106_ _ _ _ _ ho11 (hs12.ow L1_10) ?_) ?_)))⟩
 · first | omega | assumption
 rintro _ whs15 ⟨L1_16, rfl, hs15, ho17⟩
 replace hs15 := St.lend (hs12.fr L1_10) hs15
 refine ⟨_, rfl, WL.nil (WC.sr (WL.r 2 hs15 [] rfl (WL.cl Tryz.call179 rfl (k145_ _ _ _ _ _ _ _ _ _ (SlF.ofOwn ho14 (hs15.ow L1_13)) (SlF.ofOwn ho17 (hs15.ow L1_16)) ?_) ?_)))⟩
 · first | assumption | rfl | omega
 rintro _ whs18 ⟨rfl, hs18⟩
 replace hs18 := hs15.call0 hs18
 refine ⟨_, rfl, WL.r 1 hs18 [] rfl (WL.nil (WC.ret (rtv rfl rfl hs18 ?_)))⟩
 rfl
theorem ext_idx (s : ByteArray) (c : Int) (w : World) : (callFunc 289 #[.string s, .int .u8 c]).run Tryz.prog w = .ok (.value (.int .i64 (firstIdx s c.toNat.toUInt8))) w := by
  rw [run_callFunc_extern Tryz.func289 (by kernel_rfl) (by kernel_rfl) (by kernel_rfl) (e := Extern.BytealgIndexByte.indexByte) (by kernel_rfl), run_indexByte_string]
  rfl
theorem k147_ (s : ByteArray) (c : Int) (w : World) :
    Calls Tryz.prog 265 #[.string s, .int .u8 c] w fun e w' => e = .returned (.int .i64 (firstIdx s c.toNat.toUInt8)) ∧ St w [] [] w' := by
 refine enter 8 Tryz.func265 rfl Tryz.ntmps265 rfl rfl ?_
 have hs1 := St.init w
 refine WC.r1 hs1 [] rfl (WC.sr (WL.r 2 hs1 [] rfl (WL.val rfl rfl rfl (Run.ext (ext_idx _ _) rfl rfl rfl) (WL.r 1 hs1 [] rfl (WL.nil (WC.ret (retV1 rfl (resV.tmp rfl) ?_)))))))
 refine ⟨congrArg Ending.returned ?_, hs1.nil⟩
 rfl
theorem k148_ (s : ByteArray) (c : Int) (w : World) :
    Calls Tryz.prog 216 #[.string s, .int .u8 c] w fun e w' => e = .returned (.int .i64 (firstIdx s c.toNat.toUInt8)) ∧ St w [] [] w' := by
 refine enter 8 Tryz.func216 rfl Tryz.ntmps216 rfl rfl ?_
 have hs1 := St.init w
 refine WC.r1 hs1 [] rfl (WC.sr (WL.r 2 hs1 [] rfl (WL.cl Tryz.call265 rfl (k147_ _ _ _) ?_)))
 rintro _ whs2 ⟨rfl, hs2⟩
 replace hs2 := hs1.call0 hs2
 refine ⟨_, rfl, WL.r 1 hs2 [] rfl (WL.nil (WC.ret (rtv rfl rfl hs2 ?_)))⟩
 rfl
theorem k149_ (s : ByteArray) (most : Int) (more : ByteArray) (w : World) (hz : s.size ≤ 1099511627776) :
    Calls Tryz.prog 178 #[.string s, i64 most, .string more] w fun e w' => e = .returned (.bool (isPlain s most more)) ∧ St w [] [] w' := by
 refine enter 43 Tryz.func178 rfl Tryz.ntmps178 rfl rfl ?_
 have hs1 := St.init w
 refine WC.r1 hs1 [] rfl (WC.seq (fun K2 hK2 => WC.r1 hs1 [] rfl (WC.block ?_)))
 refine WC.lS [0, 1, 2, 10] rfl hs1 (fun k_ f w' => ∃ (i : Nat), k_ = s.size - i ∧ (i ≤ s.size) ∧ (upto (plainB more) s i) ∧ Sub [(11, .int .i64 i)] f) ((fun (i : Nat) => s.size - i) (0)) ?_ ?_
 ·refine ⟨0, rfl, ?_, ?_, ⟨rfl, trivial⟩⟩
  · exact Nat.zero_le _
  · exact upto_zero
 clear hs1
 rintro _ f w ⟨i, rfl, p0, p1, hG⟩ hF hs3
 refine WC.sub _ (hG.app hF) ?_
 clear hG hF
 refine WC.r1 hs3 [] rfl (WC.seq (fun K4 hK4 => ?_))
 refine WC.cD rfl (fun qh5 => ?_) (fun qh5 => ?_)
 ·refine WC.skip (hK4 _ _ (WC.seq (fun K6 hK6 => WC.block (WC.r1 hs3 [] rfl (WC.sr (WL.r 2 hs3 [] rfl ?_))))))
  refine WL.val rfl rfl rfl (Run.idxStr Tryz.runUnderlying9 rfl rfl rfl ?_ ?_) ?_
  · omega
  · omega
  refine WL.r 1 hs3 [] rfl (WL.nil (WC.sr (WL.r 3 hs3 [] rfl (WL.pA tbk 2 Acts.nil hs3 [] rfl rfl rfl rfl (fun g_ => trivial) (WL.r 1 hs3 [] rfl ?_)))))
  apply WL.gO 6 Acts.nil hs3 rfl
  ·intro g7 J8
   refine WL.runA tbk 3 (Acts.nil.cons (j := 6) rfl g7) hs3 [] rfl trivial (WL.pA tbk 2 (Acts.nil.cons (j := 6) rfl g7) hs3 [] rfl rfl rfl rfl (fun g_ => trivial) (WL.eO 4 Acts.nil J8 hs3 g7 rfl rfl))
  intro _ hs9
  refine WL.r 1 hs9 [] rfl ?_
  apply WL.gO 4 Acts.nil hs9 rfl
  ·intro g10 J11
   refine WL.runA tbk 2 (Acts.nil.cons (j := 14) rfl g10) hs9 [] rfl trivial (WL.call (wantF rfl g10) rfl rfl (Run.call Tryz.call216 rfl rfl rfl) (k148_ _ _ _) ?_)
   rintro _ whs12 ⟨rfl, hs12⟩
   replace hs12 := hs9.call0 hs12
   refine ⟨_, rfl, WL.runA tbk 1 (Acts.nil.cons (j := 14) rfl g10) hs12 [] rfl trivial (WL.eO 4 Acts.nil J11 hs12 g10 rfl rfl)⟩
  intro _ hs13
  refine WL.r 1 hs13 [] rfl (WL.nil (WC.cq rfl (fun h14 qh14 => ?_) (fun h14 qh14 => ?_)))
  ·refine WC.r1 hs13 [] rfl (WC.ret (ibR (tkR (tkR (ibR (tkR ?_))))))
   clear hK6 hK2
   refine rtv rfl rfl hs13 ?_
   have e : plainB more (sbyte s i) = false := by simpa [plainB, wordB] using qh14
   simp [isPlain, allB_false (by omega) e]
  refine WC.skip (hK6 _ _ (WC.region (WL.r 2 hs13 [] rfl (WL.nil (tkN ?_)))))
  refine ⟨sbF rfl, hs13, _, ?_, i + 1, rfl, ?_, ?_, ⟨rfl, trivial⟩⟩
  · omega
  · omega
  · refine upto_succ p1 ?_; simpa [plainB, wordB] using qh14
 refine WC.exit (hK2 _ _ (WC.sr (WL.r 3 hs3 [] rfl (WL.cl Tryz.call58 rfl (k0_ _ _ _ _) ?_))))
 rintro _ whs15 ⟨rfl, hs15⟩
 replace hs15 := hs3.call0 hs15
 refine ⟨_, rfl, WL.r 1 hs15 [] rfl (WL.nil (WC.ret (rtv rfl rfl hs15 ?_)))⟩
 simp [isPlain, allB_true p1 (by omega)]
theorem k150_ (s : ByteArray) (w : World) (hz : s.size ≤ 1099511627776) :
    Calls Tryz.prog 123 #[.string s] w fun e w' => e = .returned (.bool (wordOk s)) ∧ St w [] [] w' := by
 refine enter 5 Tryz.func123 rfl Tryz.ntmps123 rfl rfl ?_
 have hs1 := St.init w
 refine WC.r1 hs1 [] rfl (WC.sr (WL.r 1 hs1 [] rfl (WL.cl Tryz.call178 rfl (k149_ _ _ _ _ ?_) ?_)))
 · first | assumption | rfl | omega
 rintro _ whs2 ⟨rfl, hs2⟩
 replace hs2 := hs1.call0 hs2
 refine ⟨_, rfl, WL.r 1 hs2 [] rfl (WL.nil (WC.ret (rtv rfl rfl hs2 ?_)))⟩
 rfl
theorem k151_ (s : ByteArray) (w : World) (hz : s.size ≤ 1099511627776) :
    Calls Tryz.prog 117 #[.string s] w fun e w' => e = .returned (.bool (wordOk s)) ∧ St w [] [] w' := by
 refine enter 40 Tryz.func117 rfl Tryz.ntmps117 rfl rfl ?_
 have hs1 := St.init w
 refine WC.r1 hs1 [] rfl (WC.seq (fun K2 hK2 => WC.r1 hs1 [] rfl (WC.block ?_)))
 refine WC.lS [0] rfl hs1 (fun k_ f w' => ∃ (i : Nat), k_ = s.size - i ∧ (i ≤ s.size) ∧ (upto (plainB ByteArray.empty) s i) ∧ Sub [(3, .int .i64 i)] f) ((fun (i : Nat) => s.size - i) (0)) ?_ ?_
 ·refine ⟨0, rfl, ?_, ?_, ⟨rfl, trivial⟩⟩
  · exact Nat.zero_le _
  · exact upto_zero
 clear hs1
 rintro _ f w ⟨i, rfl, p0, p1, hG⟩ hF hs3
 refine WC.sub _ (hG.app hF) ?_
 clear hG hF
 refine WC.seq (fun K4 hK4 => WC.r1 hs3 [] rfl ?_)
 refine WC.cond rfl (fun h5 => ?_) (fun h5 => ?_)
 ·have qh5 := h5
  try simp only [decide_eq_true_eq, decide_eq_false_iff_not] at qh5
  refine WC.skip (hK4 _ _ (WC.seq (fun K6 hK6 => WC.block (WC.sr (WL.r 2 hs3 [] rfl ?_)))))
  refine WL.val rfl rfl rfl (Run.idxStr Tryz.runUnderlying9 rfl rfl rfl ?_ ?_) ?_
  · omega
  · omega
  refine WL.r 2 hs3 [] rfl ?_
  apply WL.gO 4 Acts.nil hs3 rfl
  ·intro g7 J8
   refine WL.runA tbk 2 (Acts.nil.cons (j := 4) rfl g7) hs3 [] rfl trivial (WL.val (wantF rfl g7) rfl rfl (Run.idxStr Tryz.runUnderlying9 rfl rfl rfl ?_ ?_) ?_)
   · omega
   · omega
   refine WL.runA tbk 1 (Acts.nil.cons (j := 4) rfl g7) hs3 [] rfl trivial (WL.eO 4 Acts.nil J8 hs3 g7 rfl rfl)
  intro _ hs9
  refine WL.r 1 hs9 [] rfl ?_
  apply WL.gA 10 Acts.nil hs9 rfl
  ·intro g10 J11
   refine WL.runA tbk 2 (Acts.nil.cons (j := 10) rfl g10) hs9 [] rfl trivial (WL.val (wantT rfl g10) rfl rfl (Run.idxStr Tryz.runUnderlying9 rfl rfl rfl ?_ ?_) ?_)
   · omega
   · omega
   refine WL.runA tbk 2 (Acts.nil.cons (j := 10) rfl g10) hs9 [] rfl trivial ?_
   apply WL.gO 4 (Acts.nil.cons (j := 10) rfl g10) hs9 rfl
   ·intro g12 J13
    refine WL.runA tbk 2 (Acts.nil.cons (j := 15) rfl g12) hs9 [] rfl trivial (WL.val (wantF rfl g12) rfl rfl (Run.idxStr Tryz.runUnderlying9 rfl rfl rfl ?_ ?_) ?_)
    · omega
    · omega
    refine WL.runA tbk 1 (Acts.nil.cons (j := 15) rfl g12) hs9 [] rfl trivial (WL.eO 4 (Acts.nil.cons (j := 10) rfl g10) J13 hs9 g12 rfl rfl)
   intro _ hs14
   exact WL.eA 6 Acts.nil J11 hs14 g10 rfl rfl
  intro _ hs15
  refine WL.nil (WC.cond rfl (fun h16 => ?_) (fun h16 => ?_))
  ·have qh16 := h16
   try simp only [decide_eq_true_eq, decide_eq_false_iff_not] at qh16
   refine WC.r1 hs15 [] rfl (WC.ret (ibR (tkR (tkR (ibR (tkR ?_))))))
   clear hK6 hK2
   refine rtv rfl rfl hs15 ?_
   have e : plainB ByteArray.empty (sbyte s i) = false := by rw [plainB_empty]; simp only [Int.toNat_natCast] at qh16; exact wordB_not qh16
   simp [wordOk, isPlain, allB_false (by omega) e]
  have qh16 := h16
  try simp only [decide_eq_true_eq, decide_eq_false_iff_not] at qh16
  refine WC.skip (hK6 _ _ (WC.region (WL.r 3 hs15 [] rfl (WL.nil (tkN ?_)))))
  refine ⟨sbF rfl, hs15, _, ?_, i + 1, rfl, ?_, ?_, ⟨rfl, trivial⟩⟩
  · omega
  · omega
  · refine upto_succ p1 ?_; rw [plainB_empty]; simp only [Int.toNat_natCast] at qh16; exact wordB_of qh16
 have qh5 := h5
 try simp only [decide_eq_true_eq, decide_eq_false_iff_not] at qh5
 refine WC.exit (hK2 _ _ (WC.sr (WL.r 4 hs3 [] rfl (WL.pA tbk 3 Acts.nil hs3 [] rfl rfl rfl rfl (fun g_ => trivial) (WL.r 1 hs3 [] rfl (WL.nil (WC.ret ?_)))))))
 refine rtv rfl rfl hs3 ?_
 simp only [wordOk, isPlain, allB_true p1 (by omega), Bool.true_and]; rfl
set_option maxHeartbeats 4000000 in
theorem k152_ (s : StateR) (w : World) (f_s : okStateR 549755813888 w s) (hT : totState s.dat ≤ 1048576) :
    Calls Tryz.prog 61 #[.agg #[i64 s.W, i64 s.H, i64 s.Limit, i64 s.Next, .slice s.Panes.A s.Panes.n s.Panes.c, .slice s.Wins.A s.Wins.n s.Wins.c, .slice s.Sess.A s.Sess.n s.Sess.c]] w fun e w' => e = .returned (.bool (winsOkI s.dat)) ∧ St w [] [] w' := by
 have nb_s_Panes := f_s.Panes_n
 have nl_s_Panes := f_s.Panes.sl.len
 have nb_s_Wins := f_s.Wins_n
 have nl_s_Wins := f_s.Wins.sl.len
 have nb_s_Sess := f_s.Sess_n
 have nl_s_Sess := f_s.Sess.sl.len
 have hsm0 : smState 1048576 s.dat := totState_sm hT
 have hlP : s.dat.Panes.length = s.Panes.xs.length := List.length_map _
 have hlW : s.dat.Wins.length = s.Wins.xs.length := List.length_map _
 have hlS : s.dat.Sess.length = s.Sess.xs.length := List.length_map _
 have hnP : s.dat.Panes.length ≤ 1048576 := hsm0.1
 have hnW : s.dat.Wins.length ≤ 1048576 := hsm0.2.2.1
 have hnS : s.dat.Sess.length ≤ 1048576 := hsm0.2.2.2.2.1
 have hWn : ∀ y, y ∈ s.Wins.xs → y.Tree.n ≤ 1048576 := fun y hy => by have h1 := (f_s.Wins.all y hy).Tree.len; have h2 : y.Tree.xs.length ≤ 1048576 := (hsm0.2.2.2.1 _ (List.mem_map_of_mem hy)).2; omega
 have hWnm : ∀ y, y ∈ s.Wins.xs → y.Name.size ≤ 1048576 := fun y hy => (hsm0.2.2.2.1 _ (List.mem_map_of_mem hy)).1
 refine enter 104 Tryz.func61 rfl Tryz.ntmps61 rfl rfl ?_
 have hs1 := St.init w
 refine WC.sr (WL.bx hs1 rfl (fun b2 _ hs3 => WL.r 1 hs3 [] rfl (WL.nil (WC.sr (WL.buildF (F := encI) hs3 ([]) Tryz.runUnderlying60 Tryz.sizeOf3 Tryz.zeroValue3 rfl rfl rfl rfl rfl rfl rfl rfl rfl rfl rfl rfl (fun A7 c8 L4 whs5 hs5 ho6 => ?_))))))
 replace hs5 := St.back [_] hs5
 refine WL.buildF (F := encI) hs5 ([]) Tryz.runUnderlying60 Tryz.sizeOf3 Tryz.zeroValue3 rfl rfl rfl rfl rfl rfl rfl rfl rfl rfl rfl rfl (fun A12 c13 L9 whs10 hs10 ho11 => ?_)
 replace hs10 := St.back [_] hs10
 refine WL.r 2 hs10 [] rfl (WL.nil (WC.seq (fun K14 hK14 => WC.r1 hs10 [0] rfl (WC.block ?_))))
 refine WC.lO [1, 4, 14, 15] rfl (hs10.fr L4) (fun k_ f L_ => ∃ (zs : List Int) (i : Nat) (A15 : Option Addr) (c16 : Nat), k_ = s.Wins.n - i ∧ (i ≤ s.Wins.n) ∧ (zs = (treesL ((s.Wins.xs.take (i)).map WinR.dat))) ∧ (zs.length ≤ 31 * i) ∧ (∀ j, j < i → winB s.dat (gat encWinR s.Wins.xs j).dat = true ∧ (0 < j → (gat encWinR s.Wins.xs (j - 1)).Id < (gat encWinR s.Wins.xs j).Id)) ∧ OwnF encI 3 (.slice A15 (zs.length) c16) (zs) L_ ∧ Sub [(3, .slice A15 (zs.length) c16), (16, .int .i64 i)] f) (((fun (zs : List Int) (i : Nat) => s.Wins.n - i) ([]) (0))) ?_ ?_
 ·refine ⟨[], 0, _, _, rfl, ?_, ?_, ?_, ?_, ho6, ⟨rfl, rfl, trivial⟩⟩
  · exact Nat.zero_le _
  · rfl
  · exact Nat.le_refl _
  · exact fun j hj => absurd hj (by omega)
 clear hs10
 rintro _ f w L17 ⟨zs, i, A15, c16, rfl, p0, p1, p2, p3, ho18, hG⟩ hF hs19
 refine WC.sub _ (hG.app hF) ?_
 clear hG hF
 replace hs19 := St.back [_] hs19
 refine WC.r1 hs19 [] rfl (WC.seq (fun K20 hK20 => ?_))
 refine WC.cq rfl (fun h21 qh21 => ?_) (fun h21 qh21 => ?_)
 ·have hTm := (SlN.nth f_s.Wins (show i < s.Wins.n by omega))
  have hTl := hTm.Tree.len
  have hWi := hWn (gat encWinR s.Wins.xs i) (gat_mem (by omega))
  have hWj := hWnm (gat encWinR s.Wins.xs i) (gat_mem (by omega))
  have hll := leavesL_len (gat encWinR s.Wins.xs i).Tree.xs
  have hpll := panesL_len (gat encWinR s.Wins.xs i).Tree.xs
  refine WC.skip (hK20 _ _ (WC.seq (fun K22 hK22 => WC.block (WC.sr (WL.r 1 hs19 [] rfl ?_)))))
  refine WL.val rfl rfl rfl (Run.idxN Tryz.runUnderlying30 Tryz.sizeOf58 rfl rfl rfl ?_ ?_ ?_) ?_
  · exact SlF.some_ (SlF.st0 f_s.Wins.sl hs19)
  · first | omega | (simp only [decide_eq_true_eq] at *; omega)
  · first | omega | (simp only [decide_eq_true_eq] at *; omega)
  refine WL.val rfl rfl rfl (Run.loadA Tryz.isAgg58 Tryz.sizeOf58 rfl rfl (SlF.whole (SlF.st0 f_s.Wins.sl hs19) ?_)) ?_
  · first | omega | (simp only [decide_eq_true_eq] at *; omega)
  refine WL.al hs19 Tryz.zeroValue58 rfl rfl (fun b23 _ hs24 => WL.r 1 hs24 [] rfl (WL.st tbk hs24 0 rfl rfl (fun _ hs25 => WL.nil (WC.sr (WL.r 6 hs25 [0, 1, 1] rfl ?_)))))
  refine WL.cl Tryz.call112 rfl (k125_ _ _ _ _ _ _ _ (SlF.st0 (SlN.nth f_s.Wins (by first | omega | (simp only [decide_eq_true_eq] at *; omega))).Tree hs25) ?_) ?_
  · first | assumption | rfl | omega
  rintro _ whs26 ⟨A27, c28, L1_29, rfl, hs26, ho30⟩
  replace hs26 := hs25.callF hs26
  refine ⟨_, rfl, ?_⟩
  replace hs26 := St.back [_, _] hs26
  refine WL.r 5 hs26 [] rfl (WL.nil (WC.seq (fun K31 hK31 => WC.seq (fun K32 hK32 => WC.rH hs26 hs26 (fun _ hs33 => ?_)))))
  refine WH.rn [0, 1, 2, 3] hs33 [0] rfl rfl (WH.split 34 rfl (fun g34 => ?_) (fun g34 => ?_))
  ·refine WH.takeSkip 4 rfl (by kernel_rfl) (wantNF rfl g34) rfl rfl hs33 (WH.takeSkip 5 rfl (by kernel_rfl) (wantNF rfl g34) rfl rfl hs33 (WH.takeSkip 6 rfl (by kernel_rfl) (wantNF rfl g34) rfl rfl hs33 (WH.takeSkip 7 rfl (by kernel_rfl) (wantNF rfl g34) rfl rfl hs33 (WH.takeSkip 8 rfl (by kernel_rfl) (wantNF rfl g34) rfl rfl hs33 ?_))))
   refine WH.take 9 rfl (by kernel_rfl) rfl rfl rfl hs33 (fun w_ hs_ => (Run.pickT rfl rfl g34 rfl)) ?_
   refine WH.rn [10] hs33 [] rfl rfl (WH.takeSkip 11 rfl (by kernel_rfl) (wantNF rfl rfl) rfl rfl hs33 (WH.takeSkip 12 rfl (by kernel_rfl) (wantNF rfl rfl) rfl rfl hs33 (WH.takeSkip 13 rfl (by kernel_rfl) (wantNF rfl rfl) rfl rfl hs33 (WH.takeSkip 14 rfl (by kernel_rfl) rfl rfl rfl hs33 (WH.takeSkip 15 rfl (by kernel_rfl) rfl rfl rfl hs33 (WH.takeSkip 16 rfl (by kernel_rfl) rfl rfl rfl hs33 (WH.takeSkip 17 rfl (by kernel_rfl) rfl rfl rfl hs33 ?_)))))))
   refine WH.takeSkip 18 rfl (by kernel_rfl) rfl rfl rfl hs33 (WH.takeSkip 19 rfl (by kernel_rfl) rfl rfl rfl hs33 (WH.takeSkip 20 rfl (by kernel_rfl) rfl rfl rfl hs33 (WH.takeSkip 21 rfl (by kernel_rfl) rfl rfl rfl hs33 (WH.takeSkip 22 rfl (by kernel_rfl) rfl rfl rfl hs33 (WH.takeSkip 23 rfl (by kernel_rfl) rfl rfl rfl hs33 (WH.takeSkip 24 rfl (by kernel_rfl) (wantNF rfl rfl) rfl rfl hs33 ?_))))))
   refine WH.take 25 rfl (by kernel_rfl) rfl rfl rfl hs33 (fun w_ hs_ => (Run.pickT rfl rfl rfl rfl)) ?_
   refine WH.rn [26] hs33 [] rfl rfl (WH.takeSkip 27 rfl (by kernel_rfl) (wantNF rfl rfl) rfl rfl hs33 (WH.takeSkip 28 rfl (by kernel_rfl) (wantNF rfl rfl) rfl rfl hs33 (WH.o1 29 rfl (WL.skip (wantNF rfl rfl) rfl rfl (WL.nil ⟨hs33, WH.takeSkip 30 rfl (by kernel_rfl) (wantNF rfl rfl) rfl rfl hs33 ?_⟩)))))
   refine WH.take 31 rfl (by kernel_rfl) rfl rfl rfl hs33 (fun w_ hs_ => (Run.pickT rfl rfl rfl rfl)) ?_
   refine WH.rn [32] hs33 [] rfl rfl (WH.takeSkip 33 rfl (by kernel_rfl) (wantNF rfl rfl) rfl rfl hs33 (WH.takeSkip 34 rfl (by kernel_rfl) (wantNF rfl rfl) rfl rfl hs33 ?_))
   refine WH.take 35 rfl (by kernel_rfl) rfl rfl rfl hs33 (fun w_ hs_ => (Run.pickT rfl rfl rfl rfl)) ?_
   refine WH.rn [36] hs33 [] rfl rfl (WH.takeSkip 37 rfl (by kernel_rfl) (wantNF rfl rfl) rfl rfl hs33 (WH.takeSkip 38 rfl (by kernel_rfl) (wantNF rfl rfl) rfl rfl hs33 (WH.takeSkip 40 rfl (by kernel_rfl) (wantNF rfl rfl) rfl rfl hs33 (WH.takeSkip 41 rfl (by kernel_rfl) (wantNF rfl rfl) rfl rfl hs33 (WH.o1 39 rfl (WL.skip (wantNF rfl rfl) rfl rfl (WL.nil ⟨hs33, ?_⟩)))))))
   refine WH.o1 42 rfl (WL.skip (wantNF rfl rfl) rfl rfl (WL.nil ⟨hs33, WH.takeSkip 43 rfl (by kernel_rfl) (wantNF rfl rfl) rfl rfl hs33 ?_⟩))
   refine WH.take 44 rfl (by kernel_rfl) rfl rfl rfl hs33 (fun w_ hs_ => (Run.pickT rfl rfl rfl rfl)) ?_
   refine WH.dn (hK32 _ _ (WC.condT rfl rfl ?_))
   have hbad : winsC s.dat = false := winsI_no (i := i) (by omega) (by
     show (((decide (1 ≤ (gat encWinR s.Wins.xs i).Id) && decide ((gat encWinR s.Wins.xs i).Id < s.Next)) && (wordOk (gat encWinR s.Wins.xs i).Name && placesOk (gat encWinR s.Wins.xs i).Tree.xs s.W s.H)) && hasI (panesL (gat encWinR s.Wins.xs i).Tree.xs) (gat encWinR s.Wins.xs i).Active) = false ∨ _
     grind)
   have hbadI : winsOkI s.dat = false := by unfold winsOkI; rw [hbad, Bool.false_and]
   refine WC.r1 hs33 [] rfl (WC.ret (tkR (ibR (tkR (tkR (ibR (tkR ?_)))))))
   clear hK31 hK22 hK14
   refine rtv rfl rfl hs33 ?_
   first | rw [hbadI] | (rw [htr, hys]; unfold winsOkI perm1; rw [hWc, Bool.true_and]; congr 2; rw [decide_eq_decide]; omega)
  refine WH.rnA (Acts.nil.cons (j := 3) rfl g34) [4, 5, 6, 7, 8] hs33 [0, 1] rfl rfl ?_
  refine WH.take 9 rfl (by kernel_rfl) rfl rfl rfl hs33 (fun w_ hs_ => (Run.pick rfl rfl rfl rfl)) ?_
  refine WH.rn [10] hs33 [] rfl rfl (WH.split 41 rfl (fun g36 => ?_) (fun g36 => ?_))
  ·refine WH.takeSkip 11 rfl (by kernel_rfl) (wantNF rfl g36) rfl rfl hs33 (WH.takeSkip 12 rfl (by kernel_rfl) (wantNF rfl g36) rfl rfl hs33 (WH.takeSkip 13 rfl (by kernel_rfl) (wantNF rfl g36) rfl rfl hs33 (WH.takeSkip 14 rfl (by kernel_rfl) rfl rfl rfl hs33 (WH.takeSkip 15 rfl (by kernel_rfl) rfl rfl rfl hs33 (WH.takeSkip 16 rfl (by kernel_rfl) rfl rfl rfl hs33 (WH.takeSkip 17 rfl (by kernel_rfl) rfl rfl rfl hs33 (WH.takeSkip 18 rfl (by kernel_rfl) rfl rfl rfl hs33 ?_)))))))
   refine WH.takeSkip 19 rfl (by kernel_rfl) rfl rfl rfl hs33 (WH.takeSkip 20 rfl (by kernel_rfl) rfl rfl rfl hs33 (WH.takeSkip 21 rfl (by kernel_rfl) rfl rfl rfl hs33 (WH.takeSkip 22 rfl (by kernel_rfl) rfl rfl rfl hs33 (WH.takeSkip 23 rfl (by kernel_rfl) rfl rfl rfl hs33 (WH.takeSkip 24 rfl (by kernel_rfl) (wantNF rfl g36) rfl rfl hs33 ?_)))))
   refine WH.take 25 rfl (by kernel_rfl) rfl rfl rfl hs33 (fun w_ hs_ => (Run.pickT rfl rfl g36 rfl)) ?_
   refine WH.rn [26] hs33 [] rfl rfl (WH.takeSkip 27 rfl (by kernel_rfl) (wantNF rfl rfl) rfl rfl hs33 (WH.takeSkip 28 rfl (by kernel_rfl) (wantNF rfl rfl) rfl rfl hs33 (WH.o1 29 rfl (WL.skip (wantNF rfl rfl) rfl rfl (WL.nil ⟨hs33, WH.takeSkip 30 rfl (by kernel_rfl) (wantNF rfl rfl) rfl rfl hs33 ?_⟩)))))
   refine WH.take 31 rfl (by kernel_rfl) rfl rfl rfl hs33 (fun w_ hs_ => (Run.pickT rfl rfl rfl rfl)) ?_
   refine WH.rn [32] hs33 [] rfl rfl (WH.takeSkip 33 rfl (by kernel_rfl) (wantNF rfl rfl) rfl rfl hs33 (WH.takeSkip 34 rfl (by kernel_rfl) (wantNF rfl rfl) rfl rfl hs33 ?_))
   refine WH.take 35 rfl (by kernel_rfl) rfl rfl rfl hs33 (fun w_ hs_ => (Run.pickT rfl rfl rfl rfl)) ?_
   refine WH.rn [36] hs33 [] rfl rfl (WH.takeSkip 37 rfl (by kernel_rfl) (wantNF rfl rfl) rfl rfl hs33 (WH.takeSkip 38 rfl (by kernel_rfl) (wantNF rfl rfl) rfl rfl hs33 (WH.takeSkip 40 rfl (by kernel_rfl) (wantNF rfl rfl) rfl rfl hs33 (WH.takeSkip 41 rfl (by kernel_rfl) (wantNF rfl rfl) rfl rfl hs33 (WH.o1 39 rfl (WL.skip (wantNF rfl rfl) rfl rfl (WL.nil ⟨hs33, ?_⟩)))))))
   refine WH.o1 42 rfl (WL.skip (wantNF rfl rfl) rfl rfl (WL.nil ⟨hs33, WH.takeSkip 43 rfl (by kernel_rfl) (wantNF rfl rfl) rfl rfl hs33 ?_⟩))
   refine WH.take 44 rfl (by kernel_rfl) rfl rfl rfl hs33 (fun w_ hs_ => (Run.pickT rfl rfl rfl rfl)) ?_
   refine WH.dn (hK32 _ _ (WC.condT rfl rfl ?_))
   have hbad : winsC s.dat = false := winsI_no (i := i) (by omega) (by
     show (((decide (1 ≤ (gat encWinR s.Wins.xs i).Id) && decide ((gat encWinR s.Wins.xs i).Id < s.Next)) && (wordOk (gat encWinR s.Wins.xs i).Name && placesOk (gat encWinR s.Wins.xs i).Tree.xs s.W s.H)) && hasI (panesL (gat encWinR s.Wins.xs i).Tree.xs) (gat encWinR s.Wins.xs i).Active) = false ∨ _
     grind)
   have hbadI : winsOkI s.dat = false := by unfold winsOkI; rw [hbad, Bool.false_and]
   refine WC.r1 hs33 [] rfl (WC.ret (tkR (ibR (tkR (tkR (ibR (tkR ?_)))))))
   clear hK31 hK22 hK14
   refine rtv rfl rfl hs33 ?_
   first | rw [hbadI] | (rw [htr, hys]; unfold winsOkI perm1; rw [hWc, Bool.true_and]; congr 2; rw [decide_eq_decide]; omega)
  refine WH.rnA (Acts.nil.cons (j := 10) rfl g36) [11, 12, 13] hs33 [] rfl rfl (WH.split 44 rfl (fun g38 => ?_) (fun g38 => ?_))
  ·refine WH.rnA (Acts.nil.cons (j := 13) rfl g38) [14, 15, 16, 17] hs33 [1] rfl rfl ?_
   refine WH.take 18 rfl (by kernel_rfl) (wantT rfl g38) rfl rfl hs33 (fun w_ hs_ => (Run.idxK ((i - 1)) Tryz.runUnderlying30 Tryz.sizeOf58 rfl rfl rfl ?_ ?_ ?_)) ?_
   · exact SlF.some_ (SlF.st0 f_s.Wins.sl (hs_ : St _ _ _ _))
   · first | omega | (simp only [decide_eq_true_eq] at *; omega)
   · first | omega | (simp only [decide_eq_true_eq] at *; omega)
   refine WH.take 19 rfl (by kernel_rfl) (wantT rfl g38) rfl rfl hs33 (fun w_ hs_ => (Run.fieldO Tryz.runUnderlying58 rfl rfl rfl Tryz.sizeOf3 rfl)) ?_
   refine WH.take 20 rfl (by kernel_rfl) (wantT rfl g38) rfl rfl hs33 (fun w_ hs_ => (Run.load Tryz.isAgg3 rfl rfl (SlF.fld (SlF.st0 f_s.Wins.sl (hs_ : St _ _ _ _)) ?_ rfl))) ?_
   · first | omega | (simp only [decide_eq_true_eq] at *; omega)
   refine WH.rnA (Acts.nil.cons (j := 13) rfl g38) [21, 22, 23] hs33 [0] rfl rfl ?_
   refine WH.take 24 rfl (by kernel_rfl) (wantF rfl g36) rfl rfl hs33 (fun w_ hs_ => (Run.pick rfl rfl rfl rfl)) ?_
   refine WH.take 25 rfl (by kernel_rfl) rfl rfl rfl hs33 (fun w_ hs_ => (Run.pick rfl rfl rfl rfl)) ?_
   refine WH.rn [26] hs33 [] rfl rfl (WH.split 57 rfl (fun g39 => ?_) (fun g39 => ?_))
   ·refine WH.takeSkip 27 rfl (by kernel_rfl) (wantNF rfl g39) rfl rfl hs33 (WH.takeSkip 28 rfl (by kernel_rfl) (wantNF rfl g39) rfl rfl hs33 (WH.o1 29 rfl (WL.skip (wantNF rfl g39) rfl rfl (WL.nil ⟨hs33, WH.takeSkip 30 rfl (by kernel_rfl) (wantNF rfl g39) rfl rfl hs33 ?_⟩))))
    refine WH.take 31 rfl (by kernel_rfl) rfl rfl rfl hs33 (fun w_ hs_ => (Run.pickT rfl rfl g39 rfl)) ?_
    refine WH.rn [32] hs33 [] rfl rfl (WH.takeSkip 33 rfl (by kernel_rfl) (wantNF rfl rfl) rfl rfl hs33 (WH.takeSkip 34 rfl (by kernel_rfl) (wantNF rfl rfl) rfl rfl hs33 ?_))
    refine WH.take 35 rfl (by kernel_rfl) rfl rfl rfl hs33 (fun w_ hs_ => (Run.pickT rfl rfl rfl rfl)) ?_
    refine WH.rn [36] hs33 [] rfl rfl (WH.takeSkip 37 rfl (by kernel_rfl) (wantNF rfl rfl) rfl rfl hs33 (WH.takeSkip 38 rfl (by kernel_rfl) (wantNF rfl rfl) rfl rfl hs33 (WH.takeSkip 40 rfl (by kernel_rfl) (wantNF rfl rfl) rfl rfl hs33 (WH.takeSkip 41 rfl (by kernel_rfl) (wantNF rfl rfl) rfl rfl hs33 (WH.o1 39 rfl (WL.skip (wantNF rfl rfl) rfl rfl (WL.nil ⟨hs33, ?_⟩)))))))
    refine WH.o1 42 rfl (WL.skip (wantNF rfl rfl) rfl rfl (WL.nil ⟨hs33, WH.takeSkip 43 rfl (by kernel_rfl) (wantNF rfl rfl) rfl rfl hs33 ?_⟩))
    refine WH.take 44 rfl (by kernel_rfl) rfl rfl rfl hs33 (fun w_ hs_ => (Run.pickT rfl rfl rfl rfl)) ?_
    refine WH.dn (hK32 _ _ (WC.condT rfl rfl ?_))
    have hbad : winsC s.dat = false := winsI_no (i := i) (by omega) (by
      show (((decide (1 ≤ (gat encWinR s.Wins.xs i).Id) && decide ((gat encWinR s.Wins.xs i).Id < s.Next)) && (wordOk (gat encWinR s.Wins.xs i).Name && placesOk (gat encWinR s.Wins.xs i).Tree.xs s.W s.H)) && hasI (panesL (gat encWinR s.Wins.xs i).Tree.xs) (gat encWinR s.Wins.xs i).Active) = false ∨ _
      grind)
    have hbadI : winsOkI s.dat = false := by unfold winsOkI; rw [hbad, Bool.false_and]
    refine WC.r1 hs33 [] rfl (WC.ret (tkR (ibR (tkR (tkR (ibR (tkR ?_)))))))
    clear hK31 hK22 hK14
    refine rtv rfl rfl hs33 ?_
    first | rw [hbadI] | (rw [htr, hys]; unfold winsOkI perm1; rw [hWc, Bool.true_and]; congr 2; rw [decide_eq_decide]; omega)
   refine WH.rnA (Acts.nil.cons (j := 26) rfl g39) [27, 28] hs33 [0] rfl rfl (WH.o1 29 rfl (WL.call (wantF rfl g39) rfl rfl (Run.call Tryz.call123 rfl rfl rfl) (k150_ _ _ ?_) ?_))
   · first | assumption | rfl | omega
   rintro _ whs41 ⟨rfl, hs41⟩
   replace hs41 := hs33.call0 hs41
   refine ⟨_, rfl, WL.nil ⟨hs41, WH.rnA (Acts.nil.cons (j := 26) rfl g39) [30] hs41 [] rfl rfl ?_⟩⟩
   refine WH.take 31 rfl (by kernel_rfl) rfl rfl rfl hs41 (fun w_ hs_ => (Run.pick rfl rfl rfl rfl)) ?_
   refine WH.rn [32] hs41 [] rfl rfl (WH.split 63 rfl (fun g42 => ?_) (fun g42 => ?_))
   ·refine WH.takeSkip 33 rfl (by kernel_rfl) (wantNF rfl g42) rfl rfl hs41 (WH.takeSkip 34 rfl (by kernel_rfl) (wantNF rfl g42) rfl rfl hs41 ?_)
    refine WH.take 35 rfl (by kernel_rfl) rfl rfl rfl hs41 (fun w_ hs_ => (Run.pickT rfl rfl g42 rfl)) ?_
    refine WH.rn [36] hs41 [] rfl rfl (WH.takeSkip 37 rfl (by kernel_rfl) (wantNF rfl rfl) rfl rfl hs41 (WH.takeSkip 38 rfl (by kernel_rfl) (wantNF rfl rfl) rfl rfl hs41 (WH.takeSkip 40 rfl (by kernel_rfl) (wantNF rfl rfl) rfl rfl hs41 (WH.takeSkip 41 rfl (by kernel_rfl) (wantNF rfl rfl) rfl rfl hs41 (WH.o1 39 rfl (WL.skip (wantNF rfl rfl) rfl rfl (WL.nil ⟨hs41, ?_⟩)))))))
    refine WH.o1 42 rfl (WL.skip (wantNF rfl rfl) rfl rfl (WL.nil ⟨hs41, WH.takeSkip 43 rfl (by kernel_rfl) (wantNF rfl rfl) rfl rfl hs41 ?_⟩))
    refine WH.take 44 rfl (by kernel_rfl) rfl rfl rfl hs41 (fun w_ hs_ => (Run.pickT rfl rfl rfl rfl)) ?_
    refine WH.dn (hK32 _ _ (WC.condT rfl rfl ?_))
    have hbad : winsC s.dat = false := winsI_no (i := i) (by omega) (by
      show (((decide (1 ≤ (gat encWinR s.Wins.xs i).Id) && decide ((gat encWinR s.Wins.xs i).Id < s.Next)) && (wordOk (gat encWinR s.Wins.xs i).Name && placesOk (gat encWinR s.Wins.xs i).Tree.xs s.W s.H)) && hasI (panesL (gat encWinR s.Wins.xs i).Tree.xs) (gat encWinR s.Wins.xs i).Active) = false ∨ _
      grind)
    have hbadI : winsOkI s.dat = false := by unfold winsOkI; rw [hbad, Bool.false_and]
    refine WC.r1 hs41 [] rfl (WC.ret (tkR (ibR (tkR (tkR (ibR (tkR ?_)))))))
    clear hK31 hK22 hK14
    refine rtv rfl rfl hs41 ?_
    first | rw [hbadI] | (rw [htr, hys]; unfold winsOkI perm1; rw [hWc, Bool.true_and]; congr 2; rw [decide_eq_decide]; omega)
   refine WH.rnA (Acts.nil.cons (j := 32) rfl g42) [33, 34] hs41 [] rfl rfl ?_
   refine WH.take 35 rfl (by kernel_rfl) rfl rfl rfl hs41 (fun w_ hs_ => (Run.pick rfl rfl rfl rfl)) ?_
   refine WH.rn [36] hs41 [] rfl rfl (WH.split 67 rfl (fun g44 => ?_) (fun g44 => ?_))
   ·refine WH.takeSkip 37 rfl (by kernel_rfl) (wantNF rfl g44) rfl rfl hs41 (WH.takeSkip 38 rfl (by kernel_rfl) (wantNF rfl g44) rfl rfl hs41 (WH.takeSkip 40 rfl (by kernel_rfl) (wantNF rfl g44) rfl rfl hs41 (WH.takeSkip 41 rfl (by kernel_rfl) (wantNF rfl g44) rfl rfl hs41 (WH.o1 39 rfl (WL.skip (wantNF rfl g44) rfl rfl (WL.nil ⟨hs41, WH.o1 42 rfl ?_⟩))))))
    refine WL.skip (wantNF rfl g44) rfl rfl (WL.nil ⟨hs41, WH.takeSkip 43 rfl (by kernel_rfl) (wantNF rfl g44) rfl rfl hs41 ?_⟩)
    refine WH.take 44 rfl (by kernel_rfl) rfl rfl rfl hs41 (fun w_ hs_ => (Run.pickT rfl rfl g44 rfl)) ?_
    refine WH.dn (hK32 _ _ (WC.condT rfl rfl ?_))
    have hbad : winsC s.dat = false := winsI_no (i := i) (by omega) (by
      show (((decide (1 ≤ (gat encWinR s.Wins.xs i).Id) && decide ((gat encWinR s.Wins.xs i).Id < s.Next)) && (wordOk (gat encWinR s.Wins.xs i).Name && placesOk (gat encWinR s.Wins.xs i).Tree.xs s.W s.H)) && hasI (panesL (gat encWinR s.Wins.xs i).Tree.xs) (gat encWinR s.Wins.xs i).Active) = false ∨ _
      grind)
    have hbadI : winsOkI s.dat = false := by unfold winsOkI; rw [hbad, Bool.false_and]
    refine WC.r1 hs41 [] rfl (WC.ret (tkR (ibR (tkR (tkR (ibR (tkR ?_)))))))
    clear hK31 hK22 hK14
    refine rtv rfl rfl hs41 ?_
    first | rw [hbadI] | (rw [htr, hys]; unfold winsOkI perm1; rw [hWc, Bool.true_and]; congr 2; rw [decide_eq_decide]; omega)
   refine WH.rnA (Acts.nil.cons (j := 36) rfl g44) [37, 38, 40, 41] hs41 [0, 0] rfl rfl (WH.o1 39 rfl ?_)
   refine WL.call (wantF rfl g44) rfl rfl (Run.call Tryz.call107 rfl rfl rfl) (k72_ _ _ _ _ _ (SlF.st0 (SlN.nth f_s.Wins (by first | omega | (simp only [decide_eq_true_eq] at *; omega))).Tree hs41) ?_) ?_
   · first | assumption | rfl | omega
   rintro _ whs46 ⟨A47, c48, L1_49, rfl, hs46, ho50⟩
   replace hs46 := hs41.callF hs46
   refine ⟨_, rfl, ?_⟩
   replace hs46 := St.back [_, _] hs46
   refine WL.nil ⟨(hs46.rm L1_49), WH.o1 42 rfl (WL.call (wantF rfl g44) rfl rfl (Run.call Tryz.call46 rfl rfl rfl) (k78_ _ _ _ _ _ _ (SlF.ofOwn ho50 (hs46.ow L1_49)) ?_) ?_)⟩
   · first | assumption | rfl | omega
   rintro _ whs51 ⟨rfl, hs51⟩
   replace hs51 := hs46.call0 hs51
   refine ⟨_, rfl, WL.nil ⟨(hs51.rm L1_49), WH.rnA (Acts.nil.cons (j := 36) rfl g44) [43] (hs51.rm L1_49) [] rfl rfl ?_⟩⟩
   refine WH.take 44 rfl (by kernel_rfl) rfl rfl rfl (hs51.rm L1_49) (fun w_ hs_ => (Run.pick rfl rfl rfl rfl)) ?_
   refine WH.dn (hK32 _ _ ?_)
   refine WC.cq rfl (fun h52 qh52 => ?_) (fun h52 qh52 => ?_)
   ·have hbad : winsC s.dat = false := winsI_no (i := i) (by omega) (by
      show (((decide (1 ≤ (gat encWinR s.Wins.xs i).Id) && decide ((gat encWinR s.Wins.xs i).Id < s.Next)) && (wordOk (gat encWinR s.Wins.xs i).Name && placesOk (gat encWinR s.Wins.xs i).Tree.xs s.W s.H)) && hasI (panesL (gat encWinR s.Wins.xs i).Tree.xs) (gat encWinR s.Wins.xs i).Active) = false ∨ _
      grind)
    have hbadI : winsOkI s.dat = false := by unfold winsOkI; rw [hbad, Bool.false_and]
    refine WC.r1 hs51 [] rfl (WC.ret (tkR (ibR (tkR (tkR (ibR (tkR ?_)))))))
    clear hK31 hK22 hK14
    refine rtv rfl rfl hs51 ?_
    first | rw [hbadI] | (rw [htr, hys]; unfold winsOkI perm1; rw [hWc, Bool.true_and]; congr 2; rw [decide_eq_decide]; omega)
   have hgood : winB s.dat (gat encWinR s.Wins.xs i).dat = true ∧ (0 < i → (gat encWinR s.Wins.xs (i - 1)).Id < (gat encWinR s.Wins.xs i).Id) := by
     show (((decide (1 ≤ (gat encWinR s.Wins.xs i).Id) && decide ((gat encWinR s.Wins.xs i).Id < s.Next)) && (wordOk (gat encWinR s.Wins.xs i).Name && placesOk (gat encWinR s.Wins.xs i).Tree.xs s.W s.H)) && hasI (panesL (gat encWinR s.Wins.xs i).Tree.xs) (gat encWinR s.Wins.xs i).Active) = true ∧ _
     grind
   have hk31 : (panesL (gat encWinR s.Wins.xs i).Tree.xs).length ≤ 31 := by
     have h1_ : (((decide (1 ≤ (gat encWinR s.Wins.xs i).Id) && decide ((gat encWinR s.Wins.xs i).Id < s.Next)) && (wordOk (gat encWinR s.Wins.xs i).Name && placesOk (gat encWinR s.Wins.xs i).Tree.xs s.W s.H)) && hasI (panesL (gat encWinR s.Wins.xs i).Tree.xs) (gat encWinR s.Wins.xs i).Active) = true := hgood.1
     simp only [Bool.and_eq_true, placesOk, sidesOk] at h1_
     have h2_ := treeOk_len h1_.1.2.2.1.1.1
     have h3_ := panesL_len (gat encWinR s.Wins.xs i).Tree.xs
     omega
   refine WC.skip (hK31 _ _ (WC.region (WL.r 3 hs51 [0] rfl ?_)))
   refine WL.cl Tryz.call107 rfl (k72_ _ _ _ _ _ (SlF.st0 (SlN.nth f_s.Wins (by first | omega | (simp only [decide_eq_true_eq] at *; omega))).Tree hs51) ?_) ?_
   · first | assumption | rfl | omega
   rintro _ whs53 ⟨A54, c55, L1_56, rfl, hs53, ho57⟩
   replace hs53 := hs51.callF hs53
   refine ⟨_, rfl, ?_⟩
   replace hs53 := St.back [_, _] hs53
   refine WL.appendG (hs53.fr L17) ho18 (SlF.src (SlF.ofOwn ho57 (hs53.ow L1_56)) Tryz.underlying60) Tryz.underlying60 inf3 rfl rfl rfl rfl rfl rfl rfl rfl rfl rfl ?_ (fun A61 c62 L58 whs59 hs59 ho60 => ?_)
   · first | omega | (simp only [List.length_append, List.length_cons, List.length_nil]; omega)
   replace hs59 := St.back [_, _] hs59
   refine WL.r 1 hs59 [] rfl (WL.nil (hK22 _ _ (WC.region (WL.r 2 hs59 [] rfl (WL.nil (tkN ?_))))))
   replace hs59 := (((hs59.d1.rm L1_56).rm L1_49).rm L1_29)
   refine ⟨sbF rfl, _, (hs59.fr L58), _, ?_, _, i + 1, _, _, rfl, ?_, ?_, ?_, ?_, ho60, ⟨rfl, rfl, trivial⟩⟩
   · omega
   · omega
   · rw [treesL_snoc (by omega), p1]
   · rw [List.length_append]; omega
   · intro j hj; rcases Nat.lt_or_ge j i with h_ | h_
     · exact p3 j h_
     · obtain rfl : j = i := by omega
       exact hgood
  refine WH.takeSkip 14 rfl (by kernel_rfl) (wantNT rfl g38) rfl rfl hs33 (WH.takeSkip 15 rfl (by kernel_rfl) (wantNT rfl g38) rfl rfl hs33 (WH.takeSkip 16 rfl (by kernel_rfl) (wantNT rfl g38) rfl rfl hs33 (WH.takeSkip 17 rfl (by kernel_rfl) (wantNT rfl g38) rfl rfl hs33 (WH.takeSkip 18 rfl (by kernel_rfl) (wantNT rfl g38) rfl rfl hs33 (WH.takeSkip 19 rfl (by kernel_rfl) (wantNT rfl g38) rfl rfl hs33 (WH.takeSkip 20 rfl (by kernel_rfl) (wantNT rfl g38) rfl rfl hs33 (WH.takeSkip 21 rfl (by kernel_rfl) (wantNT rfl g38) rfl rfl hs33 ?_)))))))
  refine WH.takeSkip 22 rfl (by kernel_rfl) (wantNT rfl g38) rfl rfl hs33 (WH.takeSkip 23 rfl (by kernel_rfl) (wantNT rfl g38) rfl rfl hs33 ?_)
  refine WH.take 24 rfl (by kernel_rfl) (wantF rfl g36) rfl rfl hs33 (fun w_ hs_ => (Run.pickF rfl rfl g38 rfl)) ?_
  refine WH.take 25 rfl (by kernel_rfl) rfl rfl rfl hs33 (fun w_ hs_ => (Run.pick rfl rfl rfl rfl)) ?_
  refine WH.rn [26] hs33 [] rfl rfl (WH.split 57 rfl (fun g63 => ?_) (fun g63 => ?_))
  ·refine WH.takeSkip 27 rfl (by kernel_rfl) (wantNF rfl g63) rfl rfl hs33 (WH.takeSkip 28 rfl (by kernel_rfl) (wantNF rfl g63) rfl rfl hs33 (WH.o1 29 rfl (WL.skip (wantNF rfl g63) rfl rfl (WL.nil ⟨hs33, WH.takeSkip 30 rfl (by kernel_rfl) (wantNF rfl g63) rfl rfl hs33 ?_⟩))))
   refine WH.take 31 rfl (by kernel_rfl) rfl rfl rfl hs33 (fun w_ hs_ => (Run.pickT rfl rfl g63 rfl)) ?_
   refine WH.rn [32] hs33 [] rfl rfl (WH.takeSkip 33 rfl (by kernel_rfl) (wantNF rfl rfl) rfl rfl hs33 (WH.takeSkip 34 rfl (by kernel_rfl) (wantNF rfl rfl) rfl rfl hs33 ?_))
   refine WH.take 35 rfl (by kernel_rfl) rfl rfl rfl hs33 (fun w_ hs_ => (Run.pickT rfl rfl rfl rfl)) ?_
   refine WH.rn [36] hs33 [] rfl rfl (WH.takeSkip 37 rfl (by kernel_rfl) (wantNF rfl rfl) rfl rfl hs33 (WH.takeSkip 38 rfl (by kernel_rfl) (wantNF rfl rfl) rfl rfl hs33 (WH.takeSkip 40 rfl (by kernel_rfl) (wantNF rfl rfl) rfl rfl hs33 (WH.takeSkip 41 rfl (by kernel_rfl) (wantNF rfl rfl) rfl rfl hs33 (WH.o1 39 rfl (WL.skip (wantNF rfl rfl) rfl rfl (WL.nil ⟨hs33, ?_⟩)))))))
   refine WH.o1 42 rfl (WL.skip (wantNF rfl rfl) rfl rfl (WL.nil ⟨hs33, WH.takeSkip 43 rfl (by kernel_rfl) (wantNF rfl rfl) rfl rfl hs33 ?_⟩))
   refine WH.take 44 rfl (by kernel_rfl) rfl rfl rfl hs33 (fun w_ hs_ => (Run.pickT rfl rfl rfl rfl)) ?_
   refine WH.dn (hK32 _ _ (WC.condT rfl rfl ?_))
   have hbad : winsC s.dat = false := winsI_no (i := i) (by omega) (by
     show (((decide (1 ≤ (gat encWinR s.Wins.xs i).Id) && decide ((gat encWinR s.Wins.xs i).Id < s.Next)) && (wordOk (gat encWinR s.Wins.xs i).Name && placesOk (gat encWinR s.Wins.xs i).Tree.xs s.W s.H)) && hasI (panesL (gat encWinR s.Wins.xs i).Tree.xs) (gat encWinR s.Wins.xs i).Active) = false ∨ _
     grind)
   have hbadI : winsOkI s.dat = false := by unfold winsOkI; rw [hbad, Bool.false_and]
   refine WC.r1 hs33 [] rfl (WC.ret (tkR (ibR (tkR (tkR (ibR (tkR ?_)))))))
   clear hK31 hK22 hK14
   refine rtv rfl rfl hs33 ?_
   first | rw [hbadI] | (rw [htr, hys]; unfold winsOkI perm1; rw [hWc, Bool.true_and]; congr 2; rw [decide_eq_decide]; omega)
  refine WH.rnA (Acts.nil.cons (j := 26) rfl g63) [27, 28] hs33 [0] rfl rfl (WH.o1 29 rfl (WL.call (wantF rfl g63) rfl rfl (Run.call Tryz.call123 rfl rfl rfl) (k150_ _ _ ?_) ?_))
  · first | assumption | rfl | omega
  rintro _ whs65 ⟨rfl, hs65⟩
  replace hs65 := hs33.call0 hs65
  refine ⟨_, rfl, WL.nil ⟨hs65, WH.rnA (Acts.nil.cons (j := 26) rfl g63) [30] hs65 [] rfl rfl ?_⟩⟩
  refine WH.take 31 rfl (by kernel_rfl) rfl rfl rfl hs65 (fun w_ hs_ => (Run.pick rfl rfl rfl rfl)) ?_
  refine WH.rn [32] hs65 [] rfl rfl (WH.split 63 rfl (fun g66 => ?_) (fun g66 => ?_))
  ·refine WH.takeSkip 33 rfl (by kernel_rfl) (wantNF rfl g66) rfl rfl hs65 (WH.takeSkip 34 rfl (by kernel_rfl) (wantNF rfl g66) rfl rfl hs65 ?_)
   refine WH.take 35 rfl (by kernel_rfl) rfl rfl rfl hs65 (fun w_ hs_ => (Run.pickT rfl rfl g66 rfl)) ?_
   refine WH.rn [36] hs65 [] rfl rfl (WH.takeSkip 37 rfl (by kernel_rfl) (wantNF rfl rfl) rfl rfl hs65 (WH.takeSkip 38 rfl (by kernel_rfl) (wantNF rfl rfl) rfl rfl hs65 (WH.takeSkip 40 rfl (by kernel_rfl) (wantNF rfl rfl) rfl rfl hs65 (WH.takeSkip 41 rfl (by kernel_rfl) (wantNF rfl rfl) rfl rfl hs65 (WH.o1 39 rfl (WL.skip (wantNF rfl rfl) rfl rfl (WL.nil ⟨hs65, ?_⟩)))))))
   refine WH.o1 42 rfl (WL.skip (wantNF rfl rfl) rfl rfl (WL.nil ⟨hs65, WH.takeSkip 43 rfl (by kernel_rfl) (wantNF rfl rfl) rfl rfl hs65 ?_⟩))
   refine WH.take 44 rfl (by kernel_rfl) rfl rfl rfl hs65 (fun w_ hs_ => (Run.pickT rfl rfl rfl rfl)) ?_
   refine WH.dn (hK32 _ _ (WC.condT rfl rfl ?_))
   have hbad : winsC s.dat = false := winsI_no (i := i) (by omega) (by
     show (((decide (1 ≤ (gat encWinR s.Wins.xs i).Id) && decide ((gat encWinR s.Wins.xs i).Id < s.Next)) && (wordOk (gat encWinR s.Wins.xs i).Name && placesOk (gat encWinR s.Wins.xs i).Tree.xs s.W s.H)) && hasI (panesL (gat encWinR s.Wins.xs i).Tree.xs) (gat encWinR s.Wins.xs i).Active) = false ∨ _
     grind)
   have hbadI : winsOkI s.dat = false := by unfold winsOkI; rw [hbad, Bool.false_and]
   refine WC.r1 hs65 [] rfl (WC.ret (tkR (ibR (tkR (tkR (ibR (tkR ?_)))))))
   clear hK31 hK22 hK14
   refine rtv rfl rfl hs65 ?_
   first | rw [hbadI] | (rw [htr, hys]; unfold winsOkI perm1; rw [hWc, Bool.true_and]; congr 2; rw [decide_eq_decide]; omega)
  refine WH.rnA (Acts.nil.cons (j := 32) rfl g66) [33, 34] hs65 [] rfl rfl ?_
  refine WH.take 35 rfl (by kernel_rfl) rfl rfl rfl hs65 (fun w_ hs_ => (Run.pick rfl rfl rfl rfl)) ?_
  refine WH.rn [36] hs65 [] rfl rfl (WH.split 67 rfl (fun g68 => ?_) (fun g68 => ?_))
  ·refine WH.takeSkip 37 rfl (by kernel_rfl) (wantNF rfl g68) rfl rfl hs65 (WH.takeSkip 38 rfl (by kernel_rfl) (wantNF rfl g68) rfl rfl hs65 (WH.takeSkip 40 rfl (by kernel_rfl) (wantNF rfl g68) rfl rfl hs65 (WH.takeSkip 41 rfl (by kernel_rfl) (wantNF rfl g68) rfl rfl hs65 (WH.o1 39 rfl (WL.skip (wantNF rfl g68) rfl rfl (WL.nil ⟨hs65, WH.o1 42 rfl ?_⟩))))))
   refine WL.skip (wantNF rfl g68) rfl rfl (WL.nil ⟨hs65, WH.takeSkip 43 rfl (by kernel_rfl) (wantNF rfl g68) rfl rfl hs65 ?_⟩)
   refine WH.take 44 rfl (by kernel_rfl) rfl rfl rfl hs65 (fun w_ hs_ => (Run.pickT rfl rfl g68 rfl)) ?_
   refine WH.dn (hK32 _ _ (WC.condT rfl rfl ?_))
   have hbad : winsC s.dat = false := winsI_no (i := i) (by omega) (by
     show (((decide (1 ≤ (gat encWinR s.Wins.xs i).Id) && decide ((gat encWinR s.Wins.xs i).Id < s.Next)) && (wordOk (gat encWinR s.Wins.xs i).Name && placesOk (gat encWinR s.Wins.xs i).Tree.xs s.W s.H)) && hasI (panesL (gat encWinR s.Wins.xs i).Tree.xs) (gat encWinR s.Wins.xs i).Active) = false ∨ _
     grind)
   have hbadI : winsOkI s.dat = false := by unfold winsOkI; rw [hbad, Bool.false_and]
   refine WC.r1 hs65 [] rfl (WC.ret (tkR (ibR (tkR (tkR (ibR (tkR ?_)))))))
   clear hK31 hK22 hK14
   refine rtv rfl rfl hs65 ?_
   first | rw [hbadI] | (rw [htr, hys]; unfold winsOkI perm1; rw [hWc, Bool.true_and]; congr 2; rw [decide_eq_decide]; omega)
  refine WH.rnA (Acts.nil.cons (j := 36) rfl g68) [37, 38, 40, 41] hs65 [0, 0] rfl rfl (WH.o1 39 rfl ?_)
  refine WL.call (wantF rfl g68) rfl rfl (Run.call Tryz.call107 rfl rfl rfl) (k72_ _ _ _ _ _ (SlF.st0 (SlN.nth f_s.Wins (by first | omega | (simp only [decide_eq_true_eq] at *; omega))).Tree hs65) ?_) ?_
  · first | assumption | rfl | omega
  rintro _ whs70 ⟨A71, c72, L1_73, rfl, hs70, ho74⟩
  replace hs70 := hs65.callF hs70
  refine ⟨_, rfl, ?_⟩
  replace hs70 := St.back [_, _] hs70
  refine WL.nil ⟨(hs70.rm L1_73), WH.o1 42 rfl (WL.call (wantF rfl g68) rfl rfl (Run.call Tryz.call46 rfl rfl rfl) (k78_ _ _ _ _ _ _ (SlF.ofOwn ho74 (hs70.ow L1_73)) ?_) ?_)⟩
  · first | assumption | rfl | omega
  rintro _ whs75 ⟨rfl, hs75⟩
  replace hs75 := hs70.call0 hs75
  refine ⟨_, rfl, WL.nil ⟨(hs75.rm L1_73), WH.rnA (Acts.nil.cons (j := 36) rfl g68) [43] (hs75.rm L1_73) [] rfl rfl ?_⟩⟩
  refine WH.take 44 rfl (by kernel_rfl) rfl rfl rfl (hs75.rm L1_73) (fun w_ hs_ => (Run.pick rfl rfl rfl rfl)) ?_
  refine WH.dn (hK32 _ _ ?_)
  refine WC.cq rfl (fun h76 qh76 => ?_) (fun h76 qh76 => ?_)
  ·have hbad : winsC s.dat = false := winsI_no (i := i) (by omega) (by
     show (((decide (1 ≤ (gat encWinR s.Wins.xs i).Id) && decide ((gat encWinR s.Wins.xs i).Id < s.Next)) && (wordOk (gat encWinR s.Wins.xs i).Name && placesOk (gat encWinR s.Wins.xs i).Tree.xs s.W s.H)) && hasI (panesL (gat encWinR s.Wins.xs i).Tree.xs) (gat encWinR s.Wins.xs i).Active) = false ∨ _
     grind)
   have hbadI : winsOkI s.dat = false := by unfold winsOkI; rw [hbad, Bool.false_and]
   refine WC.r1 hs75 [] rfl (WC.ret (tkR (ibR (tkR (tkR (ibR (tkR ?_)))))))
   clear hK31 hK22 hK14
   refine rtv rfl rfl hs75 ?_
   first | rw [hbadI] | (rw [htr, hys]; unfold winsOkI perm1; rw [hWc, Bool.true_and]; congr 2; rw [decide_eq_decide]; omega)
  have hgood : winB s.dat (gat encWinR s.Wins.xs i).dat = true ∧ (0 < i → (gat encWinR s.Wins.xs (i - 1)).Id < (gat encWinR s.Wins.xs i).Id) := by
    show (((decide (1 ≤ (gat encWinR s.Wins.xs i).Id) && decide ((gat encWinR s.Wins.xs i).Id < s.Next)) && (wordOk (gat encWinR s.Wins.xs i).Name && placesOk (gat encWinR s.Wins.xs i).Tree.xs s.W s.H)) && hasI (panesL (gat encWinR s.Wins.xs i).Tree.xs) (gat encWinR s.Wins.xs i).Active) = true ∧ _
    grind
  have hk31 : (panesL (gat encWinR s.Wins.xs i).Tree.xs).length ≤ 31 := by
    have h1_ : (((decide (1 ≤ (gat encWinR s.Wins.xs i).Id) && decide ((gat encWinR s.Wins.xs i).Id < s.Next)) && (wordOk (gat encWinR s.Wins.xs i).Name && placesOk (gat encWinR s.Wins.xs i).Tree.xs s.W s.H)) && hasI (panesL (gat encWinR s.Wins.xs i).Tree.xs) (gat encWinR s.Wins.xs i).Active) = true := hgood.1
    simp only [Bool.and_eq_true, placesOk, sidesOk] at h1_
    have h2_ := treeOk_len h1_.1.2.2.1.1.1
    have h3_ := panesL_len (gat encWinR s.Wins.xs i).Tree.xs
    omega
  refine WC.skip (hK31 _ _ (WC.region (WL.r 3 hs75 [0] rfl ?_)))
  refine WL.cl Tryz.call107 rfl (k72_ _ _ _ _ _ (SlF.st0 (SlN.nth f_s.Wins (by first | omega | (simp only [decide_eq_true_eq] at *; omega))).Tree hs75) ?_) ?_
  · first | assumption | rfl | omega
  rintro _ whs77 ⟨A78, c79, L1_80, rfl, hs77, ho81⟩
  replace hs77 := hs75.callF hs77
  refine ⟨_, rfl, ?_⟩
  replace hs77 := St.back [_, _] hs77
  refine WL.appendG (hs77.fr L17) ho18 (SlF.src (SlF.ofOwn ho81 (hs77.ow L1_80)) Tryz.underlying60) Tryz.underlying60 inf3 rfl rfl rfl rfl rfl rfl rfl rfl rfl rfl ?_ (fun A85 c86 L82 whs83 hs83 ho84 => ?_)
  · first | omega | (simp only [List.length_append, List.length_cons, List.length_nil]; omega)
  replace hs83 := St.back [_, _] hs83
  refine WL.r 1 hs83 [] rfl (WL.nil (hK22 _ _ (WC.region (WL.r 2 hs83 [] rfl (WL.nil (tkN ?_))))))
  replace hs83 := (((hs83.d1.rm L1_80).rm L1_73).rm L1_29)
  refine ⟨sbF rfl, _, (hs83.fr L82), _, ?_, _, i + 1, _, _, rfl, ?_, ?_, ?_, ?_, ho84, ⟨rfl, rfl, trivial⟩⟩
  · omega
  · omega
  · rw [treesL_snoc (by omega), p1]
  · rw [List.length_append]; omega
  · intro j hj; rcases Nat.lt_or_ge j i with h_ | h_
    · exact p3 j h_
    · obtain rfl : j = i := by omega
      exact hgood
 have hWc : winsC s.dat = true := winsC_iff.2 fun j hj => p3 j (by omega)
 have htr : zs = treesL s.dat.Wins := by rw [p1, List.take_of_length_le (by omega)]; rfl
 refine WC.exit (hK14 _ _ (WC.seq (fun K87 hK87 => WC.r1 hs19 [0] rfl (WC.block ?_))))
 refine WC.lO [1, 3, 17, 83, 84] rfl (hs19.fr L9) (fun k_ f L_ => ∃ (ys : List Int) (j : Nat) (A88 : Option Addr) (c89 : Nat), k_ = s.Panes.n - j ∧ (j ≤ s.Panes.n) ∧ (ys = (s.Panes.xs.take j).map (·.Id)) ∧ (ys.length ≤ j) ∧ OwnF encI 3 (.slice A88 (ys.length) c89) (ys) L_ ∧ Sub [(4, .slice A88 (ys.length) c89), (85, .int .i64 j)] f) (((fun (ys : List Int) (j : Nat) => s.Panes.n - j) ([]) (0))) ?_ ?_
 ·refine ⟨[], 0, _, _, rfl, ?_, ?_, ?_, ho11, ⟨rfl, rfl, trivial⟩⟩
  · exact Nat.zero_le _
  · rfl
  · exact Nat.le_refl _
 clear hs19
 rintro _ f w L90 ⟨ys, j, A88, c89, rfl, r0, r1, r2, ho91, hG⟩ hF hs92
 refine WC.sub _ (hG.app hF) ?_
 clear hG hF
 replace hs92 := St.back [_] hs92
 refine WC.r1 hs92 [] rfl (WC.seq (fun K93 hK93 => ?_))
 refine WC.cq rfl (fun h94 qh94 => ?_) (fun h94 qh94 => ?_)
 ·refine WC.skip (hK93 _ _ (WC.seq (fun K95 hK95 => WC.block (WC.sr ?_))))
  refine WL.val rfl rfl rfl (Run.idxN Tryz.runUnderlying29 Tryz.sizeOf93 rfl rfl rfl ?_ ?_ ?_) ?_
  · exact SlF.some_ (SlF.st0 f_s.Panes.sl hs92)
  · first | omega | (simp only [decide_eq_true_eq] at *; omega)
  · first | omega | (simp only [decide_eq_true_eq] at *; omega)
  refine WL.val rfl rfl rfl (Run.loadA Tryz.isAgg93 Tryz.sizeOf93 rfl rfl (SlF.whole (SlF.st0 f_s.Panes.sl hs92) ?_)) ?_
  · first | omega | (simp only [decide_eq_true_eq] at *; omega)
  refine WL.al hs92 Tryz.zeroValue93 rfl rfl (fun b96 _ hs97 => WL.st tbk hs97 0 rfl rfl (fun _ hs98 => WL.nil (WC.region (WL.r 3 hs98 [0] rfl (WL.buildSlice hs98 Tryz.runUnderlying60 Tryz.sizeOf3 Tryz.zeroValue3 rfl rfl rfl rfl rfl rfl rfl rfl rfl rfl (fun b99 whs100 hs100 => ?_))))))
  refine WL.appendG (hs100.fr L90) ho91 (srcI1 Tryz.underlying60 (hs100.own _ (nthL_mem (i := 0) rfl)).1) Tryz.underlying60 inf3 rfl rfl rfl rfl rfl rfl rfl rfl rfl rfl ?_ (fun A104 c105 L101 whs102 hs102 ho103 => ?_)
  · first | omega | (simp only [List.length_append, List.length_cons, List.length_nil]; omega)
  replace hs102 := St.back [_, _, _] hs102
  refine WL.r 1 hs102 [] rfl (WL.nil (hK95 _ _ (WC.region (WL.r 2 hs102 [] rfl (WL.nil (tkN ?_))))))
  replace hs102 := hs102.d1.d1
  refine ⟨sbF rfl, _, (hs102.fr L101), _, ?_, _, j + 1, _, _, rfl, ?_, ?_, ?_, ho103, ⟨rfl, rfl, trivial⟩⟩
  · omega
  · omega
  · rw [ids_take (F := encPaneR) (by omega), r1]
  · rw [List.length_append]; simp only [List.length_cons, List.length_nil]; omega
 have hys : ys = pIds s.dat := by rw [r1, List.take_of_length_le (by omega), pIds_R]
 refine WC.exit (hK87 _ _ (WC.sr (WL.r 5 hs92 [0] rfl ?_)))
 apply WL.gA 3 Acts.nil hs92 rfl
 ·intro g106 J107
  have qg106 := g106
  try simp only [bf, within_iff, within_not] at qg106
  refine WL.runA tbk 2 (Acts.nil.cons (j := 4) rfl g106) hs92 [] rfl trivial (WL.call (wantT rfl g106) rfl rfl (Run.call Tryz.call124 rfl rfl rfl) (k146_ _ _ _ _ _ _ _ _ _ (SlF.ofOwn ho18 (hs92.ow L17)) (SlF.ofOwn ho91 (hs92.ow L90)) ?_ ?_) ?_)
  iterate 2 first | assumption | rfl | omega
  rintro _ whs108 ⟨rfl, hs108⟩
  replace hs108 := hs92.call0 hs108
  refine ⟨_, rfl, WL.eA 3 Acts.nil J107 hs108 g106 rfl rfl⟩
 intro _ hs109
 refine WL.r 1 hs109 [] rfl (WL.nil (WC.ret (rtv rfl rfl hs109 ?_)))
 first | rw [hbadI] | (rw [htr, hys]; unfold winsOkI perm1; rw [hWc, Bool.true_and]; congr 2; rw [decide_eq_decide]; omega)
set_option maxHeartbeats 4000000 in
theorem k153_ (s : StateR) (w : World) (f_s : okStateR 549755813888 w s) (hT : totState s.dat ≤ 1048576) :
    Calls Tryz.prog 62 #[.agg #[i64 s.W, i64 s.H, i64 s.Limit, i64 s.Next, .slice s.Panes.A s.Panes.n s.Panes.c, .slice s.Wins.A s.Wins.n s.Wins.c, .slice s.Sess.A s.Sess.n s.Sess.c]] w fun e w' => e = .returned (.bool (sessOkI s.dat)) ∧ St w [] [] w' := by
 have nb_s_Panes := f_s.Panes_n
 have nl_s_Panes := f_s.Panes.sl.len
 have nb_s_Wins := f_s.Wins_n
 have nl_s_Wins := f_s.Wins.sl.len
 have nb_s_Sess := f_s.Sess_n
 have nl_s_Sess := f_s.Sess.sl.len
 have hsm0 : smState 1048576 s.dat := totState_sm hT
 have hlP : s.dat.Panes.length = s.Panes.xs.length := List.length_map _
 have hlW : s.dat.Wins.length = s.Wins.xs.length := List.length_map _
 have hlS : s.dat.Sess.length = s.Sess.xs.length := List.length_map _
 have hnP : s.dat.Panes.length ≤ 1048576 := hsm0.1
 have hnW : s.dat.Wins.length ≤ 1048576 := hsm0.2.2.1
 have hnS : s.dat.Sess.length ≤ 1048576 := hsm0.2.2.2.2.1
 have hWn : ∀ y, y ∈ s.Wins.xs → y.Tree.n ≤ 1048576 := fun y hy => by have h1 := (f_s.Wins.all y hy).Tree.len; have h2 : y.Tree.xs.length ≤ 1048576 := (hsm0.2.2.2.1 _ (List.mem_map_of_mem hy)).2; omega
 have hSnm : ∀ y, y ∈ s.Sess.xs → y.Name.size ≤ 1048576 ∧ y.Wins.xs.length ≤ 1048576 := fun y hy => hsm0.2.2.2.2.2 _ (List.mem_map_of_mem hy)
 refine enter 66 Tryz.func62 rfl Tryz.ntmps62 rfl rfl ?_
 have hs1 := St.init w
 refine WC.sr (WL.bx hs1 rfl (fun b2 _ hs3 => WL.r 1 hs3 [] rfl (WL.nil (WC.sr (WL.buildF (F := encI) hs3 ([]) Tryz.runUnderlying60 Tryz.sizeOf3 Tryz.zeroValue3 rfl rfl rfl rfl rfl rfl rfl rfl rfl rfl rfl rfl (fun A7 c8 L4 whs5 hs5 ho6 => ?_))))))
 replace hs5 := St.back [_] hs5
 refine WL.buildF (F := encI) hs5 ([]) Tryz.runUnderlying60 Tryz.sizeOf3 Tryz.zeroValue3 rfl rfl rfl rfl rfl rfl rfl rfl rfl rfl rfl rfl (fun A12 c13 L9 whs10 hs10 ho11 => ?_)
 replace hs10 := St.back [_] hs10
 refine WL.r 2 hs10 [] rfl (WL.nil (WC.seq (fun K14 hK14 => WC.r1 hs10 [0] rfl (WC.block ?_))))
 refine WC.lO [1, 4, 12, 13] rfl (hs10.fr L4) (fun k_ f L_ => ∃ (zs : List Int) (i : Nat) (A15 : Option Addr) (c16 : Nat), k_ = s.Sess.n - i ∧ (i ≤ s.Sess.n) ∧ (zs = (sessL ((s.Sess.xs.take (i)).map SessR.dat))) ∧ (∀ j, j < i → sessB (gat encSessR s.Sess.xs j).dat = true ∧ findI (fun q : SessD => decide (q.Name = (gat encSessR s.Sess.xs j).Name)) s.dat.Sess = j) ∧ OwnF encI 3 (.slice A15 (zs.length) c16) (zs) L_ ∧ Sub [(3, .slice A15 (zs.length) c16), (14, .int .i64 i)] f) (((fun (zs : List Int) (i : Nat) => s.Sess.n - i) ([]) (0))) ?_ ?_
 ·refine ⟨[], 0, _, _, rfl, ?_, ?_, ?_, ho6, ⟨rfl, rfl, trivial⟩⟩
  · exact Nat.zero_le _
  · rfl
  · exact fun j hj => absurd hj (by omega)
 clear hs10
 rintro _ f w L17 ⟨zs, i, A15, c16, rfl, p0, p1, p2, ho18, hG⟩ hF hs19
 refine WC.sub _ (hG.app hF) ?_
 clear hG hF
 replace hs19 := St.back [_] hs19
 refine WC.r1 hs19 [] rfl (WC.seq (fun K20 hK20 => ?_))
 refine WC.cq rfl (fun h21 qh21 => ?_) (fun h21 qh21 => ?_)
 ·have hTm := (SlN.nth f_s.Sess (show i < s.Sess.n by omega))
  have hTl := hTm.Wins.len
  have hWi := hSnm (gat encSessR s.Sess.xs i) (gat_mem (by omega))
  have hzl := sessL_take_le (i := i) hT
  rw [← p1] at hzl
  have hzl2 := sessL_take_le (i := i + 1) hT
  rw [sessL_snoc (by omega), List.length_append, ← p1] at hzl2
  refine WC.skip (hK20 _ _ (WC.seq (fun K22 hK22 => WC.block (WC.sr (WL.r 1 hs19 [] rfl ?_)))))
  refine WL.val rfl rfl rfl (Run.idxN Tryz.runUnderlying31 Tryz.sizeOf106 rfl rfl rfl ?_ ?_ ?_) ?_
  · exact SlF.some_ (SlF.st0 f_s.Sess.sl hs19)
  · first | omega | (simp only [decide_eq_true_eq] at *; omega)
  · first | omega | (simp only [decide_eq_true_eq] at *; omega)
  refine WL.val rfl rfl rfl (Run.loadA Tryz.isAgg106 Tryz.sizeOf106 rfl rfl (SlF.whole (SlF.st0 f_s.Sess.sl hs19) ?_)) ?_
  · first | omega | (simp only [decide_eq_true_eq] at *; omega)
  refine WL.al hs19 Tryz.zeroValue106 rfl rfl (fun b23 _ hs24 => WL.r 1 hs24 [] rfl (WL.st tbk hs24 0 rfl rfl (fun _ hs25 => WL.nil (WC.seq (fun K26 hK26 => WC.sr (WL.r 2 hs25 [0] rfl ?_))))))
  refine WL.cl Tryz.call123 rfl (k150_ _ _ ?_) ?_
  · first | assumption | rfl | omega | (rw [p1]; omega)
  rintro _ whs27 ⟨rfl, hs27⟩
  replace hs27 := hs25.call0 hs27
  refine ⟨_, rfl, WL.r 2 hs27 [] rfl ?_⟩
  apply WL.gO 6 Acts.nil hs27 rfl
  ·intro g28 J29
   have qg28 := g28
   try simp only [bf, within_iff, within_not] at qg28
   refine WL.runA tbk 3 (Acts.nil.cons (j := 4) rfl g28) hs27 [1, 0] rfl ⟨rfl, rfl, trivial⟩ (WL.call (wantF rfl g28) rfl rfl (Run.call Tryz.call125 rfl rfl rfl) (k140_ s _ _ (okStateR.st0 f_s hs27)) ?_)
   rintro _ whs30 ⟨rfl, hs30⟩
   replace hs30 := hs27.call0 hs30
   refine ⟨_, rfl, WL.runA tbk 2 (Acts.nil.cons (j := 4) rfl g28) hs30 [] rfl trivial (WL.eO 6 Acts.nil J29 hs30 g28 rfl rfl)⟩
  intro _ hs31
  refine WL.r 1 hs31 [] rfl ?_
  apply WL.gO 6 Acts.nil hs31 rfl
  ·intro g32 J33
   have qg32 := g32
   try simp only [bf, within_iff, within_not] at qg32
   refine WL.runA tbk 4 (Acts.nil.cons (j := 12) rfl g32) hs31 [0, 0] rfl ⟨rfl, rfl, trivial⟩ ?_
   refine WL.call (wantF rfl g32) rfl rfl (Run.call Tryz.call46 rfl rfl rfl) (k78_ _ _ _ _ _ _ (SlF.st0 (SlN.nth f_s.Sess (by first | omega | (simp only [decide_eq_true_eq] at *; omega))).Wins hs31) ?_) ?_
   · first | assumption | rfl | omega | (rw [p1]; omega)
   rintro _ whs34 ⟨rfl, hs34⟩
   replace hs34 := hs31.call0 hs34
   refine ⟨_, rfl, WL.runA tbk 1 (Acts.nil.cons (j := 12) rfl g32) hs34 [] rfl trivial (WL.eO 6 Acts.nil J33 hs34 g32 rfl rfl)⟩
  intro _ hs35
  refine WL.nil (WC.cq rfl (fun h36 qh36 => ?_) (fun h36 qh36 => ?_))
  ·have hbad : sessC s.dat = false := sessC_no (i := i) (by omega) (by
     show (wordOk (gat encSessR s.Sess.xs i).Name && hasI (gat encSessR s.Sess.xs i).Wins.xs (gat encSessR s.Sess.xs i).Active) = false ∨ _
     grind)
   have hbadI : sessOkI s.dat = false := by unfold sessOkI; rw [hbad, Bool.false_and]
   refine WC.r1 hs35 [] rfl (WC.ret (tkR (ibR (tkR (tkR (ibR (tkR ?_)))))))
   clear hK26 hK22 hK14
   refine rtv rfl rfl hs35 ?_
   first | rw [hbadI] | (rw [htr, hys]; unfold sessOkI perm2; rw [hWc, Bool.true_and]; congr 2; rw [decide_eq_decide]; omega)
  have hgood : sessB (gat encSessR s.Sess.xs i).dat = true ∧ findI (fun q : SessD => decide (q.Name = (gat encSessR s.Sess.xs i).Name)) s.dat.Sess = i := by
    show (wordOk (gat encSessR s.Sess.xs i).Name && hasI (gat encSessR s.Sess.xs i).Wins.xs (gat encSessR s.Sess.xs i).Active) = true ∧ _
    grind
  refine WC.skip (hK26 _ _ (WC.region (WL.r 3 hs35 [0] rfl ?_)))
  refine WL.appendG (hs35.fr L17) ho18 (SlF.src (SlF.st0 (SlN.nth f_s.Sess (by first | omega | (simp only [decide_eq_true_eq] at *; omega))).Wins hs35) Tryz.underlying60) Tryz.underlying60 inf3 rfl rfl rfl rfl rfl rfl rfl rfl rfl rfl ?_ (fun A40 c41 L37 whs38 hs38 ho39 => ?_)
  · first | omega | (simp only [List.length_append, List.length_cons, List.length_nil]; omega)
  replace hs38 := St.back [_, _] hs38
  refine WL.r 1 hs38 [] rfl (WL.nil (hK22 _ _ (WC.region (WL.r 2 hs38 [] rfl (WL.nil (tkN ?_))))))
  replace hs38 := hs38.d1
  refine ⟨sbF rfl, _, (hs38.fr L37), _, ?_, _, i + 1, _, _, rfl, ?_, ?_, ?_, ho39, ⟨rfl, rfl, trivial⟩⟩
  · omega
  · omega
  · rw [sessL_snoc (by omega), p1]
  · intro j hj; rcases Nat.lt_or_ge j i with h_ | h_
    · exact p2 j h_
    · obtain rfl : j = i := by omega
      exact hgood
 have hWc : sessC s.dat = true := sessC_yes fun j hj => p2 j (by omega)
 have htr : zs = sessL s.dat.Sess := by rw [p1, List.take_of_length_le (by omega)]; rfl
 refine WC.exit (hK14 _ _ (WC.seq (fun K42 hK42 => WC.r1 hs19 [0] rfl (WC.block ?_))))
 refine WC.lO [1, 3, 15, 45, 46] rfl (hs19.fr L9) (fun k_ f L_ => ∃ (ys : List Int) (j : Nat) (A43 : Option Addr) (c44 : Nat), k_ = s.Wins.n - j ∧ (j ≤ s.Wins.n) ∧ (ys = (s.Wins.xs.take j).map (·.Id)) ∧ (ys.length ≤ j) ∧ OwnF encI 3 (.slice A43 (ys.length) c44) (ys) L_ ∧ Sub [(4, .slice A43 (ys.length) c44), (47, .int .i64 j)] f) (((fun (ys : List Int) (j : Nat) => s.Wins.n - j) ([]) (0))) ?_ ?_
 ·refine ⟨[], 0, _, _, rfl, ?_, ?_, ?_, ho11, ⟨rfl, rfl, trivial⟩⟩
  · exact Nat.zero_le _
  · rfl
  · exact Nat.le_refl _
 clear hs19
 rintro _ f w L45 ⟨ys, j, A43, c44, rfl, r0, r1, r2, ho46, hG⟩ hF hs47
 refine WC.sub _ (hG.app hF) ?_
 clear hG hF
 replace hs47 := St.back [_] hs47
 refine WC.r1 hs47 [] rfl (WC.seq (fun K48 hK48 => ?_))
 refine WC.cq rfl (fun h49 qh49 => ?_) (fun h49 qh49 => ?_)
 ·refine WC.skip (hK48 _ _ (WC.seq (fun K50 hK50 => WC.block (WC.sr ?_))))
  refine WL.val rfl rfl rfl (Run.idxN Tryz.runUnderlying30 Tryz.sizeOf58 rfl rfl rfl ?_ ?_ ?_) ?_
  · exact SlF.some_ (SlF.st0 f_s.Wins.sl hs47)
  · first | omega | (simp only [decide_eq_true_eq] at *; omega)
  · first | omega | (simp only [decide_eq_true_eq] at *; omega)
  refine WL.val rfl rfl rfl (Run.loadA Tryz.isAgg58 Tryz.sizeOf58 rfl rfl (SlF.whole (SlF.st0 f_s.Wins.sl hs47) ?_)) ?_
  · first | omega | (simp only [decide_eq_true_eq] at *; omega)
  refine WL.al hs47 Tryz.zeroValue58 rfl rfl (fun b51 _ hs52 => WL.st tbk hs52 0 rfl rfl (fun _ hs53 => WL.nil (WC.region (WL.r 3 hs53 [0] rfl (WL.buildSlice hs53 Tryz.runUnderlying60 Tryz.sizeOf3 Tryz.zeroValue3 rfl rfl rfl rfl rfl rfl rfl rfl rfl rfl (fun b54 whs55 hs55 => ?_))))))
  refine WL.appendG (hs55.fr L45) ho46 (srcI1 Tryz.underlying60 (hs55.own _ (nthL_mem (i := 0) rfl)).1) Tryz.underlying60 inf3 rfl rfl rfl rfl rfl rfl rfl rfl rfl rfl ?_ (fun A59 c60 L56 whs57 hs57 ho58 => ?_)
  · first | omega | (simp only [List.length_append, List.length_cons, List.length_nil]; omega)
  replace hs57 := St.back [_, _, _] hs57
  refine WL.r 1 hs57 [] rfl (WL.nil (hK50 _ _ (WC.region (WL.r 2 hs57 [] rfl (WL.nil (tkN ?_))))))
  replace hs57 := hs57.d1.d1
  refine ⟨sbF rfl, _, (hs57.fr L56), _, ?_, _, j + 1, _, _, rfl, ?_, ?_, ?_, ho58, ⟨rfl, rfl, trivial⟩⟩
  · omega
  · omega
  · rw [ids_take (F := encWinR) (by omega), r1]
  · rw [List.length_append]; simp only [List.length_cons, List.length_nil]; omega
 have hys : ys = wIds s.dat := by rw [r1, List.take_of_length_le (by omega), wIds_R]
 have hzl := sessL_take_le (i := i) hT
 refine WC.exit (hK42 _ _ (WC.sr (WL.r 5 hs47 [0] rfl ?_)))
 apply WL.gA 3 Acts.nil hs47 rfl
 ·intro g61 J62
  have qg61 := g61
  try simp only [bf, within_iff, within_not] at qg61
  refine WL.runA tbk 2 (Acts.nil.cons (j := 4) rfl g61) hs47 [] rfl trivial (WL.call (wantT rfl g61) rfl rfl (Run.call Tryz.call124 rfl rfl rfl) (k146_ _ _ _ _ _ _ _ _ _ (SlF.ofOwn ho18 (hs47.ow L17)) (SlF.ofOwn ho46 (hs47.ow L45)) ?_ ?_) ?_)
  iterate 2 first | assumption | rfl | omega | (rw [p1]; omega)
  rintro _ whs63 ⟨rfl, hs63⟩
  replace hs63 := hs47.call0 hs63
  refine ⟨_, rfl, WL.eA 3 Acts.nil J62 hs63 g61 rfl rfl⟩
 intro _ hs64
 refine WL.r 1 hs64 [] rfl (WL.nil (WC.ret (rtv rfl rfl hs64 ?_)))
 first | rw [hbadI] | (rw [htr, hys]; unfold sessOkI perm2; rw [hWc, Bool.true_and]; congr 2; rw [decide_eq_decide]; omega)
theorem k154_ (q : PaneR) (b_s : Nat) (s : StateR) (w : World) (f_q : okPaneR 549755813888 w q) (f_b : SlF encStateR w (some ⟨b_s, 0, none⟩) 1 [s]) (f_s : okStateR 549755813888 w s) (hT : totState s.dat ≤ 1048576) :
    Calls Tryz.prog 64 #[.agg #[i64 q.Id, .string q.Cmd, .string q.Dir, i64 q.Life, i64 q.Code, i64 q.Pid, i64 q.Term.P.State, .bool q.Term.P.Mark, .slice q.Term.P.Args.A q.Term.P.Args.n q.Term.P.Args.c, .slice q.Term.P.Part.A q.Term.P.Part.n q.Term.P.Part.c, i64 q.Term.S.W, i64 q.Term.S.H, i64 q.Term.S.Main.W, i64 q.Term.S.Main.H, .slice q.Term.S.Main.Cells.A q.Term.S.Main.Cells.n q.Term.S.Main.Cells.c, i64 q.Term.S.Alt.W, i64 q.Term.S.Alt.H, .slice q.Term.S.Alt.Cells.A q.Term.S.Alt.Cells.n q.Term.S.Alt.Cells.c, .bool q.Term.S.OnAlt, i64 q.Term.S.X, i64 q.Term.S.Y, .bool q.Term.S.Wrap, i64 q.Term.S.A.Fg, i64 q.Term.S.A.Bg, .bool q.Term.S.A.Bold, .bool q.Term.S.A.Under, .bool q.Term.S.A.Turn, i64 q.Term.S.Top, i64 q.Term.S.Bot, .bool q.Term.S.NoWrap, .bool q.Term.S.Hide, i64 q.Term.S.SaveX, i64 q.Term.S.SaveY, i64 q.Term.S.SaveA.Fg, i64 q.Term.S.SaveA.Bg, .bool q.Term.S.SaveA.Bold, .bool q.Term.S.SaveA.Under, .bool q.Term.S.SaveA.Turn, .slice q.Term.S.Tabs.A q.Term.S.Tabs.n q.Term.S.Tabs.c, i64 q.Term.S.Limit, .slice q.Term.S.Back.A q.Term.S.Back.n q.Term.S.Back.c], .pointer (some ⟨b_s, 0, none⟩)] w fun e w' => e = .returned (.bool (!areaB s.dat q.dat)) ∧ St w [] [] w' := by
 have nz_q_Cmd := f_q.Cmd_z
 have nz_q_Dir := f_q.Dir_z
 have nb_q_Term_P_Args := f_q.Term.P.Args_n
 have nl_q_Term_P_Args := f_q.Term.P.Args.len
 have nb_q_Term_P_Part := f_q.Term.P.Part_n
 have nl_q_Term_P_Part := f_q.Term.P.Part.len
 have nb_q_Term_S_Main_Cells := f_q.Term.S.Main.Cells_n
 have nl_q_Term_S_Main_Cells := f_q.Term.S.Main.Cells.len
 have nb_q_Term_S_Alt_Cells := f_q.Term.S.Alt.Cells_n
 have nl_q_Term_S_Alt_Cells := f_q.Term.S.Alt.Cells.len
 have nb_q_Term_S_Tabs := f_q.Term.S.Tabs_n
 have nl_q_Term_S_Tabs := f_q.Term.S.Tabs.len
 have nb_q_Term_S_Back := f_q.Term.S.Back_n
 have nl_q_Term_S_Back := f_q.Term.S.Back.sl.len
 refine enter 27 Tryz.func64 rfl Tryz.ntmps64 rfl rfl ?_
 have hs1 := St.init w
 refine WC.sr (WL.bx hs1 rfl (fun b2 _ hs3 => WL.r 1 hs3 [] rfl (WL.nil (WC.sr (WL.val rfl rfl rfl (Run.loadA Tryz.isAgg33 Tryz.sizeOf33 rfl rfl (SlF.varA (SlF.st0 f_b hs3))) (WL.r 2 hs3 [0] rfl ?_))))))
 refine WL.cl Tryz.call17 rfl (k131_ s _ _ (okStateR.st0 f_s hs3) ?_) ?_
 · first | assumption | rfl | omega
 rintro _ whs4 ⟨rfl, hs4⟩
 replace hs4 := hs3.call0 hs4
 refine ⟨_, rfl, WL.r 5 hs4 [] rfl (WL.nil (WC.sr (WL.r 7 hs4 [0] rfl (WL.pO tbk 6 Acts.nil hs4 [0] rfl rfl rfl rfl (fun g_ => ⟨rfl, trivial⟩) (WL.r 1 hs4 [] rfl (WL.nil ?_))))))⟩
 refine WC.ret (retV1 rfl (resV.tmp rfl) (⟨congrArg Ending.returned (congrArg Value.bool ?_), hs4.nil⟩))
 show _ = !decide (areaD s.dat q.Id = (q.Term.S.W, q.Term.S.H))
 rw [Bool.eq_iff_iff]; simp [Prod.ext_iff]; grind
theorem k155_ (A_s_ : Option Addr) (n_s_ c_s_ : Nat) (s_ : List PaneR) (b_s : Nat) (s : StateR) (w : World) (f_s_ : SlN encPaneR (okPaneR 549755813888) w A_s_ n_s_ s_) (f_b : SlF encStateR w (some ⟨b_s, 0, none⟩) 1 [s]) (f_s : okStateR 549755813888 w s) (hn : n_s_ ≤ 549755813888) (hT : totState s.dat ≤ 1048576) :
    Calls Tryz.prog 126 #[.slice A_s_ n_s_ c_s_, .func (.func 64) #[] #[.pointer (some ⟨b_s, 0, none⟩)]] w fun e w' => e = .returned (.int .i64 (findI (fun q : PaneR => !areaB s.dat q.dat) s_)) ∧ St w [] [] w' := by
 have hsl := f_s_.sl.len
 refine enter 19 Tryz.func126 rfl Tryz.ntmps126 rfl rfl ?_
 have hs1 := St.init w
 refine WC.r1 hs1 [] rfl (WC.seq (fun K2 hK2 => WC.r1 hs1 [] rfl (WC.block ?_)))
 refine WC.lS [0, 1, 7] rfl hs1 (fun k_ f w' => ∃ (i : Nat), k_ = n_s_ - i ∧ (i ≤ n_s_) ∧ (∀ j, j < i → (fun q : PaneR => !areaB s.dat q.dat) (gat encPaneR s_ j) = false) ∧ Sub [(8, .int .i64 i)] f) ((fun (i : Nat) => n_s_ - i) (0)) ?_ ?_
 ·refine ⟨0, rfl, ?_, ?_, ⟨rfl, trivial⟩⟩
  · exact Nat.zero_le _
  · exact fun j hj => absurd hj (by omega)
 clear hs1
 rintro _ f w ⟨i, rfl, p0, p1, hG⟩ hF hs3
 refine WC.sub _ (hG.app hF) ?_
 clear hG hF
 refine WC.r1 hs3 [] rfl (WC.seq (fun K4 hK4 => ?_))
 refine WC.cq rfl (fun h5 qh5 => ?_) (fun h5 qh5 => ?_)
 ·refine WC.skip (hK4 _ _ (WC.seq (fun K6 hK6 => WC.block (WC.r1 hs3 [] rfl (WC.sr (WL.r 3 hs3 [] rfl ?_))))))
  refine WL.val rfl rfl rfl (Run.idxN Tryz.runUnderlying29 Tryz.sizeOf93 rfl rfl rfl ?_ ?_ ?_) ?_
  · exact SlF.some_ (SlF.st0 f_s_.sl hs3)
  · omega
  · omega
  refine WL.val rfl rfl rfl (Run.loadA Tryz.isAgg93 Tryz.sizeOf93 rfl rfl (SlF.whole (SlF.st0 f_s_.sl hs3) ?_)) ?_
  · omega
  refine WL.call rfl rfl rfl (Run.callC Tryz.call64 rfl rfl rfl) (k154_ (gat encPaneR s_ i) _ _ _ (okPaneR.st0 (SlN.nth f_s_ (by omega)) hs3) (SlF.st0 f_b hs3) (okStateR.st0 f_s hs3) ?_) ?_
  · first | assumption | rfl | omega
  rintro _ whs7 ⟨rfl, hs7⟩
  replace hs7 := hs3.call0 hs7
  refine ⟨_, rfl, WL.nil (WC.cq rfl (fun h8 qh8 => ?_) (fun h8 qh8 => ?_))⟩
  ·refine WC.r1 hs7 [] rfl (WC.ret (ibR (tkR (tkR (ibR (tkR ?_))))))
   clear hK6 hK2
   refine rtv rfl rfl hs7 ?_
   rw [findI_some (F := encPaneR) (i := i) (by omega) p1 h8]
  refine WC.skip (hK6 _ _ (WC.region (WL.r 2 hs7 [] rfl (WL.nil (tkN ?_)))))
  refine ⟨sbF rfl, hs7, _, ?_, i + 1, rfl, ?_, ?_, ⟨rfl, trivial⟩⟩
  · omega
  · omega
  · intro j hj; rcases Nat.lt_or_ge j i with h_ | h_
    · exact p1 j h_
    · obtain rfl : j = i := by omega
      exact h8
 refine WC.exit (hK2 _ _ (WC.r1 hs3 [] rfl (WC.ret (rtv rfl rfl hs3 ?_))))
 rw [findI_none (F := encPaneR) (fun j hj => p1 j (by omega))]
theorem k156_ (A_s_ : Option Addr) (n_s_ c_s_ : Nat) (s_ : List PaneR) (b_s : Nat) (s : StateR) (w : World) (f_s_ : SlN encPaneR (okPaneR 549755813888) w A_s_ n_s_ s_) (f_b : SlF encStateR w (some ⟨b_s, 0, none⟩) 1 [s]) (f_s : okStateR 549755813888 w s) (hn : n_s_ ≤ 549755813888) (hT : totState s.dat ≤ 1048576) :
    Calls Tryz.prog 63 #[.slice A_s_ n_s_ c_s_, .func (.func 64) #[] #[.pointer (some ⟨b_s, 0, none⟩)]] w fun e w' => e = .returned (.bool (decide (0 ≤ findI (fun q : PaneR => !areaB s.dat q.dat) s_))) ∧ St w [] [] w' := by
 refine enter 9 Tryz.func63 rfl Tryz.ntmps63 rfl rfl ?_
 have hs1 := St.init w
 refine WC.r1 hs1 [] rfl (WC.sr (WL.r 2 hs1 [] rfl (WL.cl Tryz.call126 rfl (k155_ _ _ _ _ _ _ _ (SlN.st0 okPaneR.st0 f_s_ hs1) (SlF.st0 f_b hs1) (okStateR.st0 f_s hs1) ?_ ?_) ?_)))
 iterate 2 first | assumption | rfl | omega
 rintro _ whs2 ⟨rfl, hs2⟩
 replace hs2 := hs1.call0 hs2
 refine ⟨_, rfl, WL.r 2 hs2 [] rfl (WL.nil (WC.ret (rtv rfl rfl hs2 ?_)))⟩
 rfl
set_option maxHeartbeats 4000000 in
theorem k157_ (s : StateR) (w : World) (f_s : okStateR 549755813888 w s) (hT : totState s.dat ≤ 1048576) :
    Calls Tryz.prog 19 #[.agg #[i64 s.W, i64 s.H, i64 s.Limit, i64 s.Next, .slice s.Panes.A s.Panes.n s.Panes.c, .slice s.Wins.A s.Wins.n s.Wins.c, .slice s.Sess.A s.Sess.n s.Sess.c]] w fun e w' => e = .returned (.bool (stateOk s.dat)) ∧ St w [] [] w' := by
 have nb_s_Panes := f_s.Panes_n
 have nl_s_Panes := f_s.Panes.sl.len
 have nb_s_Wins := f_s.Wins_n
 have nl_s_Wins := f_s.Wins.sl.len
 have nb_s_Sess := f_s.Sess_n
 have nl_s_Sess := f_s.Sess.sl.len
 refine enter 41 Tryz.func19 rfl Tryz.ntmps19 rfl rfl ?_
 have hs1 := St.init w
 refine WC.sr (WL.bx hs1 rfl (fun b2 _ hs3 => WL.r 1 hs3 [] rfl (WL.nil (WC.seq (fun K4 hK4 => WC.sr (WL.r 4 hs3 [0, 0] rfl (WL.cl Tryz.call57 rfl (k55_ _ _ _) ?_)))))))
 rintro _ whs5 ⟨rfl, hs5⟩
 replace hs5 := hs3.call0 hs5
 refine ⟨_, rfl, WL.r 2 hs5 [] rfl ?_⟩
 apply WL.gO 4 Acts.nil hs5 rfl
 ·intro g6 J7
  have qg6 := g6
  try simp only [bf, within_iff, within_not] at qg6
  refine WL.runA tbk 2 (Acts.nil.cons (j := 6) rfl g6) hs5 [0] rfl ⟨rfl, trivial⟩ (WL.call (wantF rfl g6) rfl rfl (Run.call Tryz.call58 rfl rfl rfl) (k0_ _ _ _ _) ?_)
  rintro _ whs8 ⟨rfl, hs8⟩
  replace hs8 := hs5.call0 hs8
  refine ⟨_, rfl, WL.runA tbk 1 (Acts.nil.cons (j := 6) rfl g6) hs8 [] rfl trivial (WL.eO 4 Acts.nil J7 hs8 g6 rfl rfl)⟩
 intro _ hs9
 refine WL.r 1 hs9 [] rfl ?_
 apply WL.gO 4 Acts.nil hs9 rfl
 ·intro g10 J11
  have qg10 := g10
  try simp only [bf, within_iff, within_not] at qg10
  refine WL.runA tbk 2 (Acts.nil.cons (j := 12) rfl g10) hs9 [0] rfl ⟨rfl, trivial⟩ (WL.call (wantF rfl g10) rfl rfl (Run.call Tryz.call59 rfl rfl rfl) (k1_ _ _) ?_)
  rintro _ whs12 ⟨rfl, hs12⟩
  replace hs12 := hs9.call0 hs12
  refine ⟨_, rfl, WL.runA tbk 1 (Acts.nil.cons (j := 12) rfl g10) hs12 [] rfl trivial (WL.eO 4 Acts.nil J11 hs12 g10 rfl rfl)⟩
 intro _ hs13
 refine WL.r 1 hs13 [] rfl ?_
 apply WL.gO 3 Acts.nil hs13 rfl
 ·intro g14 J15
  have qg14 := g14
  try simp only [bf, within_iff, within_not] at qg14
  refine WL.runA tbk 1 (Acts.nil.cons (j := 18) rfl g14) hs13 [0] rfl ⟨rfl, trivial⟩ (WL.call (wantF rfl g14) rfl rfl (Run.call Tryz.call60 rfl rfl rfl) (k144_ s _ (okStateR.st0 f_s hs13) ?_) ?_)
  · first | assumption | rfl | omega
  rintro _ whs16 ⟨rfl, hs16⟩
  replace hs16 := hs13.call0 hs16
  refine ⟨_, rfl, WL.runA tbk 1 (Acts.nil.cons (j := 18) rfl g14) hs16 [] rfl trivial (WL.eO 3 Acts.nil J15 hs16 g14 rfl rfl)⟩
 intro _ hs17
 refine WL.r 1 hs17 [] rfl ?_
 apply WL.gO 3 Acts.nil hs17 rfl
 ·intro g18 J19
  have qg18 := g18
  try simp only [bf, within_iff, within_not] at qg18
  refine WL.runA tbk 1 (Acts.nil.cons (j := 23) rfl g18) hs17 [0] rfl ⟨rfl, trivial⟩ (WL.call (wantF rfl g18) rfl rfl (Run.call Tryz.call61 rfl rfl rfl) (k152_ s _ (okStateR.st0 f_s hs17) ?_) ?_)
  · first | assumption | rfl | omega
  rintro _ whs20 ⟨rfl, hs20⟩
  replace hs20 := hs17.call0 hs20
  refine ⟨_, rfl, WL.runA tbk 1 (Acts.nil.cons (j := 23) rfl g18) hs20 [] rfl trivial (WL.eO 3 Acts.nil J19 hs20 g18 rfl rfl)⟩
 intro _ hs21
 refine WL.r 1 hs21 [] rfl ?_
 apply WL.gO 3 Acts.nil hs21 rfl
 ·intro g22 J23
  have qg22 := g22
  try simp only [bf, within_iff, within_not] at qg22
  refine WL.runA tbk 1 (Acts.nil.cons (j := 28) rfl g22) hs21 [0] rfl ⟨rfl, trivial⟩ (WL.call (wantF rfl g22) rfl rfl (Run.call Tryz.call62 rfl rfl rfl) (k153_ s _ (okStateR.st0 f_s hs21) ?_) ?_)
  · first | assumption | rfl | omega
  rintro _ whs24 ⟨rfl, hs24⟩
  replace hs24 := hs21.call0 hs24
  refine ⟨_, rfl, WL.runA tbk 1 (Acts.nil.cons (j := 28) rfl g22) hs24 [] rfl trivial (WL.eO 3 Acts.nil J23 hs24 g22 rfl rfl)⟩
 intro _ hs25
 refine WL.nil (WC.cq rfl (fun h26 qh26 => ?_) (fun h26 qh26 => ?_))
 ·have hbad : stateOk s.dat = false := by
    have h9 := h26
    show ((((isSize s.W s.H && within s.Limit 0 100) && isId s.Next) && (panesOkI s.dat && (winsOkI s.dat && sessOkI s.dat))) && areasC s.dat) = false
    grind
  refine WC.r1 hs25 [] rfl (WC.ret (tkR ?_))
  clear hK4
  refine rtv rfl rfl hs25 ?_
  rw [hbad]
 have hgood : stateOk s.dat = areasC s.dat := by
   have h9 := h26
   show ((((isSize s.W s.H && within s.Limit 0 100) && isId s.Next) && (panesOkI s.dat && (winsOkI s.dat && sessOkI s.dat))) && areasC s.dat) = areasC s.dat
   grind
 have hAr : areasC s.dat = !decide (0 ≤ findI (fun q : PaneR => !areaB s.dat q.dat) s.Panes.xs) := by
   rw [all_find (p := fun q : PaneR => areaB s.dat q.dat)]
   unfold areasC
   rw [show s.dat.Panes = s.Panes.xs.map PaneR.dat from rfl, List.all_map]
   rfl
 refine WC.skip (hK4 _ _ (WC.sr (WL.r 2 hs25 [0] rfl (WL.val rfl rfl rfl (Run.makeFunc rfl rfl) ?_))))
 refine WL.cl Tryz.call63 rfl (k156_ _ _ _ _ _ _ _ (SlN.st0 okPaneR.st0 f_s.Panes hs25) (SlF.own1 (hs25.own _ (nthL_mem (i := 0) rfl)).1) (okStateR.st0 f_s hs25) ?_ ?_) ?_
 iterate 2 first | assumption | rfl | omega
 rintro _ whs27 ⟨rfl, hs27⟩
 replace hs27 := hs25.call0 hs27
 refine ⟨_, rfl, WL.r 2 hs27 [] rfl (WL.nil (WC.ret (rtv rfl rfl hs27 ?_)))⟩
 rw [hgood, hAr]
set_option maxHeartbeats 4000000 in
theorem k158_ (s : StateR) (w : World) (f_s : okStateR 549755813888 w s) (hT : totState s.dat ≤ 1048576) :
    Calls Tryz.prog 56 #[.agg #[i64 s.W, i64 s.H, i64 s.Limit, i64 s.Next, .slice s.Panes.A s.Panes.n s.Panes.c, .slice s.Wins.A s.Wins.n s.Wins.c, .slice s.Sess.A s.Sess.n s.Sess.c]] w fun e w' => e = .returned (.bool (panesOkS s.dat)) ∧ St w [] [] w' := by
 have nb_s_Panes := f_s.Panes_n
 have nl_s_Panes := f_s.Panes.sl.len
 have nb_s_Wins := f_s.Wins_n
 have nl_s_Wins := f_s.Wins.sl.len
 have nb_s_Sess := f_s.Sess_n
 have nl_s_Sess := f_s.Sess.sl.len
 have hsm0 : smState 1048576 s.dat := totState_sm hT
 have hlP : s.dat.Panes.length = s.Panes.xs.length := List.length_map _
 have hlW : s.dat.Wins.length = s.Wins.xs.length := List.length_map _
 have hlS : s.dat.Sess.length = s.Sess.xs.length := List.length_map _
 have hnP : s.dat.Panes.length ≤ 1048576 := hsm0.1
 have hnW : s.dat.Wins.length ≤ 1048576 := hsm0.2.2.1
 have hnS : s.dat.Sess.length ≤ 1048576 := hsm0.2.2.2.2.1
 have hWn : ∀ y, y ∈ s.Wins.xs → y.Tree.n ≤ 1048576 := fun y hy => by have h1 := (f_s.Wins.all y hy).Tree.len; have h2 : y.Tree.xs.length ≤ 1048576 := (hsm0.2.2.2.1 _ (List.mem_map_of_mem hy)).2; omega
 refine enter 91 Tryz.func56 rfl Tryz.ntmps56 rfl rfl ?_
 have hs1 := St.init w
 refine WC.sr (WL.bx hs1 rfl (fun b2 _ hs3 => WL.r 1 hs3 [] rfl (WL.nil (WC.sr (WL.buildF (F := encI) hs3 ([]) Tryz.runUnderlying60 Tryz.sizeOf3 Tryz.zeroValue3 rfl rfl rfl rfl rfl rfl rfl rfl rfl rfl rfl rfl (fun A7 c8 L4 whs5 hs5 ho6 => ?_))))))
 replace hs5 := St.back [_] hs5
 refine WL.r 1 hs5 [] rfl (WL.nil (WC.seq (fun K9 hK9 => WC.r1 hs5 [0] rfl (WC.block ?_))))
 refine WC.lO [1, 10, 11] rfl (hs5.fr L4) (fun k_ f L_ => ∃ (zs : List Int) (i : Nat) (A10 : Option Addr) (c11 : Nat), k_ = s.Panes.n - i ∧ (i ≤ s.Panes.n) ∧ (zs = (pidsL ((s.Panes.xs.take (i)).map PaneR.dat))) ∧ (zs.length ≤ i) ∧ (∀ j, j < i → (paneB s.dat (gat encPaneR s.Panes.xs j).dat = true ∧ (0 < j → (gat encPaneR s.Panes.xs (j - 1)).Id < (gat encPaneR s.Panes.xs j).Id)) ∧ areaB s.dat (gat encPaneR s.Panes.xs j).dat = true) ∧ (zs.Nodup) ∧ OwnF encI 3 (.slice A10 (zs.length) c11) (zs) L_ ∧ Sub [(3, .slice A10 (zs.length) c11), (12, .int .i64 i)] f) (((fun (zs : List Int) (i : Nat) => s.Panes.n - i) ([]) (0))) ?_ ?_
 ·refine ⟨[], 0, _, _, rfl, ?_, ?_, ?_, ?_, ?_, ho6, ⟨rfl, rfl, trivial⟩⟩
  · exact Nat.zero_le _
  · rfl
  · exact Nat.le_refl _
  · exact fun j hj => absurd hj (by omega)
  · exact List.nodup_nil
 clear hs5
 rintro _ f w L12 ⟨zs, i, A10, c11, rfl, p0, p1, p2, p3, p4, ho13, hG⟩ hF hs14
 refine WC.sub _ (hG.app hF) ?_
 clear hG hF
 replace hs14 := St.back [_] hs14
 refine WC.r1 hs14 [] rfl (WC.seq (fun K15 hK15 => ?_))
 refine WC.cq rfl (fun h16 qh16 => ?_) (fun h16 qh16 => ?_)
 ·have hTm := (SlN.nth f_s.Panes (show i < s.Panes.n by omega))
  refine WC.skip (hK15 _ _ (WC.seq (fun K17 hK17 => WC.block (WC.sr (WL.r 1 hs14 [] rfl ?_)))))
  refine WL.val rfl rfl rfl (Run.idxN Tryz.runUnderlying29 Tryz.sizeOf93 rfl rfl rfl ?_ ?_ ?_) ?_
  · exact SlF.some_ (SlF.st0 f_s.Panes.sl hs14)
  · first | omega | (simp only [decide_eq_true_eq] at *; omega)
  · first | omega | (simp only [decide_eq_true_eq] at *; omega)
  refine WL.val rfl rfl rfl (Run.loadA Tryz.isAgg93 Tryz.sizeOf93 rfl rfl (SlF.whole (SlF.st0 f_s.Panes.sl hs14) ?_)) ?_
  · first | omega | (simp only [decide_eq_true_eq] at *; omega)
  refine WL.al hs14 Tryz.zeroValue93 rfl rfl (fun b18 _ hs19 => WL.r 1 hs19 [] rfl (WL.st tbk hs19 0 rfl rfl (fun _ hs20 => WL.nil (WC.seq (fun K21 hK21 => WC.sq1 hs20 (WQ.r 1 [0] rfl ?_))))))
  refine WQ.call rfl rfl rfl (fun w_ hs_ => (Run.call Tryz.call120 rfl rfl rfl)) (fun w_ hs_ => (k143_ (gat encPaneR s.Panes.xs i) _ (okPaneR.st0 (SlN.nth f_s.Panes (by first | omega | (simp only [decide_eq_true_eq] at *; omega))) (hs_ : St _ _ _ _))).mono fun e_ w_ h_ => ⟨h_.1, (hs_ : St _ _ _ _).call0 h_.2⟩) ?_
  refine WQ.r 2 [] rfl (WQ.pO tbk 5 Acts.nil [0, 1] rfl rfl rfl rfl (fun g_ => ⟨rfl, rfl, trivial⟩) (WQ.r 1 [] rfl ?_))
  apply WQ.gO 14 Acts.nil rfl
  ·intro g22 J23
   have qg22 := g22
   try simp only [bf, within_iff, within_not] at qg22
   refine WQ.runA tbk 3 (Acts.nil.cons (j := 10) rfl g22) [] rfl trivial ?_
   apply WQ.gA 10 (Acts.nil.cons (j := 10) rfl g22) rfl
   ·intro g24 J25
    have qg24 := g24
    try simp only [bf, within_iff, within_not] at qg24
    refine WQ.runA tbk 4 (Acts.nil.cons (j := 13) rfl g24) [1] rfl ⟨by omega, rfl, trivial⟩ ?_
    refine WQ.val (wantT rfl g24) rfl rfl (fun w_ hs_ => (Run.idxK ((i - 1)) Tryz.runUnderlying29 Tryz.sizeOf93 rfl rfl rfl ?_ ?_ ?_)) ?_
    · exact SlF.some_ (SlF.st0 f_s.Panes.sl (hs_ : St _ _ _ _))
    · first | omega | (simp only [decide_eq_true_eq] at *; omega)
    · first | omega | (simp only [decide_eq_true_eq] at *; omega)
    refine WQ.val (wantT rfl g24) rfl rfl (fun w_ hs_ => (Run.fieldO Tryz.runUnderlying93 rfl rfl rfl Tryz.sizeOf3 rfl)) ?_
    refine WQ.val (wantT rfl g24) rfl rfl (fun w_ hs_ => (Run.load Tryz.isAgg3 rfl rfl (SlF.fld (SlF.st0 f_s.Panes.sl (hs_ : St _ _ _ _)) ?_ rfl))) ?_
    · first | omega | (simp only [decide_eq_true_eq] at *; omega)
    refine WQ.runA tbk 3 (Acts.nil.cons (j := 13) rfl g24) [0] rfl ⟨rfl, trivial⟩ (WQ.eA 10 (Acts.nil.cons (j := 10) rfl g22) J25 g24 rfl rfl)
   exact WQ.eO 4 Acts.nil J23 g22 rfl rfl
  refine WQ.nil (fun _ (hs26 : St _ _ _ _) => ?_)
  refine WC.cq rfl (fun h27 qh27 => ?_) (fun h27 qh27 => ?_)
  ·have hbad : panesOkS s.dat = false := panesS_no (i := i) (by omega) (by
     show ((paneOk (gat encPaneR s.Panes.xs i).dat && decide ((gat encPaneR s.Panes.xs i).Id < s.Next)) && decide ((gat encPaneR s.Panes.xs i).Term.S.Limit = s.Limit)) = false ∨ _
     have h9 := h27
     grind)
   refine WC.r1 hs26 [] rfl (WC.ret (tkR (ibR (tkR (tkR (ibR (tkR ?_)))))))
   clear hK21 hK17 hK9
   refine rtv rfl rfl hs26 ?_
   first | rw [hbad] | rw [hall]
  have h42 := h27
  refine WC.skip (hK21 _ _ (WC.sr (WL.r 3 hs26 [1, 0] rfl ?_)))
  refine WL.cl Tryz.call16 rfl (k132_ s _ _ (okStateR.st0 f_s hs26) ?_) ?_
  · first | assumption | rfl | omega
  rintro _ whs28 ⟨rfl, hs28⟩
  replace hs28 := hs26.call0 hs28
  refine ⟨_, rfl, WL.r 5 hs28 [] rfl (WL.nil (WC.seq (fun K29 hK29 => WC.sr (WL.r 7 hs28 [0] rfl (WL.pO tbk 6 Acts.nil hs28 [0] rfl rfl rfl rfl (fun g_ => ⟨rfl, trivial⟩) (WL.r 1 hs28 [] rfl ?_))))))⟩
  refine WL.pO tbk 7 Acts.nil hs28 [0, 1] rfl rfl rfl rfl (fun g_ => ⟨rfl, rfl, trivial⟩) (WL.nil (WC.cq rfl (fun h30 qh30 => ?_) (fun h30 qh30 => ?_)))
  ·have hbad : panesOkS s.dat = false := panesS_no (i := i) (by omega) (by
     show ((paneOk (gat encPaneR s.Panes.xs i).dat && decide ((gat encPaneR s.Panes.xs i).Id < s.Next)) && decide ((gat encPaneR s.Panes.xs i).Term.S.Limit = s.Limit)) = false ∨ _ ∨ decide (areaD s.dat (gat encPaneR s.Panes.xs i).Id = ((gat encPaneR s.Panes.xs i).Term.S.W, (gat encPaneR s.Panes.xs i).Term.S.H)) = false
     have h9 := h30
     simp only [Bool.or_eq_true, Bool.not_eq_true', decide_eq_true_eq, decide_eq_false_iff_not, Bool.and_eq_false_iff, Prod.ext_iff] at h9 ⊢
     grind)
   refine WC.r1 hs28 [] rfl (WC.ret (tkR (ibR (tkR (tkR (ibR (tkR ?_)))))))
   clear hK29 hK17 hK9
   refine rtv rfl rfl hs28 ?_
   first | rw [hbad] | rw [hall]
  have hgood : (paneB s.dat (gat encPaneR s.Panes.xs i).dat = true ∧ (0 < i → (gat encPaneR s.Panes.xs (i - 1)).Id < (gat encPaneR s.Panes.xs i).Id)) ∧ areaB s.dat (gat encPaneR s.Panes.xs i).dat = true := by
    show (((paneOk (gat encPaneR s.Panes.xs i).dat && decide ((gat encPaneR s.Panes.xs i).Id < s.Next)) && decide ((gat encPaneR s.Panes.xs i).Term.S.Limit = s.Limit)) = true ∧ _) ∧ decide (areaD s.dat (gat encPaneR s.Panes.xs i).Id = ((gat encPaneR s.Panes.xs i).Term.S.W, (gat encPaneR s.Panes.xs i).Term.S.H)) = true
    have h9 := h30
    simp only [Bool.and_eq_true, Bool.or_eq_false_iff, Bool.not_eq_false', decide_eq_true_eq, decide_eq_false_iff_not, Prod.ext_iff] at h9 ⊢
    grind
  refine WC.skip (hK29 _ _ (WC.seq (fun K31 hK31 => WC.sr (WL.r 4 hs28 [0] rfl ?_))))
  apply WL.gA 4 Acts.nil hs28 rfl
  ·intro g32 J33
   have qg32 := g32
   try simp only [bf, within_iff, within_not] at qg32
   refine WL.runA tbk 3 (Acts.nil.cons (j := 3) rfl g32) hs28 [0] rfl ⟨rfl, trivial⟩ (WL.call (wantT rfl g32) rfl rfl (Run.call Tryz.call39 rfl rfl rfl) (k103_ _ _ _ _ _ _ (SlF.ofOwn ho13 (hs28.ow L12)) ?_) ?_)
   · first | assumption | rfl | omega
   rintro _ whs34 ⟨rfl, hs34⟩
   replace hs34 := hs28.call0 hs34
   refine ⟨_, rfl, WL.eA 4 Acts.nil J33 hs34 g32 rfl rfl⟩
  intro _ hs35
  refine WL.nil (WC.cq rfl (fun h36 qh36 => ?_) (fun h36 qh36 => ?_))
  ·have hbad : panesOkS s.dat = false := by
     have hpq := panesI_pid (s := s) (i := i) (by omega) (by grind) (by rw [← p1]; grind [hasI])
     unfold panesOkS
     rw [hpq, Bool.and_false]
   refine WC.r1 hs35 [] rfl (WC.ret (tkR (ibR (tkR (tkR (ibR (tkR ?_)))))))
   clear hK31 hK17 hK9
   refine rtv rfl rfl hs35 ?_
   first | rw [hbad] | rw [hall]
  have hpid : ¬ ((gat encPaneR s.Panes.xs i).Life = 1 ∧ (gat encPaneR s.Panes.xs i).Pid ∈ zs) := by
    have h9 := h36
    grind [hasI]
  refine WC.skip (hK31 _ _ (WC.r1 hs35 [0] rfl ?_))
  refine WC.cq rfl (fun h37 qh37 => ?_) (fun h37 qh37 => ?_)
  ·refine WC.region (WL.r 3 hs35 [0] rfl (WL.buildSlice hs35 Tryz.runUnderlying60 Tryz.sizeOf3 Tryz.zeroValue3 rfl rfl rfl rfl rfl rfl rfl rfl rfl rfl (fun b38 whs39 hs39 => ?_)))
   refine WL.appendG (hs39.fr L12) ho13 (srcI1 Tryz.underlying60 (hs39.own _ (nthL_mem (i := 0) rfl)).1) Tryz.underlying60 inf3 rfl rfl rfl rfl rfl rfl rfl rfl rfl rfl ?_ (fun A43 c44 L40 whs41 hs41 ho42 => ?_)
   · first | omega | (simp only [List.length_append, List.length_cons, List.length_nil]; omega)
   replace hs41 := St.back [_, _, _] hs41
   refine WL.r 1 hs41 [] rfl (WL.nil (hK17 _ _ (WC.region (WL.r 2 hs41 [] rfl (WL.nil (tkN ?_))))))
   replace hs41 := hs41.d1.d1
   refine ⟨sbF rfl, _, (hs41.fr L40), _, ?_, _, i + 1, _, _, rfl, ?_, ?_, ?_, ?_, ?_, ho42, ⟨rfl, rfl, trivial⟩⟩
   · omega
   · omega
   · rw [pidsL_take (by omega), p1]; first | (rw [if_pos (by grind)]) | (rw [if_neg (by grind), List.append_nil])
   · (try rw [List.length_append]); (try simp only [List.length_cons, List.length_nil]); omega
   · intro j hj; rcases Nat.lt_or_ge j i with h_ | h_
     · exact p3 j h_
     · obtain rfl : j = i := by omega
       exact hgood
   · first | exact p4 | (exact nodup_snoc p4 (fun hm => hpid ⟨by grind, hm⟩))
  refine WC.skip (hK17 _ _ (WC.region (WL.r 2 hs35 [] rfl (WL.nil (tkN ?_)))))
  replace hs35 := hs35.d1
  refine ⟨sbF rfl, _, (hs35.fr L12), _, ?_, _, i + 1, _, _, rfl, ?_, ?_, ?_, ?_, ?_, ho13, ⟨rfl, rfl, trivial⟩⟩
  · omega
  · omega
  · rw [pidsL_take (by omega), p1]; first | (rw [if_pos (by grind)]) | (rw [if_neg (by grind), List.append_nil])
  · (try rw [List.length_append]); (try simp only [List.length_cons, List.length_nil]); omega
  · intro j hj; rcases Nat.lt_or_ge j i with h_ | h_
    · exact p3 j h_
    · obtain rfl : j = i := by omega
      exact hgood
  · first | exact p4 | (exact nodup_snoc p4 (fun hm => hpid ⟨by grind, hm⟩))
 have hpc : pidsC s.dat = true := pidsC_all (i := i) (by omega) (by rw [← p1]; exact p4)
 have hall := panesS_yes (s := s) (fun j hj => p3 j (by omega)) hpc
 refine WC.exit (hK9 _ _ (WC.r1 hs14 [] rfl (WC.ret (rtv rfl rfl hs14 ?_))))
 first | rw [hbad] | rw [hall]
set_option maxHeartbeats 4000000 in
theorem k159_ (s : StateR) (w : World) (f_s : okStateR 549755813888 w s) (hT : totState s.dat ≤ 1048576) :
    Calls Tryz.prog 54 #[.agg #[i64 s.W, i64 s.H, i64 s.Limit, i64 s.Next, .slice s.Panes.A s.Panes.n s.Panes.c, .slice s.Wins.A s.Wins.n s.Wins.c, .slice s.Sess.A s.Sess.n s.Sess.c]] w fun e w' => e = .returned (.bool (winsOkS s.dat)) ∧ St w [] [] w' := by
 have nb_s_Panes := f_s.Panes_n
 have nl_s_Panes := f_s.Panes.sl.len
 have nb_s_Wins := f_s.Wins_n
 have nl_s_Wins := f_s.Wins.sl.len
 have nb_s_Sess := f_s.Sess_n
 have nl_s_Sess := f_s.Sess.sl.len
 have hsm0 : smState 1048576 s.dat := totState_sm hT
 have hlP : s.dat.Panes.length = s.Panes.xs.length := List.length_map _
 have hlW : s.dat.Wins.length = s.Wins.xs.length := List.length_map _
 have hlS : s.dat.Sess.length = s.Sess.xs.length := List.length_map _
 have hnP : s.dat.Panes.length ≤ 1048576 := hsm0.1
 have hnW : s.dat.Wins.length ≤ 1048576 := hsm0.2.2.1
 have hnS : s.dat.Sess.length ≤ 1048576 := hsm0.2.2.2.2.1
 have hWn : ∀ y, y ∈ s.Wins.xs → y.Tree.n ≤ 1048576 := fun y hy => by have h1 := (f_s.Wins.all y hy).Tree.len; have h2 : y.Tree.xs.length ≤ 1048576 := (hsm0.2.2.2.1 _ (List.mem_map_of_mem hy)).2; omega
 have hWnm : ∀ y, y ∈ s.Wins.xs → y.Name.size ≤ 1048576 := fun y hy => (hsm0.2.2.2.1 _ (List.mem_map_of_mem hy)).1
 refine enter 112 Tryz.func54 rfl Tryz.ntmps54 rfl rfl ?_
 have hs1 := St.init w
 refine WC.sr (WL.bx hs1 rfl (fun b2 _ hs3 => WL.r 1 hs3 [] rfl (WL.nil (WC.sr (WL.buildF (F := encI) hs3 ([]) Tryz.runUnderlying60 Tryz.sizeOf3 Tryz.zeroValue3 rfl rfl rfl rfl rfl rfl rfl rfl rfl rfl rfl rfl (fun A7 c8 L4 whs5 hs5 ho6 => ?_))))))
 replace hs5 := St.back [_] hs5
 refine WL.r 1 hs5 [] rfl (WL.nil (WC.seq (fun K9 hK9 => WC.r1 hs5 [0] rfl (WC.block ?_))))
 refine WC.lO [1, 12, 13] rfl (hs5.fr L4) (fun k_ f L_ => ∃ (zs : List Int) (i : Nat) (A10 : Option Addr) (c11 : Nat), k_ = s.Wins.n - i ∧ (i ≤ s.Wins.n) ∧ (zs = (treesL ((s.Wins.xs.take (i)).map WinR.dat))) ∧ (zs.length ≤ 31 * i) ∧ (∀ j, j < i → (winB s.dat (gat encWinR s.Wins.xs j).dat = true ∧ (0 < j → (gat encWinR s.Wins.xs (j - 1)).Id < (gat encWinR s.Wins.xs j).Id)) ∧ hasI (pIds s.dat) (gat encWinR s.Wins.xs j).Id = false) ∧ OwnF encI 3 (.slice A10 (zs.length) c11) (zs) L_ ∧ Sub [(3, .slice A10 (zs.length) c11), (14, .int .i64 i)] f) (((fun (zs : List Int) (i : Nat) => s.Wins.n - i) ([]) (0))) ?_ ?_
 ·refine ⟨[], 0, _, _, rfl, ?_, ?_, ?_, ?_, ho6, ⟨rfl, rfl, trivial⟩⟩
  · exact Nat.zero_le _
  · rfl
  · exact Nat.le_refl _
  · exact fun j hj => absurd hj (by omega)
 clear hs5
 rintro _ f w L12 ⟨zs, i, A10, c11, rfl, p0, p1, p2, p3, ho13, hG⟩ hF hs14
 refine WC.sub _ (hG.app hF) ?_
 clear hG hF
 replace hs14 := St.back [_] hs14
 refine WC.r1 hs14 [] rfl (WC.seq (fun K15 hK15 => ?_))
 refine WC.cq rfl (fun h16 qh16 => ?_) (fun h16 qh16 => ?_)
 ·have hTm := (SlN.nth f_s.Wins (show i < s.Wins.n by omega))
  have hTl := hTm.Tree.len
  have hWi := hWn (gat encWinR s.Wins.xs i) (gat_mem (by omega))
  have hWj := hWnm (gat encWinR s.Wins.xs i) (gat_mem (by omega))
  have hll := leavesL_len (gat encWinR s.Wins.xs i).Tree.xs
  refine WC.skip (hK15 _ _ (WC.seq (fun K17 hK17 => WC.block (WC.sr (WL.r 1 hs14 [] rfl ?_)))))
  refine WL.val rfl rfl rfl (Run.idxN Tryz.runUnderlying30 Tryz.sizeOf58 rfl rfl rfl ?_ ?_ ?_) ?_
  · exact SlF.some_ (SlF.st0 f_s.Wins.sl hs14)
  · first | omega | (simp only [decide_eq_true_eq] at *; omega)
  · first | omega | (simp only [decide_eq_true_eq] at *; omega)
  refine WL.val rfl rfl rfl (Run.loadA Tryz.isAgg58 Tryz.sizeOf58 rfl rfl (SlF.whole (SlF.st0 f_s.Wins.sl hs14) ?_)) ?_
  · first | omega | (simp only [decide_eq_true_eq] at *; omega)
  refine WL.al hs14 Tryz.zeroValue58 rfl rfl (fun b18 _ hs19 => WL.r 1 hs19 [] rfl (WL.st tbk hs19 0 rfl rfl (fun _ hs20 => WL.nil (WC.sr (WL.r 6 hs20 [0, 1, 1] rfl ?_)))))
  refine WL.cl Tryz.call111 rfl (k126_ _ _ _ _ _ _ _ (SlF.st0 (SlN.nth f_s.Wins (by first | omega | (simp only [decide_eq_true_eq] at *; omega))).Tree hs20) ?_) ?_
  · first | assumption | rfl | omega | (rw [List.length_take]; omega)
  rintro _ whs21 ⟨A22, c23, L1_24, rfl, hs21, ho25⟩
  replace hs21 := hs20.callF hs21
  refine ⟨_, rfl, ?_⟩
  replace hs21 := St.back [_, _] hs21
  refine WL.r 5 hs21 [] rfl (WL.nil (WC.seq (fun K26 hK26 => WC.seq (fun K27 hK27 => WC.rH hs21 hs21 (fun _ hs28 => ?_)))))
  refine WH.rn [0, 1, 2] hs28 [] rfl rfl (WH.split 31 rfl (fun g29 => ?_) (fun g29 => ?_))
  ·refine WH.takeSkip 3 rfl (by kernel_rfl) (wantNF rfl g29) rfl rfl hs28 (WH.takeSkip 4 rfl (by kernel_rfl) (wantNF rfl g29) rfl rfl hs28 (WH.takeSkip 5 rfl (by kernel_rfl) (wantNF rfl g29) rfl rfl hs28 ?_))
   refine WH.take 6 rfl (by kernel_rfl) rfl rfl rfl hs28 (fun w_ hs_ => (Run.pickT rfl rfl g29 rfl)) ?_
   refine WH.rn [7] hs28 [] rfl rfl (WH.takeSkip 8 rfl (by kernel_rfl) (wantNF rfl rfl) rfl rfl hs28 (WH.takeSkip 9 rfl (by kernel_rfl) (wantNF rfl rfl) rfl rfl hs28 (WH.takeSkip 10 rfl (by kernel_rfl) (wantNF rfl rfl) rfl rfl hs28 (WH.takeSkip 11 rfl (by kernel_rfl) (wantNF rfl rfl) rfl rfl hs28 (WH.takeSkip 12 rfl (by kernel_rfl) (wantNF rfl rfl) rfl rfl hs28 ?_)))))
   refine WH.take 13 rfl (by kernel_rfl) rfl rfl rfl hs28 (fun w_ hs_ => (Run.pickT rfl rfl rfl rfl)) ?_
   refine WH.rn [14] hs28 [] rfl rfl (WH.takeSkip 15 rfl (by kernel_rfl) (wantNF rfl rfl) rfl rfl hs28 (WH.takeSkip 16 rfl (by kernel_rfl) (wantNF rfl rfl) rfl rfl hs28 (WH.takeSkip 17 rfl (by kernel_rfl) (wantNF rfl rfl) rfl rfl hs28 (WH.takeSkip 18 rfl (by kernel_rfl) rfl rfl rfl hs28 (WH.takeSkip 19 rfl (by kernel_rfl) rfl rfl rfl hs28 (WH.takeSkip 20 rfl (by kernel_rfl) rfl rfl rfl hs28 (WH.takeSkip 21 rfl (by kernel_rfl) rfl rfl rfl hs28 ?_)))))))
   refine WH.takeSkip 22 rfl (by kernel_rfl) rfl rfl rfl hs28 (WH.takeSkip 23 rfl (by kernel_rfl) rfl rfl rfl hs28 (WH.takeSkip 24 rfl (by kernel_rfl) rfl rfl rfl hs28 (WH.takeSkip 25 rfl (by kernel_rfl) rfl rfl rfl hs28 (WH.takeSkip 26 rfl (by kernel_rfl) rfl rfl rfl hs28 (WH.takeSkip 27 rfl (by kernel_rfl) rfl rfl rfl hs28 (WH.takeSkip 28 rfl (by kernel_rfl) (wantNF rfl rfl) rfl rfl hs28 ?_))))))
   refine WH.take 29 rfl (by kernel_rfl) rfl rfl rfl hs28 (fun w_ hs_ => (Run.pickT rfl rfl rfl rfl)) ?_
   refine WH.rn [30] hs28 [] rfl rfl (WH.takeSkip 31 rfl (by kernel_rfl) (wantNF rfl rfl) rfl rfl hs28 (WH.takeSkip 32 rfl (by kernel_rfl) (wantNF rfl rfl) rfl rfl hs28 (WH.takeSkip 33 rfl (by kernel_rfl) (wantNF rfl rfl) rfl rfl hs28 (WH.o1 34 rfl (WL.skip (wantNF rfl rfl) rfl rfl (WL.nil ⟨hs28, WH.takeSkip 35 rfl (by kernel_rfl) (wantNF rfl rfl) rfl rfl hs28 ?_⟩))))))
   refine WH.take 36 rfl (by kernel_rfl) rfl rfl rfl hs28 (fun w_ hs_ => (Run.pickT rfl rfl rfl rfl)) ?_
   refine WH.rn [37] hs28 [] rfl rfl (WH.takeSkip 38 rfl (by kernel_rfl) (wantNF rfl rfl) rfl rfl hs28 (WH.takeSkip 39 rfl (by kernel_rfl) (wantNF rfl rfl) rfl rfl hs28 (WH.o1 40 rfl (WL.skip (wantNF rfl rfl) rfl rfl (WL.nil ⟨hs28, WH.takeSkip 41 rfl (by kernel_rfl) (wantNF rfl rfl) rfl rfl hs28 ?_⟩)))))
   refine WH.take 42 rfl (by kernel_rfl) rfl rfl rfl hs28 (fun w_ hs_ => (Run.pickT rfl rfl rfl rfl)) ?_
   refine WH.rn [43] hs28 [] rfl rfl (WH.takeSkip 44 rfl (by kernel_rfl) (wantNF rfl rfl) rfl rfl hs28 (WH.takeSkip 45 rfl (by kernel_rfl) (wantNF rfl rfl) rfl rfl hs28 (WH.takeSkip 47 rfl (by kernel_rfl) (wantNF rfl rfl) rfl rfl hs28 (WH.takeSkip 48 rfl (by kernel_rfl) (wantNF rfl rfl) rfl rfl hs28 (WH.o1 46 rfl (WL.skip (wantNF rfl rfl) rfl rfl (WL.nil ⟨hs28, ?_⟩)))))))
   refine WH.o1 49 rfl (WL.skip (wantNF rfl rfl) rfl rfl (WL.nil ⟨hs28, WH.takeSkip 50 rfl (by kernel_rfl) (wantNF rfl rfl) rfl rfl hs28 ?_⟩))
   refine WH.take 51 rfl (by kernel_rfl) rfl rfl rfl hs28 (fun w_ hs_ => (Run.pickT rfl rfl rfl rfl)) ?_
   refine WH.dn (hK27 _ _ (WC.condT rfl rfl ?_))
   have hbad : winsOkS s.dat = false := winsS_no (i := i) (by omega) (by
     show (((decide (1 ≤ (gat encWinR s.Wins.xs i).Id) && decide ((gat encWinR s.Wins.xs i).Id < s.Next)) && (wordOk (gat encWinR s.Wins.xs i).Name && placesOk (gat encWinR s.Wins.xs i).Tree.xs s.W s.H)) && hasI (panesL (gat encWinR s.Wins.xs i).Tree.xs) (gat encWinR s.Wins.xs i).Active) = false ∨ _
     rw [← paneAt_has]
     by_cases hpl : placesOk (gat encWinR s.Wins.xs i).Tree.xs s.W s.H = true
     · have hlp := leaves_panes hpl
       grind
     · grind)
   refine WC.r1 hs28 [] rfl (WC.ret (tkR (ibR (tkR (tkR (ibR (tkR ?_)))))))
   clear hK26 hK17 hK9
   refine rtv rfl rfl hs28 ?_
   first | rw [hbad] | (unfold winsOkS; rw [hWc, hall, Bool.true_and]; congr 1; rw [decide_eq_decide]; omega)
  refine WH.rnA (Acts.nil.cons (j := 2) rfl g29) [3, 4, 5] hs28 [0] rfl rfl ?_
  refine WH.take 6 rfl (by kernel_rfl) rfl rfl rfl hs28 (fun w_ hs_ => (Run.pick rfl rfl rfl rfl)) ?_
  refine WH.rn [7] hs28 [] rfl rfl (WH.split 36 rfl (fun g31 => ?_) (fun g31 => ?_))
  ·refine WH.takeSkip 8 rfl (by kernel_rfl) (wantNF rfl g31) rfl rfl hs28 (WH.takeSkip 9 rfl (by kernel_rfl) (wantNF rfl g31) rfl rfl hs28 (WH.takeSkip 10 rfl (by kernel_rfl) (wantNF rfl g31) rfl rfl hs28 (WH.takeSkip 11 rfl (by kernel_rfl) (wantNF rfl g31) rfl rfl hs28 (WH.takeSkip 12 rfl (by kernel_rfl) (wantNF rfl g31) rfl rfl hs28 ?_))))
   refine WH.take 13 rfl (by kernel_rfl) rfl rfl rfl hs28 (fun w_ hs_ => (Run.pickT rfl rfl g31 rfl)) ?_
   refine WH.rn [14] hs28 [] rfl rfl (WH.takeSkip 15 rfl (by kernel_rfl) (wantNF rfl rfl) rfl rfl hs28 (WH.takeSkip 16 rfl (by kernel_rfl) (wantNF rfl rfl) rfl rfl hs28 (WH.takeSkip 17 rfl (by kernel_rfl) (wantNF rfl rfl) rfl rfl hs28 (WH.takeSkip 18 rfl (by kernel_rfl) rfl rfl rfl hs28 (WH.takeSkip 19 rfl (by kernel_rfl) rfl rfl rfl hs28 (WH.takeSkip 20 rfl (by kernel_rfl) rfl rfl rfl hs28 (WH.takeSkip 21 rfl (by kernel_rfl) rfl rfl rfl hs28 ?_)))))))
   refine WH.takeSkip 22 rfl (by kernel_rfl) rfl rfl rfl hs28 (WH.takeSkip 23 rfl (by kernel_rfl) rfl rfl rfl hs28 (WH.takeSkip 24 rfl (by kernel_rfl) rfl rfl rfl hs28 (WH.takeSkip 25 rfl (by kernel_rfl) rfl rfl rfl hs28 (WH.takeSkip 26 rfl (by kernel_rfl) rfl rfl rfl hs28 (WH.takeSkip 27 rfl (by kernel_rfl) rfl rfl rfl hs28 (WH.takeSkip 28 rfl (by kernel_rfl) (wantNF rfl rfl) rfl rfl hs28 ?_))))))
   refine WH.take 29 rfl (by kernel_rfl) rfl rfl rfl hs28 (fun w_ hs_ => (Run.pickT rfl rfl rfl rfl)) ?_
   refine WH.rn [30] hs28 [] rfl rfl (WH.takeSkip 31 rfl (by kernel_rfl) (wantNF rfl rfl) rfl rfl hs28 (WH.takeSkip 32 rfl (by kernel_rfl) (wantNF rfl rfl) rfl rfl hs28 (WH.takeSkip 33 rfl (by kernel_rfl) (wantNF rfl rfl) rfl rfl hs28 (WH.o1 34 rfl (WL.skip (wantNF rfl rfl) rfl rfl (WL.nil ⟨hs28, WH.takeSkip 35 rfl (by kernel_rfl) (wantNF rfl rfl) rfl rfl hs28 ?_⟩))))))
   refine WH.take 36 rfl (by kernel_rfl) rfl rfl rfl hs28 (fun w_ hs_ => (Run.pickT rfl rfl rfl rfl)) ?_
   refine WH.rn [37] hs28 [] rfl rfl (WH.takeSkip 38 rfl (by kernel_rfl) (wantNF rfl rfl) rfl rfl hs28 (WH.takeSkip 39 rfl (by kernel_rfl) (wantNF rfl rfl) rfl rfl hs28 (WH.o1 40 rfl (WL.skip (wantNF rfl rfl) rfl rfl (WL.nil ⟨hs28, WH.takeSkip 41 rfl (by kernel_rfl) (wantNF rfl rfl) rfl rfl hs28 ?_⟩)))))
   refine WH.take 42 rfl (by kernel_rfl) rfl rfl rfl hs28 (fun w_ hs_ => (Run.pickT rfl rfl rfl rfl)) ?_
   refine WH.rn [43] hs28 [] rfl rfl (WH.takeSkip 44 rfl (by kernel_rfl) (wantNF rfl rfl) rfl rfl hs28 (WH.takeSkip 45 rfl (by kernel_rfl) (wantNF rfl rfl) rfl rfl hs28 (WH.takeSkip 47 rfl (by kernel_rfl) (wantNF rfl rfl) rfl rfl hs28 (WH.takeSkip 48 rfl (by kernel_rfl) (wantNF rfl rfl) rfl rfl hs28 (WH.o1 46 rfl (WL.skip (wantNF rfl rfl) rfl rfl (WL.nil ⟨hs28, ?_⟩)))))))
   refine WH.o1 49 rfl (WL.skip (wantNF rfl rfl) rfl rfl (WL.nil ⟨hs28, WH.takeSkip 50 rfl (by kernel_rfl) (wantNF rfl rfl) rfl rfl hs28 ?_⟩))
   refine WH.take 51 rfl (by kernel_rfl) rfl rfl rfl hs28 (fun w_ hs_ => (Run.pickT rfl rfl rfl rfl)) ?_
   refine WH.dn (hK27 _ _ (WC.condT rfl rfl ?_))
   have hbad : winsOkS s.dat = false := winsS_no (i := i) (by omega) (by
     show (((decide (1 ≤ (gat encWinR s.Wins.xs i).Id) && decide ((gat encWinR s.Wins.xs i).Id < s.Next)) && (wordOk (gat encWinR s.Wins.xs i).Name && placesOk (gat encWinR s.Wins.xs i).Tree.xs s.W s.H)) && hasI (panesL (gat encWinR s.Wins.xs i).Tree.xs) (gat encWinR s.Wins.xs i).Active) = false ∨ _
     rw [← paneAt_has]
     by_cases hpl : placesOk (gat encWinR s.Wins.xs i).Tree.xs s.W s.H = true
     · have hlp := leaves_panes hpl
       grind
     · grind)
   refine WC.r1 hs28 [] rfl (WC.ret (tkR (ibR (tkR (tkR (ibR (tkR ?_)))))))
   clear hK26 hK17 hK9
   refine rtv rfl rfl hs28 ?_
   first | rw [hbad] | (unfold winsOkS; rw [hWc, hall, Bool.true_and]; congr 1; rw [decide_eq_decide]; omega)
  refine WH.rnA (Acts.nil.cons (j := 7) rfl g31) [8, 9, 10, 11, 12] hs28 [0, 1] rfl rfl ?_
  refine WH.take 13 rfl (by kernel_rfl) rfl rfl rfl hs28 (fun w_ hs_ => (Run.pick rfl rfl rfl rfl)) ?_
  refine WH.rn [14] hs28 [] rfl rfl (WH.split 43 rfl (fun g33 => ?_) (fun g33 => ?_))
  ·refine WH.takeSkip 15 rfl (by kernel_rfl) (wantNF rfl g33) rfl rfl hs28 (WH.takeSkip 16 rfl (by kernel_rfl) (wantNF rfl g33) rfl rfl hs28 (WH.takeSkip 17 rfl (by kernel_rfl) (wantNF rfl g33) rfl rfl hs28 (WH.takeSkip 18 rfl (by kernel_rfl) rfl rfl rfl hs28 (WH.takeSkip 19 rfl (by kernel_rfl) rfl rfl rfl hs28 (WH.takeSkip 20 rfl (by kernel_rfl) rfl rfl rfl hs28 (WH.takeSkip 21 rfl (by kernel_rfl) rfl rfl rfl hs28 (WH.takeSkip 22 rfl (by kernel_rfl) rfl rfl rfl hs28 ?_)))))))
   refine WH.takeSkip 23 rfl (by kernel_rfl) rfl rfl rfl hs28 (WH.takeSkip 24 rfl (by kernel_rfl) rfl rfl rfl hs28 (WH.takeSkip 25 rfl (by kernel_rfl) rfl rfl rfl hs28 (WH.takeSkip 26 rfl (by kernel_rfl) rfl rfl rfl hs28 (WH.takeSkip 27 rfl (by kernel_rfl) rfl rfl rfl hs28 (WH.takeSkip 28 rfl (by kernel_rfl) (wantNF rfl g33) rfl rfl hs28 ?_)))))
   refine WH.take 29 rfl (by kernel_rfl) rfl rfl rfl hs28 (fun w_ hs_ => (Run.pickT rfl rfl g33 rfl)) ?_
   refine WH.rn [30] hs28 [] rfl rfl (WH.takeSkip 31 rfl (by kernel_rfl) (wantNF rfl rfl) rfl rfl hs28 (WH.takeSkip 32 rfl (by kernel_rfl) (wantNF rfl rfl) rfl rfl hs28 (WH.takeSkip 33 rfl (by kernel_rfl) (wantNF rfl rfl) rfl rfl hs28 (WH.o1 34 rfl (WL.skip (wantNF rfl rfl) rfl rfl (WL.nil ⟨hs28, WH.takeSkip 35 rfl (by kernel_rfl) (wantNF rfl rfl) rfl rfl hs28 ?_⟩))))))
   refine WH.take 36 rfl (by kernel_rfl) rfl rfl rfl hs28 (fun w_ hs_ => (Run.pickT rfl rfl rfl rfl)) ?_
   refine WH.rn [37] hs28 [] rfl rfl (WH.takeSkip 38 rfl (by kernel_rfl) (wantNF rfl rfl) rfl rfl hs28 (WH.takeSkip 39 rfl (by kernel_rfl) (wantNF rfl rfl) rfl rfl hs28 (WH.o1 40 rfl (WL.skip (wantNF rfl rfl) rfl rfl (WL.nil ⟨hs28, WH.takeSkip 41 rfl (by kernel_rfl) (wantNF rfl rfl) rfl rfl hs28 ?_⟩)))))
   refine WH.take 42 rfl (by kernel_rfl) rfl rfl rfl hs28 (fun w_ hs_ => (Run.pickT rfl rfl rfl rfl)) ?_
   refine WH.rn [43] hs28 [] rfl rfl (WH.takeSkip 44 rfl (by kernel_rfl) (wantNF rfl rfl) rfl rfl hs28 (WH.takeSkip 45 rfl (by kernel_rfl) (wantNF rfl rfl) rfl rfl hs28 (WH.takeSkip 47 rfl (by kernel_rfl) (wantNF rfl rfl) rfl rfl hs28 (WH.takeSkip 48 rfl (by kernel_rfl) (wantNF rfl rfl) rfl rfl hs28 (WH.o1 46 rfl (WL.skip (wantNF rfl rfl) rfl rfl (WL.nil ⟨hs28, ?_⟩)))))))
   refine WH.o1 49 rfl (WL.skip (wantNF rfl rfl) rfl rfl (WL.nil ⟨hs28, WH.takeSkip 50 rfl (by kernel_rfl) (wantNF rfl rfl) rfl rfl hs28 ?_⟩))
   refine WH.take 51 rfl (by kernel_rfl) rfl rfl rfl hs28 (fun w_ hs_ => (Run.pickT rfl rfl rfl rfl)) ?_
   refine WH.dn (hK27 _ _ (WC.condT rfl rfl ?_))
   have hbad : winsOkS s.dat = false := winsS_no (i := i) (by omega) (by
     show (((decide (1 ≤ (gat encWinR s.Wins.xs i).Id) && decide ((gat encWinR s.Wins.xs i).Id < s.Next)) && (wordOk (gat encWinR s.Wins.xs i).Name && placesOk (gat encWinR s.Wins.xs i).Tree.xs s.W s.H)) && hasI (panesL (gat encWinR s.Wins.xs i).Tree.xs) (gat encWinR s.Wins.xs i).Active) = false ∨ _
     rw [← paneAt_has]
     by_cases hpl : placesOk (gat encWinR s.Wins.xs i).Tree.xs s.W s.H = true
     · have hlp := leaves_panes hpl
       grind
     · grind)
   refine WC.r1 hs28 [] rfl (WC.ret (tkR (ibR (tkR (tkR (ibR (tkR ?_)))))))
   clear hK26 hK17 hK9
   refine rtv rfl rfl hs28 ?_
   first | rw [hbad] | (unfold winsOkS; rw [hWc, hall, Bool.true_and]; congr 1; rw [decide_eq_decide]; omega)
  refine WH.rnA (Acts.nil.cons (j := 14) rfl g33) [15, 16, 17] hs28 [] rfl rfl (WH.split 46 rfl (fun g35 => ?_) (fun g35 => ?_))
  ·refine WH.rnA (Acts.nil.cons (j := 17) rfl g35) [18, 19, 20, 21] hs28 [1] rfl rfl ?_
   refine WH.take 22 rfl (by kernel_rfl) (wantT rfl g35) rfl rfl hs28 (fun w_ hs_ => (Run.idxK ((i - 1)) Tryz.runUnderlying30 Tryz.sizeOf58 rfl rfl rfl ?_ ?_ ?_)) ?_
   · exact SlF.some_ (SlF.st0 f_s.Wins.sl (hs_ : St _ _ _ _))
   · first | omega | (simp only [decide_eq_true_eq] at *; omega)
   · first | omega | (simp only [decide_eq_true_eq] at *; omega)
   refine WH.take 23 rfl (by kernel_rfl) (wantT rfl g35) rfl rfl hs28 (fun w_ hs_ => (Run.fieldO Tryz.runUnderlying58 rfl rfl rfl Tryz.sizeOf3 rfl)) ?_
   refine WH.take 24 rfl (by kernel_rfl) (wantT rfl g35) rfl rfl hs28 (fun w_ hs_ => (Run.load Tryz.isAgg3 rfl rfl (SlF.fld (SlF.st0 f_s.Wins.sl (hs_ : St _ _ _ _)) ?_ rfl))) ?_
   · first | omega | (simp only [decide_eq_true_eq] at *; omega)
   refine WH.rnA (Acts.nil.cons (j := 17) rfl g35) [25, 26, 27] hs28 [0] rfl rfl ?_
   refine WH.take 28 rfl (by kernel_rfl) (wantF rfl g33) rfl rfl hs28 (fun w_ hs_ => (Run.pick rfl rfl rfl rfl)) ?_
   refine WH.take 29 rfl (by kernel_rfl) rfl rfl rfl hs28 (fun w_ hs_ => (Run.pick rfl rfl rfl rfl)) ?_
   refine WH.rn [30] hs28 [] rfl rfl (WH.split 59 rfl (fun g36 => ?_) (fun g36 => ?_))
   ·refine WH.takeSkip 31 rfl (by kernel_rfl) (wantNF rfl g36) rfl rfl hs28 (WH.takeSkip 32 rfl (by kernel_rfl) (wantNF rfl g36) rfl rfl hs28 (WH.takeSkip 33 rfl (by kernel_rfl) (wantNF rfl g36) rfl rfl hs28 (WH.o1 34 rfl (WL.skip (wantNF rfl g36) rfl rfl (WL.nil ⟨hs28, WH.takeSkip 35 rfl (by kernel_rfl) (wantNF rfl g36) rfl rfl hs28 ?_⟩)))))
    refine WH.take 36 rfl (by kernel_rfl) rfl rfl rfl hs28 (fun w_ hs_ => (Run.pickT rfl rfl g36 rfl)) ?_
    refine WH.rn [37] hs28 [] rfl rfl (WH.takeSkip 38 rfl (by kernel_rfl) (wantNF rfl rfl) rfl rfl hs28 (WH.takeSkip 39 rfl (by kernel_rfl) (wantNF rfl rfl) rfl rfl hs28 (WH.o1 40 rfl (WL.skip (wantNF rfl rfl) rfl rfl (WL.nil ⟨hs28, WH.takeSkip 41 rfl (by kernel_rfl) (wantNF rfl rfl) rfl rfl hs28 ?_⟩)))))
    refine WH.take 42 rfl (by kernel_rfl) rfl rfl rfl hs28 (fun w_ hs_ => (Run.pickT rfl rfl rfl rfl)) ?_
    refine WH.rn [43] hs28 [] rfl rfl (WH.takeSkip 44 rfl (by kernel_rfl) (wantNF rfl rfl) rfl rfl hs28 (WH.takeSkip 45 rfl (by kernel_rfl) (wantNF rfl rfl) rfl rfl hs28 (WH.takeSkip 47 rfl (by kernel_rfl) (wantNF rfl rfl) rfl rfl hs28 (WH.takeSkip 48 rfl (by kernel_rfl) (wantNF rfl rfl) rfl rfl hs28 (WH.o1 46 rfl (WL.skip (wantNF rfl rfl) rfl rfl (WL.nil ⟨hs28, ?_⟩)))))))
    refine WH.o1 49 rfl (WL.skip (wantNF rfl rfl) rfl rfl (WL.nil ⟨hs28, WH.takeSkip 50 rfl (by kernel_rfl) (wantNF rfl rfl) rfl rfl hs28 ?_⟩))
    refine WH.take 51 rfl (by kernel_rfl) rfl rfl rfl hs28 (fun w_ hs_ => (Run.pickT rfl rfl rfl rfl)) ?_
    refine WH.dn (hK27 _ _ (WC.condT rfl rfl ?_))
    have hbad : winsOkS s.dat = false := winsS_no (i := i) (by omega) (by
      show (((decide (1 ≤ (gat encWinR s.Wins.xs i).Id) && decide ((gat encWinR s.Wins.xs i).Id < s.Next)) && (wordOk (gat encWinR s.Wins.xs i).Name && placesOk (gat encWinR s.Wins.xs i).Tree.xs s.W s.H)) && hasI (panesL (gat encWinR s.Wins.xs i).Tree.xs) (gat encWinR s.Wins.xs i).Active) = false ∨ _
      rw [← paneAt_has]
      by_cases hpl : placesOk (gat encWinR s.Wins.xs i).Tree.xs s.W s.H = true
      · have hlp := leaves_panes hpl
        grind
      · grind)
    refine WC.r1 hs28 [] rfl (WC.ret (tkR (ibR (tkR (tkR (ibR (tkR ?_)))))))
    clear hK26 hK17 hK9
    refine rtv rfl rfl hs28 ?_
    first | rw [hbad] | (unfold winsOkS; rw [hWc, hall, Bool.true_and]; congr 1; rw [decide_eq_decide]; omega)
   refine WH.rnA (Acts.nil.cons (j := 30) rfl g36) [31, 32, 33] hs28 [1, 0] rfl rfl (WH.o1 34 rfl (WL.call (wantF rfl g36) rfl rfl (Run.call Tryz.call116 rfl rfl rfl) (k133_ s _ _ (okStateR.st0 f_s hs28)) ?_))
   rintro _ whs38 ⟨rfl, hs38⟩
   replace hs38 := hs28.call0 hs38
   refine ⟨_, rfl, WL.nil ⟨hs38, WH.rnA (Acts.nil.cons (j := 30) rfl g36) [35] hs38 [] rfl rfl ?_⟩⟩
   refine WH.take 36 rfl (by kernel_rfl) rfl rfl rfl hs38 (fun w_ hs_ => (Run.pick rfl rfl rfl rfl)) ?_
   refine WH.rn [37] hs38 [] rfl rfl (WH.split 66 rfl (fun g39 => ?_) (fun g39 => ?_))
   ·refine WH.takeSkip 38 rfl (by kernel_rfl) (wantNF rfl g39) rfl rfl hs38 (WH.takeSkip 39 rfl (by kernel_rfl) (wantNF rfl g39) rfl rfl hs38 (WH.o1 40 rfl (WL.skip (wantNF rfl g39) rfl rfl (WL.nil ⟨hs38, WH.takeSkip 41 rfl (by kernel_rfl) (wantNF rfl g39) rfl rfl hs38 ?_⟩))))
    refine WH.take 42 rfl (by kernel_rfl) rfl rfl rfl hs38 (fun w_ hs_ => (Run.pickT rfl rfl g39 rfl)) ?_
    refine WH.rn [43] hs38 [] rfl rfl (WH.takeSkip 44 rfl (by kernel_rfl) (wantNF rfl rfl) rfl rfl hs38 (WH.takeSkip 45 rfl (by kernel_rfl) (wantNF rfl rfl) rfl rfl hs38 (WH.takeSkip 47 rfl (by kernel_rfl) (wantNF rfl rfl) rfl rfl hs38 (WH.takeSkip 48 rfl (by kernel_rfl) (wantNF rfl rfl) rfl rfl hs38 (WH.o1 46 rfl (WL.skip (wantNF rfl rfl) rfl rfl (WL.nil ⟨hs38, ?_⟩)))))))
    refine WH.o1 49 rfl (WL.skip (wantNF rfl rfl) rfl rfl (WL.nil ⟨hs38, WH.takeSkip 50 rfl (by kernel_rfl) (wantNF rfl rfl) rfl rfl hs38 ?_⟩))
    refine WH.take 51 rfl (by kernel_rfl) rfl rfl rfl hs38 (fun w_ hs_ => (Run.pickT rfl rfl rfl rfl)) ?_
    refine WH.dn (hK27 _ _ (WC.condT rfl rfl ?_))
    have hbad : winsOkS s.dat = false := winsS_no (i := i) (by omega) (by
      show (((decide (1 ≤ (gat encWinR s.Wins.xs i).Id) && decide ((gat encWinR s.Wins.xs i).Id < s.Next)) && (wordOk (gat encWinR s.Wins.xs i).Name && placesOk (gat encWinR s.Wins.xs i).Tree.xs s.W s.H)) && hasI (panesL (gat encWinR s.Wins.xs i).Tree.xs) (gat encWinR s.Wins.xs i).Active) = false ∨ _
      rw [← paneAt_has]
      by_cases hpl : placesOk (gat encWinR s.Wins.xs i).Tree.xs s.W s.H = true
      · have hlp := leaves_panes hpl
        grind
      · grind)
    refine WC.r1 hs38 [] rfl (WC.ret (tkR (ibR (tkR (tkR (ibR (tkR ?_)))))))
    clear hK26 hK17 hK9
    refine rtv rfl rfl hs38 ?_
    first | rw [hbad] | (unfold winsOkS; rw [hWc, hall, Bool.true_and]; congr 1; rw [decide_eq_decide]; omega)
   refine WH.rnA (Acts.nil.cons (j := 37) rfl g39) [38, 39] hs38 [0] rfl rfl (WH.o1 40 rfl (WL.call (wantF rfl g39) rfl rfl (Run.call Tryz.call117 rfl rfl rfl) (k151_ _ _ ?_) ?_))
   · first | assumption | rfl | omega | (rw [List.length_take]; omega)
   rintro _ whs41 ⟨rfl, hs41⟩
   replace hs41 := hs38.call0 hs41
   refine ⟨_, rfl, WL.nil ⟨hs41, WH.rnA (Acts.nil.cons (j := 37) rfl g39) [41] hs41 [] rfl rfl ?_⟩⟩
   refine WH.take 42 rfl (by kernel_rfl) rfl rfl rfl hs41 (fun w_ hs_ => (Run.pick rfl rfl rfl rfl)) ?_
   refine WH.rn [43] hs41 [] rfl rfl (WH.split 72 rfl (fun g42 => ?_) (fun g42 => ?_))
   ·refine WH.takeSkip 44 rfl (by kernel_rfl) (wantNF rfl g42) rfl rfl hs41 (WH.takeSkip 45 rfl (by kernel_rfl) (wantNF rfl g42) rfl rfl hs41 (WH.takeSkip 47 rfl (by kernel_rfl) (wantNF rfl g42) rfl rfl hs41 (WH.takeSkip 48 rfl (by kernel_rfl) (wantNF rfl g42) rfl rfl hs41 (WH.o1 46 rfl (WL.skip (wantNF rfl g42) rfl rfl (WL.nil ⟨hs41, WH.o1 49 rfl ?_⟩))))))
    refine WL.skip (wantNF rfl g42) rfl rfl (WL.nil ⟨hs41, WH.takeSkip 50 rfl (by kernel_rfl) (wantNF rfl g42) rfl rfl hs41 ?_⟩)
    refine WH.take 51 rfl (by kernel_rfl) rfl rfl rfl hs41 (fun w_ hs_ => (Run.pickT rfl rfl g42 rfl)) ?_
    refine WH.dn (hK27 _ _ (WC.condT rfl rfl ?_))
    have hbad : winsOkS s.dat = false := winsS_no (i := i) (by omega) (by
      show (((decide (1 ≤ (gat encWinR s.Wins.xs i).Id) && decide ((gat encWinR s.Wins.xs i).Id < s.Next)) && (wordOk (gat encWinR s.Wins.xs i).Name && placesOk (gat encWinR s.Wins.xs i).Tree.xs s.W s.H)) && hasI (panesL (gat encWinR s.Wins.xs i).Tree.xs) (gat encWinR s.Wins.xs i).Active) = false ∨ _
      rw [← paneAt_has]
      by_cases hpl : placesOk (gat encWinR s.Wins.xs i).Tree.xs s.W s.H = true
      · have hlp := leaves_panes hpl
        grind
      · grind)
    refine WC.r1 hs41 [] rfl (WC.ret (tkR (ibR (tkR (tkR (ibR (tkR ?_)))))))
    clear hK26 hK17 hK9
    refine rtv rfl rfl hs41 ?_
    first | rw [hbad] | (unfold winsOkS; rw [hWc, hall, Bool.true_and]; congr 1; rw [decide_eq_decide]; omega)
   refine WH.rnA (Acts.nil.cons (j := 43) rfl g42) [44, 45, 47, 48] hs41 [0, 0] rfl rfl (WH.o1 46 rfl ?_)
   refine WL.call (wantF rfl g42) rfl rfl (Run.call Tryz.call40 rfl rfl rfl) (k105_ _ _ _ _ _ (SlF.st0 (SlN.nth f_s.Wins (by first | omega | (simp only [decide_eq_true_eq] at *; omega))).Tree hs41) ?_) ?_
   · first | assumption | rfl | omega | (rw [List.length_take]; omega)
   rintro _ whs44 ⟨A45, c46, L1_47, rfl, hs44, ho48⟩
   replace hs44 := hs41.callF hs44
   refine ⟨_, rfl, ?_⟩
   replace hs44 := St.back [_, _] hs44
   refine WL.nil ⟨(hs44.rm L1_47), WH.o1 49 rfl (WL.call (wantF rfl g42) rfl rfl (Run.call Tryz.call39 rfl rfl rfl) (k103_ _ _ _ _ _ _ (SlF.ofOwn ho48 (hs44.ow L1_47)) ?_) ?_)⟩
   · first | assumption | rfl | omega | (rw [List.length_take]; omega)
   rintro _ whs49 ⟨rfl, hs49⟩
   replace hs49 := hs44.call0 hs49
   refine ⟨_, rfl, WL.nil ⟨(hs49.rm L1_47), WH.rnA (Acts.nil.cons (j := 43) rfl g42) [50] (hs49.rm L1_47) [] rfl rfl ?_⟩⟩
   refine WH.take 51 rfl (by kernel_rfl) rfl rfl rfl (hs49.rm L1_47) (fun w_ hs_ => (Run.pick rfl rfl rfl rfl)) ?_
   refine WH.dn (hK27 _ _ ?_)
   refine WC.cq rfl (fun h50 qh50 => ?_) (fun h50 qh50 => ?_)
   ·have hbad : winsOkS s.dat = false := winsS_no (i := i) (by omega) (by
      show (((decide (1 ≤ (gat encWinR s.Wins.xs i).Id) && decide ((gat encWinR s.Wins.xs i).Id < s.Next)) && (wordOk (gat encWinR s.Wins.xs i).Name && placesOk (gat encWinR s.Wins.xs i).Tree.xs s.W s.H)) && hasI (panesL (gat encWinR s.Wins.xs i).Tree.xs) (gat encWinR s.Wins.xs i).Active) = false ∨ _
      rw [← paneAt_has]
      by_cases hpl : placesOk (gat encWinR s.Wins.xs i).Tree.xs s.W s.H = true
      · have hlp := leaves_panes hpl
        grind
      · grind)
    refine WC.r1 hs49 [] rfl (WC.ret (tkR (ibR (tkR (tkR (ibR (tkR ?_)))))))
    clear hK26 hK17 hK9
    refine rtv rfl rfl hs49 ?_
    first | rw [hbad] | (unfold winsOkS; rw [hWc, hall, Bool.true_and]; congr 1; rw [decide_eq_decide]; omega)
   have hpl : placesOk (gat encWinR s.Wins.xs i).Tree.xs s.W s.H = true := by grind
   have hlp := leaves_panes hpl
   have hgood : (winB s.dat (gat encWinR s.Wins.xs i).dat = true ∧ (0 < i → (gat encWinR s.Wins.xs (i - 1)).Id < (gat encWinR s.Wins.xs i).Id)) ∧ hasI (pIds s.dat) (gat encWinR s.Wins.xs i).Id = false := by
     show ((((decide (1 ≤ (gat encWinR s.Wins.xs i).Id) && decide ((gat encWinR s.Wins.xs i).Id < s.Next)) && (wordOk (gat encWinR s.Wins.xs i).Name && placesOk (gat encWinR s.Wins.xs i).Tree.xs s.W s.H)) && hasI (panesL (gat encWinR s.Wins.xs i).Tree.xs) (gat encWinR s.Wins.xs i).Active) = true ∧ _) ∧ _
     rw [← Bool.not_eq_true (hasI (pIds _) _), ← paneAt_has]
     grind
   refine WC.skip (hK26 _ _ (WC.region (WL.r 3 hs49 [0] rfl ?_)))
   refine WL.cl Tryz.call40 rfl (k105_ _ _ _ _ _ (SlF.st0 (SlN.nth f_s.Wins (by first | omega | (simp only [decide_eq_true_eq] at *; omega))).Tree hs49) ?_) ?_
   · first | assumption | rfl | omega | (rw [List.length_take]; omega)
   rintro _ whs51 ⟨A52, c53, L1_54, rfl, hs51, ho55⟩
   replace hs51 := hs49.callF hs51
   refine ⟨_, rfl, ?_⟩
   replace hs51 := St.back [_, _] hs51
   refine WL.appendG (hs51.fr L12) ho13 (SlF.src (SlF.ofOwn ho55 (hs51.ow L1_54)) Tryz.underlying60) Tryz.underlying60 inf3 rfl rfl rfl rfl rfl rfl rfl rfl rfl rfl ?_ (fun A59 c60 L56 whs57 hs57 ho58 => ?_)
   · first | omega | (simp only [List.length_append, List.length_cons, List.length_nil]; omega)
   replace hs57 := St.back [_, _] hs57
   refine WL.r 1 hs57 [] rfl (WL.nil (hK17 _ _ (WC.region (WL.r 2 hs57 [] rfl (WL.nil (tkN ?_))))))
   replace hs57 := (((hs57.d1.rm L1_54).rm L1_47).rm L1_24)
   refine ⟨sbF rfl, _, (hs57.fr L56), _, ?_, _, i + 1, _, _, rfl, ?_, ?_, ?_, ?_, ho58, ⟨rfl, rfl, trivial⟩⟩
   · omega
   · omega
   · rw [treesL_snoc (by omega), p1, leaves_panes hpl]
   · rw [List.length_append]; omega
   · intro j hj; rcases Nat.lt_or_ge j i with h_ | h_
     · exact p3 j h_
     · obtain rfl : j = i := by omega
       exact hgood
  refine WH.takeSkip 18 rfl (by kernel_rfl) (wantNT rfl g35) rfl rfl hs28 (WH.takeSkip 19 rfl (by kernel_rfl) (wantNT rfl g35) rfl rfl hs28 (WH.takeSkip 20 rfl (by kernel_rfl) (wantNT rfl g35) rfl rfl hs28 (WH.takeSkip 21 rfl (by kernel_rfl) (wantNT rfl g35) rfl rfl hs28 (WH.takeSkip 22 rfl (by kernel_rfl) (wantNT rfl g35) rfl rfl hs28 (WH.takeSkip 23 rfl (by kernel_rfl) (wantNT rfl g35) rfl rfl hs28 (WH.takeSkip 24 rfl (by kernel_rfl) (wantNT rfl g35) rfl rfl hs28 (WH.takeSkip 25 rfl (by kernel_rfl) (wantNT rfl g35) rfl rfl hs28 ?_)))))))
  refine WH.takeSkip 26 rfl (by kernel_rfl) (wantNT rfl g35) rfl rfl hs28 (WH.takeSkip 27 rfl (by kernel_rfl) (wantNT rfl g35) rfl rfl hs28 ?_)
  refine WH.take 28 rfl (by kernel_rfl) (wantF rfl g33) rfl rfl hs28 (fun w_ hs_ => (Run.pickF rfl rfl g35 rfl)) ?_
  refine WH.take 29 rfl (by kernel_rfl) rfl rfl rfl hs28 (fun w_ hs_ => (Run.pick rfl rfl rfl rfl)) ?_
  refine WH.rn [30] hs28 [] rfl rfl (WH.split 59 rfl (fun g61 => ?_) (fun g61 => ?_))
  ·refine WH.takeSkip 31 rfl (by kernel_rfl) (wantNF rfl g61) rfl rfl hs28 (WH.takeSkip 32 rfl (by kernel_rfl) (wantNF rfl g61) rfl rfl hs28 (WH.takeSkip 33 rfl (by kernel_rfl) (wantNF rfl g61) rfl rfl hs28 (WH.o1 34 rfl (WL.skip (wantNF rfl g61) rfl rfl (WL.nil ⟨hs28, WH.takeSkip 35 rfl (by kernel_rfl) (wantNF rfl g61) rfl rfl hs28 ?_⟩)))))
   refine WH.take 36 rfl (by kernel_rfl) rfl rfl rfl hs28 (fun w_ hs_ => (Run.pickT rfl rfl g61 rfl)) ?_
   refine WH.rn [37] hs28 [] rfl rfl (WH.takeSkip 38 rfl (by kernel_rfl) (wantNF rfl rfl) rfl rfl hs28 (WH.takeSkip 39 rfl (by kernel_rfl) (wantNF rfl rfl) rfl rfl hs28 (WH.o1 40 rfl (WL.skip (wantNF rfl rfl) rfl rfl (WL.nil ⟨hs28, WH.takeSkip 41 rfl (by kernel_rfl) (wantNF rfl rfl) rfl rfl hs28 ?_⟩)))))
   refine WH.take 42 rfl (by kernel_rfl) rfl rfl rfl hs28 (fun w_ hs_ => (Run.pickT rfl rfl rfl rfl)) ?_
   refine WH.rn [43] hs28 [] rfl rfl (WH.takeSkip 44 rfl (by kernel_rfl) (wantNF rfl rfl) rfl rfl hs28 (WH.takeSkip 45 rfl (by kernel_rfl) (wantNF rfl rfl) rfl rfl hs28 (WH.takeSkip 47 rfl (by kernel_rfl) (wantNF rfl rfl) rfl rfl hs28 (WH.takeSkip 48 rfl (by kernel_rfl) (wantNF rfl rfl) rfl rfl hs28 (WH.o1 46 rfl (WL.skip (wantNF rfl rfl) rfl rfl (WL.nil ⟨hs28, ?_⟩)))))))
   refine WH.o1 49 rfl (WL.skip (wantNF rfl rfl) rfl rfl (WL.nil ⟨hs28, WH.takeSkip 50 rfl (by kernel_rfl) (wantNF rfl rfl) rfl rfl hs28 ?_⟩))
   refine WH.take 51 rfl (by kernel_rfl) rfl rfl rfl hs28 (fun w_ hs_ => (Run.pickT rfl rfl rfl rfl)) ?_
   refine WH.dn (hK27 _ _ (WC.condT rfl rfl ?_))
   have hbad : winsOkS s.dat = false := winsS_no (i := i) (by omega) (by
     show (((decide (1 ≤ (gat encWinR s.Wins.xs i).Id) && decide ((gat encWinR s.Wins.xs i).Id < s.Next)) && (wordOk (gat encWinR s.Wins.xs i).Name && placesOk (gat encWinR s.Wins.xs i).Tree.xs s.W s.H)) && hasI (panesL (gat encWinR s.Wins.xs i).Tree.xs) (gat encWinR s.Wins.xs i).Active) = false ∨ _
     rw [← paneAt_has]
     by_cases hpl : placesOk (gat encWinR s.Wins.xs i).Tree.xs s.W s.H = true
     · have hlp := leaves_panes hpl
       grind
     · grind)
   refine WC.r1 hs28 [] rfl (WC.ret (tkR (ibR (tkR (tkR (ibR (tkR ?_)))))))
   clear hK26 hK17 hK9
   refine rtv rfl rfl hs28 ?_
   first | rw [hbad] | (unfold winsOkS; rw [hWc, hall, Bool.true_and]; congr 1; rw [decide_eq_decide]; omega)
  refine WH.rnA (Acts.nil.cons (j := 30) rfl g61) [31, 32, 33] hs28 [1, 0] rfl rfl (WH.o1 34 rfl (WL.call (wantF rfl g61) rfl rfl (Run.call Tryz.call116 rfl rfl rfl) (k133_ s _ _ (okStateR.st0 f_s hs28)) ?_))
  rintro _ whs63 ⟨rfl, hs63⟩
  replace hs63 := hs28.call0 hs63
  refine ⟨_, rfl, WL.nil ⟨hs63, WH.rnA (Acts.nil.cons (j := 30) rfl g61) [35] hs63 [] rfl rfl ?_⟩⟩
  refine WH.take 36 rfl (by kernel_rfl) rfl rfl rfl hs63 (fun w_ hs_ => (Run.pick rfl rfl rfl rfl)) ?_
  refine WH.rn [37] hs63 [] rfl rfl (WH.split 66 rfl (fun g64 => ?_) (fun g64 => ?_))
  ·refine WH.takeSkip 38 rfl (by kernel_rfl) (wantNF rfl g64) rfl rfl hs63 (WH.takeSkip 39 rfl (by kernel_rfl) (wantNF rfl g64) rfl rfl hs63 (WH.o1 40 rfl (WL.skip (wantNF rfl g64) rfl rfl (WL.nil ⟨hs63, WH.takeSkip 41 rfl (by kernel_rfl) (wantNF rfl g64) rfl rfl hs63 ?_⟩))))
   refine WH.take 42 rfl (by kernel_rfl) rfl rfl rfl hs63 (fun w_ hs_ => (Run.pickT rfl rfl g64 rfl)) ?_
   refine WH.rn [43] hs63 [] rfl rfl (WH.takeSkip 44 rfl (by kernel_rfl) (wantNF rfl rfl) rfl rfl hs63 (WH.takeSkip 45 rfl (by kernel_rfl) (wantNF rfl rfl) rfl rfl hs63 (WH.takeSkip 47 rfl (by kernel_rfl) (wantNF rfl rfl) rfl rfl hs63 (WH.takeSkip 48 rfl (by kernel_rfl) (wantNF rfl rfl) rfl rfl hs63 (WH.o1 46 rfl (WL.skip (wantNF rfl rfl) rfl rfl (WL.nil ⟨hs63, ?_⟩)))))))
   refine WH.o1 49 rfl (WL.skip (wantNF rfl rfl) rfl rfl (WL.nil ⟨hs63, WH.takeSkip 50 rfl (by kernel_rfl) (wantNF rfl rfl) rfl rfl hs63 ?_⟩))
   refine WH.take 51 rfl (by kernel_rfl) rfl rfl rfl hs63 (fun w_ hs_ => (Run.pickT rfl rfl rfl rfl)) ?_
   refine WH.dn (hK27 _ _ (WC.condT rfl rfl ?_))
   have hbad : winsOkS s.dat = false := winsS_no (i := i) (by omega) (by
     show (((decide (1 ≤ (gat encWinR s.Wins.xs i).Id) && decide ((gat encWinR s.Wins.xs i).Id < s.Next)) && (wordOk (gat encWinR s.Wins.xs i).Name && placesOk (gat encWinR s.Wins.xs i).Tree.xs s.W s.H)) && hasI (panesL (gat encWinR s.Wins.xs i).Tree.xs) (gat encWinR s.Wins.xs i).Active) = false ∨ _
     rw [← paneAt_has]
     by_cases hpl : placesOk (gat encWinR s.Wins.xs i).Tree.xs s.W s.H = true
     · have hlp := leaves_panes hpl
       grind
     · grind)
   refine WC.r1 hs63 [] rfl (WC.ret (tkR (ibR (tkR (tkR (ibR (tkR ?_)))))))
   clear hK26 hK17 hK9
   refine rtv rfl rfl hs63 ?_
   first | rw [hbad] | (unfold winsOkS; rw [hWc, hall, Bool.true_and]; congr 1; rw [decide_eq_decide]; omega)
  refine WH.rnA (Acts.nil.cons (j := 37) rfl g64) [38, 39] hs63 [0] rfl rfl (WH.o1 40 rfl (WL.call (wantF rfl g64) rfl rfl (Run.call Tryz.call117 rfl rfl rfl) (k151_ _ _ ?_) ?_))
  · first | assumption | rfl | omega | (rw [List.length_take]; omega)
  rintro _ whs66 ⟨rfl, hs66⟩
  replace hs66 := hs63.call0 hs66
  refine ⟨_, rfl, WL.nil ⟨hs66, WH.rnA (Acts.nil.cons (j := 37) rfl g64) [41] hs66 [] rfl rfl ?_⟩⟩
  refine WH.take 42 rfl (by kernel_rfl) rfl rfl rfl hs66 (fun w_ hs_ => (Run.pick rfl rfl rfl rfl)) ?_
  refine WH.rn [43] hs66 [] rfl rfl (WH.split 72 rfl (fun g67 => ?_) (fun g67 => ?_))
  ·refine WH.takeSkip 44 rfl (by kernel_rfl) (wantNF rfl g67) rfl rfl hs66 (WH.takeSkip 45 rfl (by kernel_rfl) (wantNF rfl g67) rfl rfl hs66 (WH.takeSkip 47 rfl (by kernel_rfl) (wantNF rfl g67) rfl rfl hs66 (WH.takeSkip 48 rfl (by kernel_rfl) (wantNF rfl g67) rfl rfl hs66 (WH.o1 46 rfl (WL.skip (wantNF rfl g67) rfl rfl (WL.nil ⟨hs66, WH.o1 49 rfl ?_⟩))))))
   refine WL.skip (wantNF rfl g67) rfl rfl (WL.nil ⟨hs66, WH.takeSkip 50 rfl (by kernel_rfl) (wantNF rfl g67) rfl rfl hs66 ?_⟩)
   refine WH.take 51 rfl (by kernel_rfl) rfl rfl rfl hs66 (fun w_ hs_ => (Run.pickT rfl rfl g67 rfl)) ?_
   refine WH.dn (hK27 _ _ (WC.condT rfl rfl ?_))
   have hbad : winsOkS s.dat = false := winsS_no (i := i) (by omega) (by
     show (((decide (1 ≤ (gat encWinR s.Wins.xs i).Id) && decide ((gat encWinR s.Wins.xs i).Id < s.Next)) && (wordOk (gat encWinR s.Wins.xs i).Name && placesOk (gat encWinR s.Wins.xs i).Tree.xs s.W s.H)) && hasI (panesL (gat encWinR s.Wins.xs i).Tree.xs) (gat encWinR s.Wins.xs i).Active) = false ∨ _
     rw [← paneAt_has]
     by_cases hpl : placesOk (gat encWinR s.Wins.xs i).Tree.xs s.W s.H = true
     · have hlp := leaves_panes hpl
       grind
     · grind)
   refine WC.r1 hs66 [] rfl (WC.ret (tkR (ibR (tkR (tkR (ibR (tkR ?_)))))))
   clear hK26 hK17 hK9
   refine rtv rfl rfl hs66 ?_
   first | rw [hbad] | (unfold winsOkS; rw [hWc, hall, Bool.true_and]; congr 1; rw [decide_eq_decide]; omega)
  refine WH.rnA (Acts.nil.cons (j := 43) rfl g67) [44, 45, 47, 48] hs66 [0, 0] rfl rfl (WH.o1 46 rfl ?_)
  refine WL.call (wantF rfl g67) rfl rfl (Run.call Tryz.call40 rfl rfl rfl) (k105_ _ _ _ _ _ (SlF.st0 (SlN.nth f_s.Wins (by first | omega | (simp only [decide_eq_true_eq] at *; omega))).Tree hs66) ?_) ?_
  · first | assumption | rfl | omega | (rw [List.length_take]; omega)
  rintro _ whs69 ⟨A70, c71, L1_72, rfl, hs69, ho73⟩
  replace hs69 := hs66.callF hs69
  refine ⟨_, rfl, ?_⟩
  replace hs69 := St.back [_, _] hs69
  refine WL.nil ⟨(hs69.rm L1_72), WH.o1 49 rfl (WL.call (wantF rfl g67) rfl rfl (Run.call Tryz.call39 rfl rfl rfl) (k103_ _ _ _ _ _ _ (SlF.ofOwn ho73 (hs69.ow L1_72)) ?_) ?_)⟩
  · first | assumption | rfl | omega | (rw [List.length_take]; omega)
  rintro _ whs74 ⟨rfl, hs74⟩
  replace hs74 := hs69.call0 hs74
  refine ⟨_, rfl, WL.nil ⟨(hs74.rm L1_72), WH.rnA (Acts.nil.cons (j := 43) rfl g67) [50] (hs74.rm L1_72) [] rfl rfl ?_⟩⟩
  refine WH.take 51 rfl (by kernel_rfl) rfl rfl rfl (hs74.rm L1_72) (fun w_ hs_ => (Run.pick rfl rfl rfl rfl)) ?_
  refine WH.dn (hK27 _ _ ?_)
  refine WC.cq rfl (fun h75 qh75 => ?_) (fun h75 qh75 => ?_)
  ·have hbad : winsOkS s.dat = false := winsS_no (i := i) (by omega) (by
     show (((decide (1 ≤ (gat encWinR s.Wins.xs i).Id) && decide ((gat encWinR s.Wins.xs i).Id < s.Next)) && (wordOk (gat encWinR s.Wins.xs i).Name && placesOk (gat encWinR s.Wins.xs i).Tree.xs s.W s.H)) && hasI (panesL (gat encWinR s.Wins.xs i).Tree.xs) (gat encWinR s.Wins.xs i).Active) = false ∨ _
     rw [← paneAt_has]
     by_cases hpl : placesOk (gat encWinR s.Wins.xs i).Tree.xs s.W s.H = true
     · have hlp := leaves_panes hpl
       grind
     · grind)
   refine WC.r1 hs74 [] rfl (WC.ret (tkR (ibR (tkR (tkR (ibR (tkR ?_)))))))
   clear hK26 hK17 hK9
   refine rtv rfl rfl hs74 ?_
   first | rw [hbad] | (unfold winsOkS; rw [hWc, hall, Bool.true_and]; congr 1; rw [decide_eq_decide]; omega)
  have hpl : placesOk (gat encWinR s.Wins.xs i).Tree.xs s.W s.H = true := by grind
  have hlp := leaves_panes hpl
  have hgood : (winB s.dat (gat encWinR s.Wins.xs i).dat = true ∧ (0 < i → (gat encWinR s.Wins.xs (i - 1)).Id < (gat encWinR s.Wins.xs i).Id)) ∧ hasI (pIds s.dat) (gat encWinR s.Wins.xs i).Id = false := by
    show ((((decide (1 ≤ (gat encWinR s.Wins.xs i).Id) && decide ((gat encWinR s.Wins.xs i).Id < s.Next)) && (wordOk (gat encWinR s.Wins.xs i).Name && placesOk (gat encWinR s.Wins.xs i).Tree.xs s.W s.H)) && hasI (panesL (gat encWinR s.Wins.xs i).Tree.xs) (gat encWinR s.Wins.xs i).Active) = true ∧ _) ∧ _
    rw [← Bool.not_eq_true (hasI (pIds _) _), ← paneAt_has]
    grind
  refine WC.skip (hK26 _ _ (WC.region (WL.r 3 hs74 [0] rfl ?_)))
  refine WL.cl Tryz.call40 rfl (k105_ _ _ _ _ _ (SlF.st0 (SlN.nth f_s.Wins (by first | omega | (simp only [decide_eq_true_eq] at *; omega))).Tree hs74) ?_) ?_
  · first | assumption | rfl | omega | (rw [List.length_take]; omega)
  rintro _ whs76 ⟨A77, c78, L1_79, rfl, hs76, ho80⟩
  replace hs76 := hs74.callF hs76
  refine ⟨_, rfl, ?_⟩
  replace hs76 := St.back [_, _] hs76
  refine WL.appendG (hs76.fr L12) ho13 (SlF.src (SlF.ofOwn ho80 (hs76.ow L1_79)) Tryz.underlying60) Tryz.underlying60 inf3 rfl rfl rfl rfl rfl rfl rfl rfl rfl rfl ?_ (fun A84 c85 L81 whs82 hs82 ho83 => ?_)
  · first | omega | (simp only [List.length_append, List.length_cons, List.length_nil]; omega)
  replace hs82 := St.back [_, _] hs82
  refine WL.r 1 hs82 [] rfl (WL.nil (hK17 _ _ (WC.region (WL.r 2 hs82 [] rfl (WL.nil (tkN ?_))))))
  replace hs82 := (((hs82.d1.rm L1_79).rm L1_72).rm L1_24)
  refine ⟨sbF rfl, _, (hs82.fr L81), _, ?_, _, i + 1, _, _, rfl, ?_, ?_, ?_, ?_, ho83, ⟨rfl, rfl, trivial⟩⟩
  · omega
  · omega
  · rw [treesL_snoc (by omega), p1, leaves_panes hpl]
  · rw [List.length_append]; omega
  · intro j hj; rcases Nat.lt_or_ge j i with h_ | h_
    · exact p3 j h_
    · obtain rfl : j = i := by omega
      exact hgood
 have hWc := winsS_yes (s := s) fun j hj => p3 j (by omega)
 have htr : treesL s.dat.Wins = zs := by rw [p1, List.take_of_length_le (by omega)]; rfl
 refine WC.exit (hK9 _ _ (WC.seq (fun K86 hK86 => WC.r1 hs14 [] rfl (WC.block ?_))))
 refine WC.lS [1, 3, 15, 87, 88] rfl hs14 (fun k_ f w' => ∃ (j : Nat), k_ = zs.length - j ∧ (j ≤ zs.length) ∧ (∀ k, k < j → hasI (zs.take k) (iat zs k) = false ∧ hasI (pIds s.dat) (iat zs k) = true) ∧ Sub [(89, .int .i64 j)] f) ((fun (j : Nat) => zs.length - j) (0)) ?_ ?_
 ·refine ⟨0, rfl, ?_, ?_, ⟨rfl, trivial⟩⟩
  · exact Nat.zero_le _
  · exact fun k hk => absurd hk (by omega)
 clear hs14
 rintro _ f w ⟨j, rfl, r0, r1, hG⟩ hF hs87
 refine WC.sub _ (hG.app hF) ?_
 clear hG hF
 refine WC.r1 hs87 [] rfl (WC.seq (fun K88 hK88 => ?_))
 refine WC.cq rfl (fun h89 qh89 => ?_) (fun h89 qh89 => ?_)
 ·refine WC.skip (hK88 _ _ (WC.seq (fun K90 hK90 => WC.block (WC.sr (WL.r 1 hs87 [] rfl ?_)))))
  refine WL.val rfl rfl rfl (Run.idxN Tryz.runUnderlying60 Tryz.sizeOf3 rfl rfl rfl ?_ ?_ ?_) ?_
  · exact SlF.some_ (SlF.ofOwn ho13 (hs87.ow L12))
  · first | omega | (simp only [decide_eq_true_eq] at *; omega)
  · first | omega | (simp only [decide_eq_true_eq] at *; omega)
  refine WL.val rfl rfl rfl (Run.load Tryz.isAgg3 rfl rfl (SlF.one1 (SlF.ofOwn ho13 (hs87.ow L12)) ?_ rfl)) ?_
  · first | omega | (simp only [decide_eq_true_eq] at *; omega)
  refine WL.r 2 hs87 [] rfl (WL.nil (WC.sr (WL.r 2 hs87 [] rfl ?_)))
  have ho91 := OwnF.take (k := j) ho13 (by omega)
  have hcho91 := OwnF.cap ho91
  refine WL.val rfl rfl rfl (Run.sliceH0 (j) Tryz.runUnderlying60 Tryz.sizeOf3 rfl rfl rfl ?_ ?_) ?_
  · first | rfl | (omega)
  · first | (exact Nat.zero_le _) | (omega)
  refine WL.r 1 hs87 [] rfl (WL.cl Tryz.call39 rfl (k103_ _ _ _ _ _ _ (SlF.ofOwn ho91 (hs87.ow L12)) ?_) ?_)
  · first | assumption | rfl | omega | (rw [List.length_take]; omega)
  rintro _ whs92 ⟨rfl, hs92⟩
  replace hs92 := hs87.call0 hs92
  refine ⟨_, rfl, WL.r 1 hs92 [] rfl ?_⟩
  apply WL.gO 4 Acts.nil hs92 rfl
  ·intro g93 J94
   have qg93 := g93
   try simp only [bf, within_iff, within_not] at qg93
   refine WL.runA tbk 2 (Acts.nil.cons (j := 5) rfl g93) hs92 [0] rfl ⟨rfl, trivial⟩ (WL.call (wantF rfl g93) rfl rfl (Run.call Tryz.call116 rfl rfl rfl) (k133_ s _ _ (okStateR.st0 f_s hs92)) ?_)
   rintro _ whs95 ⟨rfl, hs95⟩
   replace hs95 := hs92.call0 hs95
   refine ⟨_, rfl, WL.runA tbk 1 (Acts.nil.cons (j := 5) rfl g93) hs95 [] rfl trivial (WL.eO 4 Acts.nil J94 hs95 g93 rfl rfl)⟩
  intro _ hs96
  refine WL.nil (WC.cq rfl (fun h97 qh97 => ?_) (fun h97 qh97 => ?_))
  ·have hbad : winsOkS s.dat = false := by
     have hno := all1_no (s := s) (i := j) htr (by omega) (by
       rw [← Bool.not_eq_true (hasI (pIds _) _), ← paneAt_has]
       grind)
     unfold winsOkS
     rw [hno, Bool.and_false]
   refine WC.r1 hs96 [] rfl (WC.ret (ibR (tkR (tkR (ibR (tkR ?_))))))
   clear hK90 hK86
   refine rtv rfl rfl hs96 ?_
   first | rw [hbad] | (unfold winsOkS; rw [hWc, hall, Bool.true_and]; congr 1; rw [decide_eq_decide]; omega)
  have hgood2 : hasI (zs.take j) (iat zs j) = false ∧ hasI (pIds s.dat) (iat zs j) = true := by
    rw [← paneAt_has]
    grind
  refine WC.skip (hK90 _ _ (WC.region (WL.r 2 hs96 [] rfl (WL.nil (tkN ?_)))))
  refine ⟨sbF rfl, hs96, _, ?_, j + 1, rfl, ?_, ?_, ⟨rfl, trivial⟩⟩
  · omega
  · omega
  · intro k hk; rcases Nat.lt_or_ge k j with h_ | h_
    · exact r1 k h_
    · obtain rfl : k = j := by omega
      exact hgood2
 have hall := all1_yes (s := s) htr fun k hk => r1 k (by omega)
 refine WC.exit (hK86 _ _ (WC.r1 hs87 [0] rfl (WC.ret (rtv rfl rfl hs87 ?_))))
 first | rw [hbad] | (unfold winsOkS; rw [hWc, hall, Bool.true_and]; congr 1; rw [decide_eq_decide]; omega)
set_option maxHeartbeats 4000000 in
theorem k160_ (s : StateR) (w : World) (f_s : okStateR 549755813888 w s) (hT : totState s.dat ≤ 1048576) :
    Calls Tryz.prog 55 #[.agg #[i64 s.W, i64 s.H, i64 s.Limit, i64 s.Next, .slice s.Panes.A s.Panes.n s.Panes.c, .slice s.Wins.A s.Wins.n s.Wins.c, .slice s.Sess.A s.Sess.n s.Sess.c]] w fun e w' => e = .returned (.bool (sessOkS s.dat)) ∧ St w [] [] w' := by
 have nb_s_Panes := f_s.Panes_n
 have nl_s_Panes := f_s.Panes.sl.len
 have nb_s_Wins := f_s.Wins_n
 have nl_s_Wins := f_s.Wins.sl.len
 have nb_s_Sess := f_s.Sess_n
 have nl_s_Sess := f_s.Sess.sl.len
 have hsm0 : smState 1048576 s.dat := totState_sm hT
 have hlP : s.dat.Panes.length = s.Panes.xs.length := List.length_map _
 have hlW : s.dat.Wins.length = s.Wins.xs.length := List.length_map _
 have hlS : s.dat.Sess.length = s.Sess.xs.length := List.length_map _
 have hnP : s.dat.Panes.length ≤ 1048576 := hsm0.1
 have hnW : s.dat.Wins.length ≤ 1048576 := hsm0.2.2.1
 have hnS : s.dat.Sess.length ≤ 1048576 := hsm0.2.2.2.2.1
 have hWn : ∀ y, y ∈ s.Wins.xs → y.Tree.n ≤ 1048576 := fun y hy => by have h1 := (f_s.Wins.all y hy).Tree.len; have h2 : y.Tree.xs.length ≤ 1048576 := (hsm0.2.2.2.1 _ (List.mem_map_of_mem hy)).2; omega
 have hSnm : ∀ y, y ∈ s.Sess.xs → y.Name.size ≤ 1048576 ∧ y.Wins.xs.length ≤ 1048576 := fun y hy => hsm0.2.2.2.2.2 _ (List.mem_map_of_mem hy)
 refine enter 67 Tryz.func55 rfl Tryz.ntmps55 rfl rfl ?_
 have hs1 := St.init w
 refine WC.sr (WL.bx hs1 rfl (fun b2 _ hs3 => WL.r 1 hs3 [] rfl (WL.nil (WC.sr (WL.buildF (F := encI) hs3 ([]) Tryz.runUnderlying60 Tryz.sizeOf3 Tryz.zeroValue3 rfl rfl rfl rfl rfl rfl rfl rfl rfl rfl rfl rfl (fun A7 c8 L4 whs5 hs5 ho6 => ?_))))))
 replace hs5 := St.back [_] hs5
 refine WL.r 1 hs5 [] rfl (WL.nil (WC.seq (fun K9 hK9 => WC.r1 hs5 [0] rfl (WC.block ?_))))
 refine WC.lO [1, 10, 11] rfl (hs5.fr L4) (fun k_ f L_ => ∃ (zs : List Int) (i : Nat) (A10 : Option Addr) (c11 : Nat), k_ = s.Sess.n - i ∧ (i ≤ s.Sess.n) ∧ (zs = (sessL ((s.Sess.xs.take (i)).map SessR.dat))) ∧ (∀ j, j < i → sessB (gat encSessR s.Sess.xs j).dat = true ∧ findI (fun q : SessD => decide (q.Name = (gat encSessR s.Sess.xs j).Name)) s.dat.Sess = j) ∧ OwnF encI 3 (.slice A10 (zs.length) c11) (zs) L_ ∧ Sub [(3, .slice A10 (zs.length) c11), (12, .int .i64 i)] f) (((fun (zs : List Int) (i : Nat) => s.Sess.n - i) ([]) (0))) ?_ ?_
 ·refine ⟨[], 0, _, _, rfl, ?_, ?_, ?_, ho6, ⟨rfl, rfl, trivial⟩⟩
  · exact Nat.zero_le _
  · rfl
  · exact fun j hj => absurd hj (by omega)
 clear hs5
 rintro _ f w L12 ⟨zs, i, A10, c11, rfl, p0, p1, p2, ho13, hG⟩ hF hs14
 refine WC.sub _ (hG.app hF) ?_
 clear hG hF
 replace hs14 := St.back [_] hs14
 refine WC.r1 hs14 [] rfl (WC.seq (fun K15 hK15 => ?_))
 refine WC.cq rfl (fun h16 qh16 => ?_) (fun h16 qh16 => ?_)
 ·have hTm := (SlN.nth f_s.Sess (show i < s.Sess.n by omega))
  have hTl := hTm.Wins.len
  have hWi := hSnm (gat encSessR s.Sess.xs i) (gat_mem (by omega))
  have hzl := sessL_take_le (i := i) hT
  rw [← p1] at hzl
  have hzl2 := sessL_take_le (i := i + 1) hT
  rw [sessL_snoc (by omega), List.length_append, ← p1] at hzl2
  refine WC.skip (hK15 _ _ (WC.seq (fun K17 hK17 => WC.block (WC.sr (WL.r 1 hs14 [] rfl ?_)))))
  refine WL.val rfl rfl rfl (Run.idxN Tryz.runUnderlying31 Tryz.sizeOf106 rfl rfl rfl ?_ ?_ ?_) ?_
  · exact SlF.some_ (SlF.st0 f_s.Sess.sl hs14)
  · first | omega | (simp only [decide_eq_true_eq] at *; omega)
  · first | omega | (simp only [decide_eq_true_eq] at *; omega)
  refine WL.val rfl rfl rfl (Run.loadA Tryz.isAgg106 Tryz.sizeOf106 rfl rfl (SlF.whole (SlF.st0 f_s.Sess.sl hs14) ?_)) ?_
  · first | omega | (simp only [decide_eq_true_eq] at *; omega)
  refine WL.al hs14 Tryz.zeroValue106 rfl rfl (fun b18 _ hs19 => WL.r 1 hs19 [] rfl (WL.st tbk hs19 0 rfl rfl (fun _ hs20 => WL.nil (WC.seq (fun K21 hK21 => WC.sr (WL.r 2 hs20 [0] rfl ?_))))))
  refine WL.cl Tryz.call117 rfl (k151_ _ _ ?_) ?_
  · first | assumption | rfl | omega | (rw [List.length_take]; omega)
  rintro _ whs22 ⟨rfl, hs22⟩
  replace hs22 := hs20.call0 hs22
  refine ⟨_, rfl, WL.r 2 hs22 [] rfl ?_⟩
  apply WL.gO 6 Acts.nil hs22 rfl
  ·intro g23 J24
   have qg23 := g23
   try simp only [bf, within_iff, within_not] at qg23
   refine WL.runA tbk 3 (Acts.nil.cons (j := 4) rfl g23) hs22 [1, 0] rfl ⟨rfl, rfl, trivial⟩ (WL.call (wantF rfl g23) rfl rfl (Run.call Tryz.call118 rfl rfl rfl) (k141_ s _ _ (okStateR.st0 f_s hs22)) ?_)
   rintro _ whs25 ⟨rfl, hs25⟩
   replace hs25 := hs22.call0 hs25
   refine ⟨_, rfl, WL.runA tbk 2 (Acts.nil.cons (j := 4) rfl g23) hs25 [] rfl trivial (WL.eO 6 Acts.nil J24 hs25 g23 rfl rfl)⟩
  intro _ hs26
  refine WL.r 1 hs26 [] rfl ?_
  apply WL.gO 6 Acts.nil hs26 rfl
  ·intro g27 J28
   have qg27 := g27
   try simp only [bf, within_iff, within_not] at qg27
   refine WL.runA tbk 4 (Acts.nil.cons (j := 12) rfl g27) hs26 [0, 0] rfl ⟨rfl, rfl, trivial⟩ ?_
   refine WL.call (wantF rfl g27) rfl rfl (Run.call Tryz.call39 rfl rfl rfl) (k103_ _ _ _ _ _ _ (SlF.st0 (SlN.nth f_s.Sess (by first | omega | (simp only [decide_eq_true_eq] at *; omega))).Wins hs26) ?_) ?_
   · first | assumption | rfl | omega | (rw [List.length_take]; omega)
   rintro _ whs29 ⟨rfl, hs29⟩
   replace hs29 := hs26.call0 hs29
   refine ⟨_, rfl, WL.runA tbk 1 (Acts.nil.cons (j := 12) rfl g27) hs29 [] rfl trivial (WL.eO 6 Acts.nil J28 hs29 g27 rfl rfl)⟩
  intro _ hs30
  refine WL.nil (WC.cq rfl (fun h31 qh31 => ?_) (fun h31 qh31 => ?_))
  ·have hbad : sessOkS s.dat = false := by
     have hno : sessC s.dat = false := sessC_no (i := i) (by omega) (by
       show (wordOk (gat encSessR s.Sess.xs i).Name && hasI (gat encSessR s.Sess.xs i).Wins.xs (gat encSessR s.Sess.xs i).Active) = false ∨ _
       grind)
     unfold sessOkS
     rw [hno, Bool.false_and]
   refine WC.r1 hs30 [] rfl (WC.ret (tkR (ibR (tkR (tkR (ibR (tkR ?_)))))))
   clear hK21 hK17 hK9
   refine rtv rfl rfl hs30 ?_
   first | rw [hbad] | (unfold sessOkS; rw [hWc, hall, Bool.true_and]; congr 1; rw [decide_eq_decide]; omega)
  have hgood : sessB (gat encSessR s.Sess.xs i).dat = true ∧ findI (fun q : SessD => decide (q.Name = (gat encSessR s.Sess.xs i).Name)) s.dat.Sess = i := by
    show (wordOk (gat encSessR s.Sess.xs i).Name && hasI (gat encSessR s.Sess.xs i).Wins.xs (gat encSessR s.Sess.xs i).Active) = true ∧ _
    grind
  refine WC.skip (hK21 _ _ (WC.region (WL.r 3 hs30 [0] rfl ?_)))
  refine WL.appendG (hs30.fr L12) ho13 (SlF.src (SlF.st0 (SlN.nth f_s.Sess (by first | omega | (simp only [decide_eq_true_eq] at *; omega))).Wins hs30) Tryz.underlying60) Tryz.underlying60 inf3 rfl rfl rfl rfl rfl rfl rfl rfl rfl rfl ?_ (fun A35 c36 L32 whs33 hs33 ho34 => ?_)
  · first | omega | (simp only [List.length_append, List.length_cons, List.length_nil]; omega)
  replace hs33 := St.back [_, _] hs33
  refine WL.r 1 hs33 [] rfl (WL.nil (hK17 _ _ (WC.region (WL.r 2 hs33 [] rfl (WL.nil (tkN ?_))))))
  replace hs33 := hs33.d1
  refine ⟨sbF rfl, _, (hs33.fr L32), _, ?_, _, i + 1, _, _, rfl, ?_, ?_, ?_, ho34, ⟨rfl, rfl, trivial⟩⟩
  · omega
  · omega
  · rw [sessL_snoc (by omega), p1]
  · intro j hj; rcases Nat.lt_or_ge j i with h_ | h_
    · exact p2 j h_
    · obtain rfl : j = i := by omega
      exact hgood
 have hWc : sessC s.dat = true := sessC_yes fun j hj => p2 j (by omega)
 have htr : sessL s.dat.Sess = zs := by rw [p1, List.take_of_length_le (by omega)]; rfl
 have hzl := sessL_take_le (i := i) hT
 rw [← p1] at hzl
 refine WC.exit (hK9 _ _ (WC.seq (fun K37 hK37 => WC.r1 hs14 [] rfl (WC.block ?_))))
 refine WC.lS [1, 3, 13, 42, 43] rfl hs14 (fun k_ f w' => ∃ (j : Nat), k_ = zs.length - j ∧ (j ≤ zs.length) ∧ (∀ k, k < j → hasI (zs.take k) (iat zs k) = false ∧ hasI (wIds s.dat) (iat zs k) = true) ∧ Sub [(44, .int .i64 j)] f) ((fun (j : Nat) => zs.length - j) (0)) ?_ ?_
 ·refine ⟨0, rfl, ?_, ?_, ⟨rfl, trivial⟩⟩
  · exact Nat.zero_le _
  · exact fun k hk => absurd hk (by omega)
 clear hs14
 rintro _ f w ⟨j, rfl, r0, r1, hG⟩ hF hs38
 refine WC.sub _ (hG.app hF) ?_
 clear hG hF
 refine WC.r1 hs38 [] rfl (WC.seq (fun K39 hK39 => ?_))
 refine WC.cq rfl (fun h40 qh40 => ?_) (fun h40 qh40 => ?_)
 ·refine WC.skip (hK39 _ _ (WC.seq (fun K41 hK41 => WC.block (WC.sr (WL.r 1 hs38 [] rfl ?_)))))
  refine WL.val rfl rfl rfl (Run.idxN Tryz.runUnderlying60 Tryz.sizeOf3 rfl rfl rfl ?_ ?_ ?_) ?_
  · exact SlF.some_ (SlF.ofOwn ho13 (hs38.ow L12))
  · first | omega | (simp only [decide_eq_true_eq] at *; omega)
  · first | omega | (simp only [decide_eq_true_eq] at *; omega)
  refine WL.val rfl rfl rfl (Run.load Tryz.isAgg3 rfl rfl (SlF.one1 (SlF.ofOwn ho13 (hs38.ow L12)) ?_ rfl)) ?_
  · first | omega | (simp only [decide_eq_true_eq] at *; omega)
  refine WL.r 2 hs38 [] rfl (WL.nil (WC.sr (WL.r 2 hs38 [] rfl ?_)))
  have ho42 := OwnF.take (k := j) ho13 (by omega)
  have hcho42 := OwnF.cap ho42
  refine WL.val rfl rfl rfl (Run.sliceH0 (j) Tryz.runUnderlying60 Tryz.sizeOf3 rfl rfl rfl ?_ ?_) ?_
  · first | rfl | (omega)
  · first | (exact Nat.zero_le _) | (omega)
  refine WL.r 1 hs38 [] rfl (WL.cl Tryz.call39 rfl (k103_ _ _ _ _ _ _ (SlF.ofOwn ho42 (hs38.ow L12)) ?_) ?_)
  · first | assumption | rfl | omega | (rw [List.length_take]; omega)
  rintro _ whs43 ⟨rfl, hs43⟩
  replace hs43 := hs38.call0 hs43
  refine ⟨_, rfl, WL.r 1 hs43 [] rfl ?_⟩
  apply WL.gO 4 Acts.nil hs43 rfl
  ·intro g44 J45
   have qg44 := g44
   try simp only [bf, within_iff, within_not] at qg44
   refine WL.runA tbk 2 (Acts.nil.cons (j := 5) rfl g44) hs43 [0] rfl ⟨rfl, trivial⟩ (WL.call (wantF rfl g44) rfl rfl (Run.call Tryz.call119 rfl rfl rfl) (k137_ s _ _ (okStateR.st0 f_s hs43)) ?_)
   rintro _ whs46 ⟨rfl, hs46⟩
   replace hs46 := hs43.call0 hs46
   refine ⟨_, rfl, WL.runA tbk 1 (Acts.nil.cons (j := 5) rfl g44) hs46 [] rfl trivial (WL.eO 4 Acts.nil J45 hs46 g44 rfl rfl)⟩
  intro _ hs47
  refine WL.nil (WC.cq rfl (fun h48 qh48 => ?_) (fun h48 qh48 => ?_))
  ·have hbad : sessOkS s.dat = false := by
     have hno := all2_no (s := s) (i := j) htr (by omega) (by
       rw [← Bool.not_eq_true (hasI (wIds _) _), ← winAt_has]
       grind)
     unfold sessOkS
     rw [hno, Bool.and_false]
   refine WC.r1 hs47 [] rfl (WC.ret (ibR (tkR (tkR (ibR (tkR ?_))))))
   clear hK41 hK37
   refine rtv rfl rfl hs47 ?_
   first | rw [hbad] | (unfold sessOkS; rw [hWc, hall, Bool.true_and]; congr 1; rw [decide_eq_decide]; omega)
  have hgood2 : hasI (zs.take j) (iat zs j) = false ∧ hasI (wIds s.dat) (iat zs j) = true := by
    rw [← winAt_has]
    grind
  refine WC.skip (hK41 _ _ (WC.region (WL.r 2 hs47 [] rfl (WL.nil (tkN ?_)))))
  refine ⟨sbF rfl, hs47, _, ?_, j + 1, rfl, ?_, ?_, ⟨rfl, trivial⟩⟩
  · omega
  · omega
  · intro k hk; rcases Nat.lt_or_ge k j with h_ | h_
    · exact r1 k h_
    · obtain rfl : k = j := by omega
      exact hgood2
 have hall := all2_yes (s := s) htr fun k hk => r1 k (by omega)
 refine WC.exit (hK37 _ _ (WC.r1 hs38 [0] rfl (WC.ret (rtv rfl rfl hs38 ?_))))
 first | rw [hbad] | (unfold sessOkS; rw [hWc, hall, Bool.true_and]; congr 1; rw [decide_eq_decide]; omega)
end Go.Proofs.YthfhhldbglaieaaGreat
