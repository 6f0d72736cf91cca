/- Walks of Go functions, printed by a program (wip/gen). -/
import Derived.Test.YtlmcekfdlgkffaaH1
namespace Go.Proofs.Ytlmcekfdlgkffaa
open Go Go.RowKit
set_option linter.unusedVariables false
set_option linter.unusedSimpArgs false
theorem info_98 : Try.prog.info? 98 = some Try.t98 := by kernel_rfl
theorem c_laws_szRowS (A_a : Option Addr) (n_a c_a : Nat) (a : List RowR) (left : Int) (w : World) (f_a : SlN encRowR (okRowR 9223372036854775807) w A_a n_a a) (h1 : 0 ≤ left) (h2 : left ≤ 1048576) (h3 : n_a ≤ 9223372036854775807) :
    Calls Try.prog 80 #[.slice A_a n_a c_a, i64 left] w fun e w' => e = .returned (.int .i64 (szR left (tots totRow (a.map RowR.dat)))) ∧ St w [] [] w' := by
 have hl := f_a.sl.len
 have hT : (tots totRow (a.map RowR.dat) : Int) = n_a + (a.map (fun x => totRow (RowR.dat x))).sum := by rw [tots_map, hl]; omega
 refine enter (vs := [.slice A_a n_a c_a, i64 left]) 27 Try.func80 rfl Try.ntmps80 rfl rfl ?_
 have hs1 := St.init w
 refine WC.rr tbk hs1 [] rfl trivial ?_
 refine WC.rr tbk hs1 [] rfl ⟨by omega, trivial⟩ ?_
 refine WC.seq (fun K2 hK2 => ?_)
 refine WC.rr tbk hs1 [] rfl trivial ?_
 refine WC.cD rfl (fun qh3 => ?_) (fun qh3 => ?_)
 ·refine WC.rr tbk hs1 [] rfl trivial ?_
  refine WC.ret ?_
  refine tkR ?_
  clear hK2
  refine retV1 rfl (resV.tmp rfl) ?_
  refine ⟨congrArg Ending.returned ?_, hs1.nil⟩
  rw [szR_lt (by omega)]
 ·refine WC.skip ?_
  refine hK2 _ _ ?_
  refine WC.seq (fun K4 hK4 => ?_)
  refine WC.rr tbk hs1 [] rfl trivial ?_
  refine WC.block ?_
  refine WC.loopS [(0, _), (11, _)] ⟨rfl, rfl, trivial⟩ hs1 (fun k_ f w' => ∃ (i : Nat) (q : Int), k_ = n_a - i ∧ (i ≤ n_a) ∧ (0 ≤ q) ∧ (q + n_a + ((a.take i).map (fun x => totRow (RowR.dat x))).sum = left) ∧ Sub [(5, .int .i64 i), (1, .int .i64 q)] f) ((fun (i : Nat) (q : Int) => n_a - i) (0) ((left - n_a))) ?_ ?_
  ·refine ⟨0, (left - n_a), rfl, ?_, ?_, ?_, ⟨rfl, rfl, trivial⟩⟩
   · exact Nat.zero_le _
   · omega
   · simp
  ·clear hs1
   rintro _ f w ⟨i, q, rfl, p0, p1, p2, hG⟩ hF hs5
   refine WC.sub _ (hG.app hF) ?_
   clear hG hF
   refine WC.seq (fun K6 hK6 => ?_)
   refine WC.rr tbk hs5 [] rfl trivial ?_
   refine WC.cD rfl (fun qh7 => ?_) (fun qh7 => ?_)
   ·have hs1 := sum_take (F := encRowR) (f := (fun x => totRow (RowR.dat x))) (l := a) (i := i) (by omega)
    have hs2 := sum_take_le (f := (fun x => totRow (RowR.dat x))) a (i + 1)
    refine WC.skip ?_
    refine hK6 _ _ ?_
    refine WC.seq (fun K8 hK8 => ?_)
    refine WC.block ?_
    refine WC.sr ?_
    refine WL.run tbk 2 hs5 [] rfl trivial ?_
    refine WL.val rfl rfl rfl (Run.idxN Try.runUnderlying66 Try.sizeOf164 rfl rfl rfl ?_ ?_ ?_) ?_
    · exact SlF.some_ (SlF.st0 f_a.sl hs5)
    · omega
    · omega
    refine WL.val rfl rfl rfl (Run.loadA Try.isAgg164 Try.sizeOf164 rfl rfl (SlF.whole (SlF.st0 f_a.sl hs5) ?_)) ?_
    · omega
    refine WL.run tbk 1 hs5 [] rfl trivial ?_
    refine WL.call rfl rfl rfl (Run.call Try.call145 rfl rfl rfl) (c_laws_szRow (gat encRowR a i) _ _ (okRowR.st0 (SlN.nth f_a (by omega)) hs5) ?_ ?_) ?_
    · first | assumption | omega
    · first | assumption | omega | exact szR_b (by assumption) (by omega) (by first | assumption | omega)
    rintro _ whs9 ⟨rfl, hs9⟩
    replace hs9 := hs5.call0 hs9
    refine ⟨_, rfl, ?_⟩
    refine WL.run tbk 1 hs9 [] rfl trivial ?_
    refine WL.nil ?_
    refine WC.rr tbk hs9 [] rfl trivial ?_
    refine WC.cD rfl (fun qh10 => ?_) (fun qh10 => ?_)
    ·refine WC.rr tbk hs9 [] rfl trivial ?_
     refine WC.ret ?_
     refine ibR (tkR (tkR (ibR (tkR ?_))))
     clear hK8 hK4
     refine retV1 rfl (resV.tmp rfl) ?_
     refine ⟨congrArg Ending.returned ?_, hs9.nil⟩
     have h9 := szR_no qh10
     rw [szR_lt (by omega)]
    ·refine WC.skip ?_
     refine hK8 _ _ ?_
     refine WC.region ?_
     refine WL.run tbk 3 hs9 [] rfl ⟨by omega, trivial⟩ ?_
     refine WL.nil ?_
     refine tkN ?_
     refine ⟨⟨rfl, rfl, trivial⟩, hs9, _, ?_, i + 1, _, rfl, ?_, ?_, ?_, ⟨rfl, rfl, trivial⟩⟩
     · omega
     · omega
     · omega
     · have h9 := szR_ok qh10 (Int.natCast_nonneg _); omega
   ·refine WC.exit ?_
    refine hK4 _ _ ?_
    refine WC.rr tbk hs5 [] rfl trivial ?_
    refine WC.ret ?_
    refine retV1 rfl (resV.tmp rfl) ?_
    refine ⟨congrArg Ending.returned ?_, hs5.nil⟩
    have h9 : a.take i = a := List.take_of_length_le (by omega)
    rw [h9] at p2
    rw [szR_le (by omega)]
    congr 1; omega
theorem c_laws_eqRowS (A_a : Option Addr) (n_a c_a : Nat) (a : List RowR) (A_b : Option Addr) (n_b c_b : Nat) (b : List RowR) (w : World) (f_a : SlN encRowR (okRowR 549755813888) w A_a n_a a) (f_b : SlN encRowR (okRowR 549755813888) w A_b n_b b) (hn : n_a ≤ 549755813888) (hab : a.map RowR.dat = b.map RowR.dat) :
    Calls Try.prog 95 #[.slice A_a n_a c_a, .slice A_b n_b c_b] w fun e w' => e = .returned (.bool true) ∧ St w [] [] w' := by
 have hla := f_a.sl.len
 obtain rfl : n_a = n_b := by have h9 := congrArg List.length hab; simp only [List.length_map] at h9; rw [← hla, h9]; exact f_b.sl.len
 refine enter (vs := [.slice A_a n_a c_a, .slice A_b n_a c_b]) 27 Try.func95 rfl Try.ntmps95 rfl rfl ?_
 have hs1 := St.init w
 refine WC.rr tbk hs1 [] rfl trivial ?_
 refine WC.seq (fun K2 hK2 => ?_)
 refine WC.rr tbk hs1 [] rfl trivial ?_
 refine WC.condF rfl (by simp) ?_
 refine WC.skip ?_
 refine hK2 _ _ ?_
 refine WC.seq (fun K4 hK4 => ?_)
 refine WC.rr tbk hs1 [] rfl trivial ?_
 refine WC.block ?_
 refine WC.loopS [(0, _), (1, _), (10, _)] ⟨rfl, rfl, rfl, trivial⟩ hs1 (fun k_ f w' => ∃ (i : Nat), k_ = n_a - i ∧ (i ≤ n_a) ∧ Sub [(5, .int .i64 i)] f) ((fun (i : Nat) => n_a - i) (0)) ?_ ?_
 ·refine ⟨0, rfl, ?_, ⟨rfl, trivial⟩⟩
  · exact Nat.zero_le _
 ·clear hs1
  rintro _ f w ⟨i, rfl, p0, hG⟩ hF hs5
  refine WC.sub _ (hG.app hF) ?_
  clear hG hF
  refine WC.seq (fun K6 hK6 => ?_)
  refine WC.rr tbk hs5 [] rfl trivial ?_
  refine WC.cD rfl (fun qh7 => ?_) (fun qh7 => ?_)
  ·have hab_ := gat_dat (F := encRowR) (i := i) hab (by omega)
   refine WC.skip ?_
   refine hK6 _ _ ?_
   refine WC.seq (fun K8 hK8 => ?_)
   refine WC.block ?_
   refine WC.sq hs5 mixed (by kernel_rfl) ?_
   refine WQ.run tbk 2 [] rfl trivial ?_
   refine WQ.val rfl rfl rfl (fun w_ hs_ => (Run.idxN Try.runUnderlying31 Try.sizeOf98 rfl rfl rfl ?_ ?_ ?_)) ?_
   · exact SlF.some_ (SlF.st0 f_a.sl (hs_ : St _ _ _ _))
   · omega
   · omega
   refine WQ.val rfl rfl rfl (fun w_ hs_ => (Run.loadA Try.isAgg98 Try.sizeOf98 rfl rfl (SlF.whole (SlF.st0 f_a.sl (hs_ : St _ _ _ _)) ?_))) ?_
   · omega
   refine WQ.run tbk 2 [] rfl trivial ?_
   refine WQ.val rfl rfl rfl (fun w_ hs_ => (Run.idxN Try.runUnderlying31 Try.sizeOf98 rfl rfl rfl ?_ ?_ ?_)) ?_
   · exact SlF.some_ (SlF.st0 f_b.sl (hs_ : St _ _ _ _))
   · omega
   · omega
   refine WQ.val rfl rfl rfl (fun w_ hs_ => (Run.loadA Try.isAgg98 Try.sizeOf98 rfl rfl (SlF.whole (SlF.st0 f_b.sl (hs_ : St _ _ _ _)) ?_))) ?_
   · omega
   refine WQ.call rfl rfl rfl (fun w_ hs_ => (Run.call Try.call153 rfl rfl rfl)) (fun w_ hs_ => (c_laws_eqRow (gat encRowR a i) (gat encRowR b i) _ (okRowR.st0 (SlN.nth f_a (by omega)) (hs_ : St _ _ _ _)) (okRowR.st0 (SlN.nth f_b (by omega)) (hs_ : St _ _ _ _)) ?_).mono fun e_ w_ h_ => ⟨h_.1, (hs_ : St _ _ _ _).call0 h_.2⟩) ?_
   · first | assumption | rfl | omega
   refine WQ.run tbk 1 [] rfl trivial ?_
   refine WQ.nil (fun _ (hs9 : St _ _ _ _) => ?_)
   refine WC.condF rfl (by simp) ?_
   refine WC.skip ?_
   refine hK8 _ _ ?_
   refine WC.region ?_
   refine WL.run tbk 3 hs9 [] rfl ⟨by omega, trivial⟩ ?_
   refine WL.nil ?_
   refine tkN ?_
   refine ⟨⟨rfl, rfl, rfl, trivial⟩, hs9, _, ?_, i + 1, rfl, ?_, ⟨rfl, trivial⟩⟩
   · omega
   · omega
  ·refine WC.exit ?_
   refine hK4 _ _ ?_
   refine WC.rr tbk hs5 [] rfl trivial ?_
   refine WC.ret ?_
   refine retV1 rfl (resV.tmp rfl) ?_
   refine ⟨congrArg Ending.returned ?_, hs5.nil⟩
   rfl
theorem c_laws_toRowS (A_a : Option Addr) (n_a c_a : Nat) (a : List RowR) (w : World) (f_a : SlN encRowR (okRowR 549755813888) w A_a n_a a) (hn : n_a ≤ 549755813888) :
    Calls Try.prog 88 #[.slice A_a n_a c_a] w fun e w' => ∃ A c xs L1, e = .returned (.slice A n_a c) ∧ St w [] L1 w' ∧ OwnN encRowR ownRowR 98 (.slice A n_a c) xs L1 ∧ xs.map RowR.dat = a.map RowR.dat := by
 have hl := f_a.sl.len
 refine enter (vs := [.slice A_a n_a c_a]) 23 Try.func88 rfl Try.ntmps88 rfl rfl ?_
 have hs1 := St.init w
 refine WC.rr tbk hs1 [] rfl trivial ?_
 refine WC.sr ?_
 refine WL.run tbk 2 hs1 [] rfl trivial ?_
 refine WL.makeF (F := encRowR) hs1 Try.underlying31 info_98 rfl rfl rfl rfl rfl rfl rfl rfl rfl ?_ ?_ (fun A5 c6 L2 whs3 hs3 ho4 => ?_)
 · have e_ : Try.t98.bytes = 24 := rfl
   rw [e_]; omega
 · omega
 obtain ⟨L7, hs8, ho9⟩ := OwnN.new (own := ownRowR) hs3 ho4 (OwnF.nil _ _)
 refine WL.run tbk 1 hs8 [] rfl trivial ?_
 refine WL.nil ?_
 refine WC.seq (fun K10 hK10 => ?_)
 refine WC.rr tbk hs8 [] rfl trivial ?_
 refine WC.block ?_
 refine WC.loopO [(0, _), (2, _)] ⟨rfl, rfl, trivial⟩ hs8 (fun k_ f L_ => ∃ (i : Nat) (ys : List RowR) (A11 : Option Addr) (c12 : Nat), k_ = n_a - i ∧ (i ≤ n_a) ∧ (ys.length = i) ∧ (ys.map RowR.dat = (a.take i).map RowR.dat) ∧ OwnN encRowR ownRowR 98 (.slice A11 (n_a) c12) (ys ++ List.replicate (n_a - i) encRowR.dflt) L_ ∧ Sub [(3, .slice A11 (n_a) c12), (4, .int .i64 i)] f) (((fun (i : Nat) (ys : List RowR) => n_a - i) (0) ([]))) ?_ ?_
 ·refine ⟨0, [], _, _, rfl, ?_, ?_, ?_, (by simpa using ho9), ⟨rfl, rfl, trivial⟩⟩
  · exact Nat.zero_le _
  · rfl
  · rfl
 ·clear hs8
  rintro _ f w L13 ⟨i, ys, A11, c12, rfl, p0, p1, p2, ho14, hG⟩ hF hs15
  refine WC.sub _ (hG.app hF) ?_
  clear hG hF
  have hlen : (ys ++ List.replicate (n_a - i) encRowR.dflt).length = n_a := by simp; omega
  refine WC.seq (fun K16 hK16 => ?_)
  refine WC.rr tbk hs15 [] rfl trivial ?_
  refine WC.cond rfl (fun h17 => ?_) (fun h17 => ?_)
  ·have qh17 := h17
   try simp only [bf, within_iff, within_not] at qh17
   refine WC.skip ?_
   refine hK16 _ _ ?_
   refine WC.seq (fun K18 hK18 => ?_)
   refine WC.block ?_
   refine WC.region ?_
   refine WL.run tbk 4 hs15 [] rfl trivial ?_
   refine WL.val rfl rfl rfl (Run.idxN Try.runUnderlying66 Try.sizeOf164 rfl rfl rfl ?_ ?_ ?_) ?_
   · exact SlF.some_ (SlF.st0 f_a.sl hs15)
   · omega
   · omega
   refine WL.val rfl rfl rfl (Run.loadA Try.isAgg164 Try.sizeOf164 rfl rfl (SlF.whole (SlF.st0 f_a.sl hs15) ?_)) ?_
   · omega
   refine WL.call rfl rfl rfl (Run.call Try.call148 rfl rfl rfl) (c_laws_toRow (gat encRowR a i) _ (okRowR.st0 (SlN.nth f_a (by omega)) hs15)) ?_
   rintro _ whs19 ⟨r20, L1_21, rfl, hs19, ho22, hd23⟩
   replace hs19 := hs15.callF hs19
   refine ⟨_, rfl, ?_⟩
   refine WL.val rfl rfl rfl (Run.idxN Try.runUnderlying31 Try.sizeOf98 rfl rfl rfl ?_ ?_ ?_) ?_
   · exact SlF.some_ (OwnN.sl ho14 (fun p_ hp_ => (hs19.own p_ (List.mem_append_right _ (List.mem_append_left _ hp_))).1))
   · omega
   · omega
   obtain ⟨L24, L25, hs28, ho26, ho27⟩ := OwnN.open_ (St.perm hs19 (L' := L13 ++ _) (perm_front (A := L1_21) (List.Perm.refl _))) ho14
   refine WL.storeF1 (x' := r20) hs28 ho26 Try.sizeOf98 rfl rfl rfl rfl rfl rfl rfl rfl rfl ?_ rfl (fun L29 whs30 hs30 ho31 _ => ?_)
   · omega
   obtain ⟨L32, hs34, hb33⟩ := Bag.replace (r := r20) (i := i) (St.perm (St.perm hs30 (L' := L1_21 ++ _) (perm_front (A := L29) (perm_front (A := L25) (List.Perm.refl _)))) (L' := L25 ++ _) (perm_front (A := L1_21) (perm_front (A := L29) (List.Perm.refl _)))) ho27 (by omega) ho22
   refine WL.nil ?_
   refine hK18 _ _ ?_
   refine WC.region ?_
   refine WL.run tbk 3 hs34 [] rfl ⟨by omega, trivial⟩ ?_
   refine WL.nil ?_
   refine tkN ?_
   obtain ⟨L36, hs35, ho37⟩ := OwnN.fold (St.perm hs34 (L' := L29 ++ _) (perm_front (A := L32) (List.Perm.refl _))) ho31 hb33
   rw [set_at p1 (by omega)] at ho37
   refine ⟨⟨rfl, rfl, trivial⟩, _, hs35, _, ?_, i + 1, (ys ++ [r20]), _, _, rfl, ?_, ?_, ?_, ho37, ⟨rfl, rfl, trivial⟩⟩
   · omega
   · omega
   · simp; omega
   · rw [List.map_append, p2, map_take_succ (F := encRowR) (by omega)]; congr 1 <;> simp only [List.map_cons, List.map_nil] <;> congr 1 <;> assumption
  ·have qh17 := h17
   try simp only [bf, within_iff, within_not] at qh17
   refine WC.exit ?_
   refine hK10 _ _ ?_
   refine WC.rr tbk hs15 [] rfl trivial ?_
   refine WC.ret ?_
   refine retV1 rfl (resV.tmp rfl) ?_
   have hi_ : i = n_a := by omega
   subst hi_
   have hx_ := ho14
   simp only [Nat.sub_self, List.replicate_zero, List.append_nil] at hx_
   exact ⟨_, _, ys, _, rfl, (St.keep1 hs15), hx_, by rw [p2, List.take_of_length_le (by omega)]⟩
theorem c_laws_markRowS (v_a : Value) (a : List RowR) (L_a : Hp) (k : Int) (w : World) (o_a : OwnN encRowR ownRowR 98 v_a a L_a) (h_a : ∀ p, p ∈ L_a → w.heap[p.1]? = some p.2) (hd_ : ((L_a).map (·.1)).Nodup) (h1 : 0 ≤ k) (h2 : k + cnts cntERow a ≤ 549755813888) (h3 : a.length ≤ 549755813888) :
    Calls Try.prog 97 #[v_a, i64 k] w fun e w' => ∃ L1, e = .returned (.int .i64 (k + cnts cntERow a)) ∧ St w (L_a.map (·.1)) L1 w' ∧ OwnN encRowR ownRowR 98 v_a (mrks mkERow cntERow k a) L1 := by
 obtain ⟨A_a, c_a, rfl⟩ := o_a.shape
 have hcn : ∀ x, 0 ≤ cntERow x := fun x => by simp only [cntERow]; omega
 refine enter (vs := [.slice A_a a.length c_a, i64 k]) 20 Try.func97 rfl Try.ntmps97 rfl rfl ?_
 have hs1 := St.takes1 w L_a h_a hd_
 refine WC.rr tbk hs1 [] rfl trivial ?_
 refine WC.seq (fun K2 hK2 => ?_)
 refine WC.rr tbk hs1 [] rfl trivial ?_
 refine WC.block ?_
 refine WC.loopO [(4, _)] ⟨rfl, trivial⟩ hs1 (fun k_ f L_ => ∃ (i : Nat), k_ = a.length - i ∧ (i ≤ a.length) ∧ OwnN encRowR ownRowR 98 (.slice A_a (a.length) c_a) (mrkTo mkERow cntERow k a i) L_ ∧ Sub [(0, .slice A_a (a.length) c_a), (5, .int .i64 i), (1, .int .i64 (k + cnts cntERow (a.take i)))] f) (((fun (i : Nat) => a.length - i) (0))) ?_ ?_
 ·refine ⟨0, rfl, ?_, (mrkTo_zero.symm ▸ o_a), ⟨rfl, rfl, ?_, trivial⟩⟩
  · exact Nat.zero_le _
  · (refine congrArg some (congrArg (Value.int _) ?_); simp [cnts])
 ·clear hs1
  rintro _ f w L5 ⟨i, rfl, p0, ho6, hG⟩ hF hs7
  refine WC.sub _ (hG.app hF) ?_
  clear hG hF
  have hfl : (mrkTo mkERow cntERow k a i).length = a.length := mrkTo_len p0
  have hq0 := cnts_nonneg (c := cntERow) hcn (a.take i)
  have hq1 := cnts_take_le hcn a i
  refine WC.seq (fun K8 hK8 => ?_)
  refine WC.rr tbk hs7 [] rfl trivial ?_
  refine WC.cond rfl (fun h9 => ?_) (fun h9 => ?_)
  ·have qh9 := h9
   try simp only [bf, within_iff, within_not] at qh9
   have hg := mrkTo_gat (mk := mkERow) (c := cntERow) (F := encRowR) (k := k) (xs := a) (i := i) (by omega)
   have hq2 := cnts_take (c := cntERow) (F := encRowR) (xs := a) (i := i) (by omega)
   have hq3 := cnts_take_le hcn a (i + 1)
   have hq4 := hq2
   simp only [cntERow, ← hg] at hq4
   have hgn : (gat encRowR (mrkTo mkERow cntERow k a i) i) = gat encRowR a i := hg
   refine WC.skip ?_
   refine hK8 _ _ ?_
   refine WC.seq (fun K10 hK10 => ?_)
   refine WC.block ?_
   refine WC.region ?_
   refine WL.run tbk 2 hs7 [] rfl trivial ?_
   refine WL.val rfl rfl rfl (Run.idxN Try.runUnderlying31 Try.sizeOf98 rfl rfl rfl ?_ ?_ ?_) ?_
   · exact SlF.some_ (OwnN.sl ho6 (fun p_ hp_ => (hs7.own p_ (List.mem_append_left _ hp_)).1))
   · omega
   · omega
   refine WL.val rfl rfl rfl (Run.fieldO Try.runUnderlying98 rfl rfl rfl Try.sizeOf26 rfl) ?_
   refine WL.val rfl rfl rfl (Run.load Try.isAgg26 rfl rfl (SlF.fld (OwnN.sl ho6 (fun p_ hp_ => (hs7.own p_ (List.mem_append_left _ hp_)).1)) ?_ rfl)) ?_
   · omega
   refine WL.run tbk 1 hs7 [] rfl trivial ?_
   obtain ⟨L12, L13, hs16, ho14, ho15⟩ := OwnN.open_ hs7 ho6
   obtain ⟨L17, L18, L19, hs20, ho21, hp22⟩ := Bag.out (F := encRowR) (i := i) (St.perm hs16 (L' := L13 ++ _) (perm_front (A := L12) (List.Perm.refl _))) ho15 (by rw [mrkTo_len (by omega)]; omega)
   refine WL.call rfl rfl rfl (Run.call Try.call154 rfl rfl rfl) (c_laws_markCellS _ _ _ _ _ ho21 (fun p_ hp_ => (hs20.own p_ (List.mem_append_left _ hp_)).1) ?_ ?_ ?_) ?_
   · first | assumption | rfl | omega
   · first | assumption | rfl | omega
   · first | assumption | rfl | omega
   rintro _ whs11 ⟨L1_23, rfl, hs11, ho24⟩
   replace hs11 := St.lend hs20 hs11
   refine ⟨_, rfl, ?_⟩
   refine WL.run tbk 1 hs11 [] rfl trivial ?_
   refine WL.nil ?_
   refine hK10 _ _ ?_
   refine WC.region ?_
   refine WL.run tbk 3 hs11 [] rfl ⟨by omega, trivial⟩ ?_
   refine WL.nil ?_
   refine tkN ?_
   obtain ⟨L25, hs26, hb27⟩ := hp22 (mkERow (k + cnts cntERow (a.take i)) (gat encRowR a i)) _ (St.perm (St.perm hs11 (L' := (L17 ++ L19) ++ _) (perm_front (A := L1_23) (List.Perm.refl _))) (L' := L1_23 ++ _) (perm_front (A := (L17 ++ L19)) (List.Perm.refl _))) (by have h_ := ho24; first | exact h_ | (simp only [hg] at h_; exact h_))
   rw [mrkTo_set (F := encRowR) (by omega) rfl] at hb27
   have ho28 := OwnF.recast (ys := mrkTo mkERow cntERow k a (i + 1)) ho14 (by rw [mrkTo_len (by omega)]; (try simp only [List.length_set]); exact hfl.symm) (by rw [← mrkTo_set (F := encRowR) (i := i) (by omega) rfl]; exact rows_set_eq (by rw [mrkTo_len (by omega)]; omega) (by rw [hg]; rfl))
   obtain ⟨L30, hs29, ho31⟩ := OwnN.fold (St.perm hs26 (L' := L12 ++ _) (perm_front (A := L25) (List.Perm.refl _))) ho28 hb27
   refine ⟨⟨rfl, trivial⟩, _, hs29, _, ?_, i + 1, rfl, ?_, ho31, ⟨rfl, rfl, ?_, trivial⟩⟩
   · omega
   · omega
   · (refine congrArg some (congrArg (Value.int _) ?_); rw [cnts_take (F := encRowR) (by omega)]; simp only [cntERow, hg]; omega)
  ·have qh9 := h9
   try simp only [bf, within_iff, within_not] at qh9
   refine WC.exit ?_
   refine hK2 _ _ ?_
   refine WC.rr tbk hs7 [] rfl trivial ?_
   refine WC.ret ?_
   refine retV1 rfl (resV.tmp rfl) ?_
   have hi_ : i = a.length := by omega
   have hx_ := ho6
   rw [mrkTo_full (by omega)] at hx_
   refine ⟨_, ?_, (St.keep1 hs7), hx_⟩
   rw [hi_, List.take_of_length_le (Nat.le_refl _)]
theorem c_laws_heldRowS (A_a : Option Addr) (n_a c_a : Nat) (a : List RowR) (k : Int) (w : World) (f_a : SlN encRowR (okRowR 549755813888) w A_a n_a (mrks mkERow cntERow k a)) (h1 : 0 ≤ k) (h2 : k + cnts cntERow a ≤ 549755813888) (h3 : n_a ≤ 549755813888) :
    Calls Try.prog 99 #[.slice A_a n_a c_a, i64 k] w fun e w' => e = .returned (.int .i64 (k + cnts cntERow a)) ∧ St w [] [] w' := by
 have hl : a.length = n_a := by have h_ := f_a.sl.len; simpa [mrks_len] using h_
 have hcn : ∀ x, 0 ≤ cntERow x := fun x => by simp only [cntERow]; omega
 refine enter (vs := [.slice A_a n_a c_a, i64 k]) 22 Try.func99 rfl Try.ntmps99 rfl rfl ?_
 have hs1 := St.init w
 refine WC.rr tbk hs1 [] rfl trivial ?_
 refine WC.seq (fun K2 hK2 => ?_)
 refine WC.rr tbk hs1 [] rfl trivial ?_
 refine WC.block ?_
 refine WC.loopS [(0, _)] ⟨rfl, trivial⟩ hs1 (fun k_ f w' => ∃ (i : Nat), k_ = n_a - i ∧ (i ≤ n_a) ∧ Sub [(5, .int .i64 i), (1, .int .i64 (k + cnts cntERow (a.take i)))] f) ((fun (i : Nat) => n_a - i) (0)) ?_ ?_
 ·refine ⟨0, rfl, ?_, ⟨rfl, ?_, trivial⟩⟩
  · exact Nat.zero_le _
  · (refine congrArg some (congrArg (Value.int _) ?_); simp [cnts])
 ·clear hs1
  rintro _ f w ⟨i, rfl, p0, hG⟩ hF hs3
  refine WC.sub _ (hG.app hF) ?_
  clear hG hF
  have hq0 := cnts_nonneg (c := cntERow) hcn (a.take i)
  have hq1 := cnts_take_le hcn a i
  refine WC.seq (fun K4 hK4 => ?_)
  refine WC.rr tbk hs3 [] rfl trivial ?_
  refine WC.cD rfl (fun qh5 => ?_) (fun qh5 => ?_)
  ·have hg := mrks_gat (mk := mkERow) (c := cntERow) (F := encRowR) (k := k) (xs := a) (i := i) (by omega)
   have hq2 := cnts_take (c := cntERow) (F := encRowR) (xs := a) (i := i) (by omega)
   have hq3 := cnts_take_le hcn a (i + 1)
   simp only [cntERow] at hq2
   have hng := (SlN.nth f_a (show i < n_a by omega))
   rw [hg] at hng
   have hnl_Cells := hng.Cells.len
   have hnn_Cells := hng.Cells_n
   simp only [mkERow, marks_len, mrks_len] at hnl_Cells hnn_Cells
   have hgn_Cells : (gat encRowR (mrks mkERow cntERow k a) i).Cells.n = (gat encRowR a i).Cells.n := by rw [hg]; rfl
   have hm_Cells : (gat encRowR (mrks mkERow cntERow k a) i).Cells.xs = marks mkCell 6 (k + cnts cntERow (a.take i)) (gat encRowR a i).Cells.xs.length := by rw [hg]; rfl
   refine WC.skip ?_
   refine hK4 _ _ ?_
   refine WC.seq (fun K6 hK6 => ?_)
   refine WC.block ?_
   refine WC.sr ?_
   refine WL.run tbk 2 hs3 [] rfl trivial ?_
   refine WL.val rfl rfl rfl (Run.idxN Try.runUnderlying31 Try.sizeOf98 rfl rfl rfl ?_ ?_ ?_) ?_
   · exact SlF.some_ (SlF.st0 f_a.sl hs3)
   · omega
   · omega
   refine WL.val rfl rfl rfl (Run.fieldO Try.runUnderlying98 rfl rfl rfl Try.sizeOf26 rfl) ?_
   refine WL.val rfl rfl rfl (Run.load Try.isAgg26 rfl rfl (SlF.fld (SlF.st0 f_a.sl hs3) ?_ rfl)) ?_
   · omega
   refine WL.run tbk 1 hs3 [] rfl trivial ?_
   refine WL.call rfl rfl rfl (Run.call Try.call155 rfl rfl rfl) (c_laws_heldCellS _ _ _ _ _ _ _ (SlF.st0 (SlN.nth f_a (by omega)).Cells hs3) hm_Cells ?_ ?_ ?_) ?_
   · first | assumption | rfl | omega
   · first | assumption | rfl | omega
   · first | assumption | rfl | omega
   rintro _ whs7 ⟨rfl, hs7⟩
   replace hs7 := hs3.call0 hs7
   refine ⟨_, rfl, ?_⟩
   refine WL.run tbk 1 hs7 [] rfl trivial ?_
   refine WL.nil ?_
   refine WC.rr tbk hs7 [] rfl trivial ?_
   refine WC.condF rfl (by first | (simp [hg, mkERow]; done) | (simp [hg, mkERow]; omega)) ?_
   refine WC.skip ?_
   refine hK6 _ _ ?_
   refine WC.region ?_
   refine WL.run tbk 3 hs7 [] rfl ⟨by omega, trivial⟩ ?_
   refine WL.nil ?_
   refine tkN ?_
   refine ⟨⟨rfl, trivial⟩, hs7, _, ?_, i + 1, rfl, ?_, ⟨rfl, ?_, trivial⟩⟩
   · omega
   · omega
   · (refine congrArg some (congrArg (Value.int _) ?_); rw [cnts_take (F := encRowR) (by omega)]; simp only [cntERow]; omega)
  ·refine WC.exit ?_
   refine hK2 _ _ ?_
   refine WC.rr tbk hs3 [] rfl trivial ?_
   refine WC.ret ?_
   refine retV1 rfl (resV.tmp rfl) ?_
   refine ⟨congrArg Ending.returned ?_, hs3.nil⟩
   rw [show i = a.length from by omega, List.take_of_length_le (Nat.le_refl _)]
theorem c_laws_eqActS (A_a : Option Addr) (n_a c_a : Nat) (a : List ActR) (A_b : Option Addr) (n_b c_b : Nat) (b : List ActR) (w : World) (f_a : SlN encActR (okActR 549755813888) w A_a n_a a) (f_b : SlN encActR (okActR 549755813888) w A_b n_b b) (hn : n_a ≤ 549755813888) (hab : a.map ActR.dat = b.map ActR.dat) :
    Calls Try.prog 30 #[.slice A_a n_a c_a, .slice A_b n_b c_b] w fun e w' => e = .returned (.bool true) ∧ St w [] [] w' := by
 have hla := f_a.sl.len
 obtain rfl : n_a = n_b := by have h9 := congrArg List.length hab; simp only [List.length_map] at h9; rw [← hla, h9]; exact f_b.sl.len
 refine enter (vs := [.slice A_a n_a c_a, .slice A_b n_a c_b]) 27 Try.func30 rfl Try.ntmps30 rfl rfl ?_
 have hs1 := St.init w
 refine WC.rr tbk hs1 [] rfl trivial ?_
 refine WC.seq (fun K2 hK2 => ?_)
 refine WC.rr tbk hs1 [] rfl trivial ?_
 refine WC.condF rfl (by simp) ?_
 refine WC.skip ?_
 refine hK2 _ _ ?_
 refine WC.seq (fun K4 hK4 => ?_)
 refine WC.rr tbk hs1 [] rfl trivial ?_
 refine WC.block ?_
 refine WC.loopS [(0, _), (1, _), (10, _)] ⟨rfl, rfl, rfl, trivial⟩ hs1 (fun k_ f w' => ∃ (i : Nat), k_ = n_a - i ∧ (i ≤ n_a) ∧ Sub [(5, .int .i64 i)] f) ((fun (i : Nat) => n_a - i) (0)) ?_ ?_
 ·refine ⟨0, rfl, ?_, ⟨rfl, trivial⟩⟩
  · exact Nat.zero_le _
 ·clear hs1
  rintro _ f w ⟨i, rfl, p0, hG⟩ hF hs5
  refine WC.sub _ (hG.app hF) ?_
  clear hG hF
  refine WC.seq (fun K6 hK6 => ?_)
  refine WC.rr tbk hs5 [] rfl trivial ?_
  refine WC.cD rfl (fun qh7 => ?_) (fun qh7 => ?_)
  ·have hab_ := gat_dat (F := encActR) (i := i) hab (by omega)
   refine WC.skip ?_
   refine hK6 _ _ ?_
   refine WC.seq (fun K8 hK8 => ?_)
   refine WC.block ?_
   refine WC.sq hs5 mixed (by kernel_rfl) ?_
   refine WQ.run tbk 2 [] rfl trivial ?_
   refine WQ.val rfl rfl rfl (fun w_ hs_ => (Run.idxN Try.runUnderlying53 Try.sizeOf44 rfl rfl rfl ?_ ?_ ?_)) ?_
   · exact SlF.some_ (SlF.st0 f_a.sl (hs_ : St _ _ _ _))
   · omega
   · omega
   refine WQ.val rfl rfl rfl (fun w_ hs_ => (Run.loadA Try.isAgg44 Try.sizeOf44 rfl rfl (SlF.whole (SlF.st0 f_a.sl (hs_ : St _ _ _ _)) ?_))) ?_
   · omega
   refine WQ.run tbk 2 [] rfl trivial ?_
   refine WQ.val rfl rfl rfl (fun w_ hs_ => (Run.idxN Try.runUnderlying53 Try.sizeOf44 rfl rfl rfl ?_ ?_ ?_)) ?_
   · exact SlF.some_ (SlF.st0 f_b.sl (hs_ : St _ _ _ _))
   · omega
   · omega
   refine WQ.val rfl rfl rfl (fun w_ hs_ => (Run.loadA Try.isAgg44 Try.sizeOf44 rfl rfl (SlF.whole (SlF.st0 f_b.sl (hs_ : St _ _ _ _)) ?_))) ?_
   · omega
   refine WQ.call rfl rfl rfl (fun w_ hs_ => (Run.call Try.call22 rfl rfl rfl)) (fun w_ hs_ => (c_laws_eqAct (gat encActR a i) (gat encActR b i) _ (okActR.st0 (SlN.nth f_a (by omega)) (hs_ : St _ _ _ _)) (okActR.st0 (SlN.nth f_b (by omega)) (hs_ : St _ _ _ _)) ?_).mono fun e_ w_ h_ => ⟨h_.1, (hs_ : St _ _ _ _).call0 h_.2⟩) ?_
   · first | assumption | rfl | omega
   refine WQ.run tbk 1 [] rfl trivial ?_
   refine WQ.nil (fun _ (hs9 : St _ _ _ _) => ?_)
   refine WC.condF rfl (by simp) ?_
   refine WC.skip ?_
   refine hK8 _ _ ?_
   refine WC.region ?_
   refine WL.run tbk 3 hs9 [] rfl ⟨by omega, trivial⟩ ?_
   refine WL.nil ?_
   refine tkN ?_
   refine ⟨⟨rfl, rfl, rfl, trivial⟩, hs9, _, ?_, i + 1, rfl, ?_, ⟨rfl, trivial⟩⟩
   · omega
   · omega
  ·refine WC.exit ?_
   refine hK4 _ _ ?_
   refine WC.rr tbk hs5 [] rfl trivial ?_
   refine WC.ret ?_
   refine retV1 rfl (resV.tmp rfl) ?_
   refine ⟨congrArg Ending.returned ?_, hs5.nil⟩
   rfl
theorem c_laws_markActS (v_a : Value) (a : List ActR) (L_a : Hp) (k : Int) (w : World) (o_a : OwnN encActR ownActR 44 v_a a L_a) (h_a : ∀ p, p ∈ L_a → w.heap[p.1]? = some p.2) (hd_ : ((L_a).map (·.1)).Nodup) (h1 : 0 ≤ k) (h2 : k + cnts cntEAct a ≤ 549755813888) (h3 : a.length ≤ 549755813888) :
    Calls Try.prog 33 #[v_a, i64 k] w fun e w' => ∃ L1, e = .returned (.int .i64 (k + cnts cntEAct a)) ∧ St w (L_a.map (·.1)) L1 w' ∧ OwnN encActR ownActR 44 v_a (mrks mkEAct cntEAct k a) L1 := by
 obtain ⟨A_a, c_a, rfl⟩ := o_a.shape
 have hcn : ∀ x, 0 ≤ cntEAct x := fun x => by simp only [cntEAct]; omega
 refine enter (vs := [.slice A_a a.length c_a, i64 k]) 43 Try.func33 rfl Try.ntmps33 rfl rfl ?_
 have hs1 := St.takes1 w L_a h_a hd_
 refine WC.rr tbk hs1 [] rfl trivial ?_
 refine WC.seq (fun K2 hK2 => ?_)
 refine WC.rr tbk hs1 [] rfl trivial ?_
 refine WC.block ?_
 refine WC.loopO [(4, _)] ⟨rfl, trivial⟩ hs1 (fun k_ f L_ => ∃ (i : Nat), k_ = a.length - i ∧ (i ≤ a.length) ∧ OwnN encActR ownActR 44 (.slice A_a (a.length) c_a) (mrkTo mkEAct cntEAct k a i) L_ ∧ Sub [(0, .slice A_a (a.length) c_a), (5, .int .i64 i), (1, .int .i64 (k + cnts cntEAct (a.take i)))] f) (((fun (i : Nat) => a.length - i) (0))) ?_ ?_
 ·refine ⟨0, rfl, ?_, (mrkTo_zero.symm ▸ o_a), ⟨rfl, rfl, ?_, trivial⟩⟩
  · exact Nat.zero_le _
  · (refine congrArg some (congrArg (Value.int _) ?_); simp [cnts])
 ·clear hs1
  rintro _ f w L5 ⟨i, rfl, p0, ho6, hG⟩ hF hs7
  refine WC.sub _ (hG.app hF) ?_
  clear hG hF
  have hfl : (mrkTo mkEAct cntEAct k a i).length = a.length := mrkTo_len p0
  have hq0 := cnts_nonneg (c := cntEAct) hcn (a.take i)
  have hq1 := cnts_take_le hcn a i
  refine WC.seq (fun K8 hK8 => ?_)
  refine WC.rr tbk hs7 [] rfl trivial ?_
  refine WC.cond rfl (fun h9 => ?_) (fun h9 => ?_)
  ·have qh9 := h9
   try simp only [bf, within_iff, within_not] at qh9
   have hg := mrkTo_gat (mk := mkEAct) (c := cntEAct) (F := encActR) (k := k) (xs := a) (i := i) (by omega)
   have hq2 := cnts_take (c := cntEAct) (F := encActR) (xs := a) (i := i) (by omega)
   have hq3 := cnts_take_le hcn a (i + 1)
   have hq4 := hq2
   simp only [cntEAct, ← hg] at hq4
   have hgn : (gat encActR (mrkTo mkEAct cntEAct k a i) i) = gat encActR a i := hg
   refine WC.skip ?_
   refine hK8 _ _ ?_
   refine WC.seq (fun K10 hK10 => ?_)
   refine WC.block ?_
   refine WC.sr ?_
   refine WL.run tbk 3 hs7 [] rfl trivial ?_
   refine WL.val rfl rfl rfl (Run.idxN Try.runUnderlying53 Try.sizeOf44 rfl rfl rfl ?_ ?_ ?_) ?_
   · exact SlF.some_ (OwnN.sl ho6 (fun p_ hp_ => (hs7.own p_ (List.mem_append_left _ hp_)).1))
   · omega
   · omega
   refine WL.val rfl rfl rfl (Run.fieldO Try.runUnderlying44 rfl rfl rfl Try.sizeOf3 rfl) ?_
   obtain ⟨L11, L12, hs15, ho13, ho14⟩ := OwnN.open_ hs7 ho6
   refine WL.storeF (x' := ⟨(k + cnts cntEAct (a.take i)), (gat encActR (mrkTo mkEAct cntEAct k a i) i).R, (gat encActR (mrkTo mkEAct cntEAct k a i) i).Mark, (gat encActR (mrkTo mkEAct cntEAct k a i) i).Args⟩) hs15 ho13 Try.sizeOf3 rfl rfl rfl rfl rfl rfl rfl rfl rfl ?_ (by first | rfl | (rw [gat_set (by (try simp only [List.length_set]); omega) rfl]; rfl)) (fun L16 whs17 hs17 ho18 _ => ?_)
   · omega
   refine WL.nil ?_
   refine WC.rr tbk hs17 [] rfl ⟨by omega, trivial⟩ ?_
   refine WC.sr ?_
   refine WL.run tbk 3 hs17 [] rfl trivial ?_
   refine WL.val rfl rfl rfl (Run.idxN Try.runUnderlying53 Try.sizeOf44 rfl rfl rfl ?_ ?_ ?_) ?_
   · exact SlF.some_ (SlF.ofOwn ho18 (fun p_ hp_ => (hs17.own p_ (List.mem_append_left _ hp_)).1))
   · omega
   · omega
   refine WL.val rfl rfl rfl (Run.fieldO Try.runUnderlying44 rfl rfl rfl Try.sizeOf3 rfl) ?_
   refine WL.storeF (x' := ⟨(k + cnts cntEAct (a.take i)), ((k + cnts cntEAct (a.take i)) + 1), (gat encActR (mrkTo mkEAct cntEAct k a i) i).Mark, (gat encActR (mrkTo mkEAct cntEAct k a i) i).Args⟩) hs17 ho18 Try.sizeOf3 rfl rfl rfl rfl rfl rfl rfl rfl rfl ?_ (by first | rfl | (rw [gat_set (by (try simp only [List.length_set]); omega) rfl]; rfl)) (fun L19 whs20 hs20 ho21 _ => ?_)
   · omega
   refine WL.nil ?_
   refine WC.rr tbk hs20 [] rfl ⟨by omega, trivial⟩ ?_
   refine WC.sr ?_
   refine WL.run tbk 3 hs20 [] rfl trivial ?_
   refine WL.val rfl rfl rfl (Run.rem rfl rfl rfl ?_ ?_) ?_
   · omega
   · omega
   refine WL.run tbk 1 hs20 [] rfl trivial ?_
   refine WL.val rfl rfl rfl (Run.idxN Try.runUnderlying53 Try.sizeOf44 rfl rfl rfl ?_ ?_ ?_) ?_
   · exact SlF.some_ (SlF.ofOwn ho21 (fun p_ hp_ => (hs20.own p_ (List.mem_append_left _ hp_)).1))
   · omega
   · omega
   refine WL.val rfl rfl rfl (Run.fieldO Try.runUnderlying44 rfl rfl rfl Try.sizeOf4 rfl) ?_
   refine WL.storeF (x' := ⟨(k + cnts cntEAct (a.take i)), ((k + cnts cntEAct (a.take i)) + 1), decide ((((k + cnts cntEAct (a.take i)) + 1) + 1) % 3 = 0), (gat encActR (mrkTo mkEAct cntEAct k a i) i).Args⟩) hs20 ho21 Try.sizeOf4 rfl rfl rfl rfl rfl rfl rfl rfl rfl ?_ (by first | rfl | (rw [gat_set (by (try simp only [List.length_set]); omega) rfl]; rfl)) (fun L22 whs23 hs23 ho24 _ => ?_)
   · omega
   refine WL.nil ?_
   refine WC.rr tbk hs23 [] rfl ⟨by omega, trivial⟩ ?_
   refine WC.region ?_
   refine WL.run tbk 2 hs23 [] rfl trivial ?_
   refine WL.val rfl rfl rfl (Run.idxN Try.runUnderlying53 Try.sizeOf44 rfl rfl rfl ?_ ?_ ?_) ?_
   · exact SlF.some_ (SlF.ofOwn ho24 (fun p_ hp_ => (hs23.own p_ (List.mem_append_left _ hp_)).1))
   · omega
   · omega
   refine WL.val rfl rfl rfl (Run.fieldO Try.runUnderlying44 rfl rfl rfl Try.sizeOf22 rfl) ?_
   refine WL.val rfl rfl rfl (Run.load Try.isAgg22 rfl rfl (SlF.fld (v := .slice (gat encActR (mrkTo mkEAct cntEAct k a i) i).Args.A (gat encActR (mrkTo mkEAct cntEAct k a i) i).Args.n (gat encActR (mrkTo mkEAct cntEAct k a i) i).Args.c) (SlF.ofOwn ho24 (fun p_ hp_ => (hs23.own p_ (List.mem_append_left _ hp_)).1)) ?_ ?_)) ?_
   · omega
   · first | rfl | (rw [gat_set (by (try simp only [List.length_set]); omega) rfl]; rfl)
   refine WL.run tbk 1 hs23 [] rfl trivial ?_
   obtain ⟨L26, L27, L28, hs29, ho30, hp31⟩ := Bag.out (F := encActR) (i := i) (St.perm hs23 (L' := L12 ++ _) (perm_front (A := L22) (List.Perm.refl _))) ho14 (by rw [mrkTo_len (by omega)]; omega)
   refine WL.call rfl rfl rfl (Run.call Try.call75 rfl rfl rfl) (c_laws_markIntS _ _ _ _ _ ho30 (fun p_ hp_ => (hs29.own p_ (List.mem_append_left _ hp_)).1) ?_ ?_ ?_) ?_
   · first | assumption | rfl | omega
   · first | assumption | rfl | omega
   · first | assumption | rfl | omega
   rintro _ whs25 ⟨L1_32, rfl, hs25, ho33⟩
   replace hs25 := St.lend hs29 hs25
   refine ⟨_, rfl, ?_⟩
   refine WL.run tbk 1 hs25 [] rfl trivial ?_
   refine WL.nil ?_
   refine hK10 _ _ ?_
   refine WC.region ?_
   refine WL.run tbk 3 hs25 [] rfl ⟨by omega, trivial⟩ ?_
   refine WL.nil ?_
   refine tkN ?_
   obtain ⟨L34, hs35, hb36⟩ := hp31 (mkEAct (k + cnts cntEAct (a.take i)) (gat encActR a i)) _ (St.perm (St.perm hs25 (L' := (L26 ++ L28) ++ _) (perm_front (A := L1_32) (List.Perm.refl _))) (L' := L1_32 ++ _) (perm_front (A := (L26 ++ L28)) (List.Perm.refl _))) (by have h_ := ho33; first | exact h_ | (simp only [hg] at h_; exact h_))
   rw [mrkTo_set (F := encActR) (by omega) rfl] at hb36
   have ho37 := OwnF.recast (ys := mrkTo mkEAct cntEAct k a (i + 1)) ho24 (by rw [mrkTo_len (by omega)]; (try simp only [List.length_set]); exact hfl.symm) (by rw [← mrkTo_set (F := encActR) (i := i) (by omega) rfl]; try simp only [List.set_set]; exact rows_set_enc (by first | rfl | (simp only [gat_set, hg]; rfl)))
   obtain ⟨L39, hs38, ho40⟩ := OwnN.fold (St.perm hs35 (L' := L22 ++ _) (perm_front (A := L34) (List.Perm.refl _))) ho37 hb36
   refine ⟨⟨rfl, trivial⟩, _, hs38, _, ?_, i + 1, rfl, ?_, ho40, ⟨rfl, rfl, ?_, trivial⟩⟩
   · omega
   · omega
   · (refine congrArg some (congrArg (Value.int _) ?_); rw [cnts_take (F := encActR) (by omega)]; simp only [cntEAct, hg]; omega)
  ·have qh9 := h9
   try simp only [bf, within_iff, within_not] at qh9
   refine WC.exit ?_
   refine hK2 _ _ ?_
   refine WC.rr tbk hs7 [] rfl trivial ?_
   refine WC.ret ?_
   refine retV1 rfl (resV.tmp rfl) ?_
   have hi_ : i = a.length := by omega
   have hx_ := ho6
   rw [mrkTo_full (by omega)] at hx_
   refine ⟨_, ?_, (St.keep1 hs7), hx_⟩
   rw [hi_, List.take_of_length_le (Nat.le_refl _)]
theorem c_laws_heldActS (A_a : Option Addr) (n_a c_a : Nat) (a : List ActR) (k : Int) (w : World) (f_a : SlN encActR (okActR 549755813888) w A_a n_a (mrks mkEAct cntEAct k a)) (h1 : 0 ≤ k) (h2 : k + cnts cntEAct a ≤ 549755813888) (h3 : n_a ≤ 549755813888) :
    Calls Try.prog 34 #[.slice A_a n_a c_a, i64 k] w fun e w' => e = .returned (.int .i64 (k + cnts cntEAct a)) ∧ St w [] [] w' := by
 have hl : a.length = n_a := by have h_ := f_a.sl.len; simpa [mrks_len] using h_
 have hcn : ∀ x, 0 ≤ cntEAct x := fun x => by simp only [cntEAct]; omega
 refine enter (vs := [.slice A_a n_a c_a, i64 k]) 51 Try.func34 rfl Try.ntmps34 rfl rfl ?_
 have hs1 := St.init w
 refine WC.rr tbk hs1 [] rfl trivial ?_
 refine WC.seq (fun K2 hK2 => ?_)
 refine WC.rr tbk hs1 [] rfl trivial ?_
 refine WC.block ?_
 refine WC.loopS [(0, _)] ⟨rfl, trivial⟩ hs1 (fun k_ f w' => ∃ (i : Nat), k_ = n_a - i ∧ (i ≤ n_a) ∧ Sub [(5, .int .i64 i), (1, .int .i64 (k + cnts cntEAct (a.take i)))] f) ((fun (i : Nat) => n_a - i) (0)) ?_ ?_
 ·refine ⟨0, rfl, ?_, ⟨rfl, ?_, trivial⟩⟩
  · exact Nat.zero_le _
  · (refine congrArg some (congrArg (Value.int _) ?_); simp [cnts])
 ·clear hs1
  rintro _ f w ⟨i, rfl, p0, hG⟩ hF hs3
  refine WC.sub _ (hG.app hF) ?_
  clear hG hF
  have hq0 := cnts_nonneg (c := cntEAct) hcn (a.take i)
  have hq1 := cnts_take_le hcn a i
  refine WC.seq (fun K4 hK4 => ?_)
  refine WC.rr tbk hs3 [] rfl trivial ?_
  refine WC.cD rfl (fun qh5 => ?_) (fun qh5 => ?_)
  ·have hg := mrks_gat (mk := mkEAct) (c := cntEAct) (F := encActR) (k := k) (xs := a) (i := i) (by omega)
   have hq2 := cnts_take (c := cntEAct) (F := encActR) (xs := a) (i := i) (by omega)
   have hq3 := cnts_take_le hcn a (i + 1)
   simp only [cntEAct] at hq2
   have hng := (SlN.nth f_a (show i < n_a by omega))
   rw [hg] at hng
   have hnl_Args := hng.Args.len
   have hnn_Args := hng.Args_n
   simp only [mkEAct, marks_len, mrks_len] at hnl_Args hnn_Args
   have hgn_Args : (gat encActR (mrks mkEAct cntEAct k a) i).Args.n = (gat encActR a i).Args.n := by rw [hg]; rfl
   have hm_Args : (gat encActR (mrks mkEAct cntEAct k a) i).Args.xs = marks (fun k => k) 1 ((((k + cnts cntEAct (a.take i)) + 1) + 1) + 1) (gat encActR a i).Args.xs.length := by rw [hg]; rfl
   refine WC.skip ?_
   refine hK4 _ _ ?_
   refine WC.seq (fun K6 hK6 => ?_)
   refine WC.block ?_
   refine WC.seq (fun K7 hK7 => ?_)
   refine WC.sr ?_
   refine WL.run tbk 2 hs3 [] rfl trivial ?_
   refine WL.val rfl rfl rfl (Run.idxN Try.runUnderlying53 Try.sizeOf44 rfl rfl rfl ?_ ?_ ?_) ?_
   · exact SlF.some_ (SlF.st0 f_a.sl hs3)
   · omega
   · omega
   refine WL.val rfl rfl rfl (Run.fieldO Try.runUnderlying44 rfl rfl rfl Try.sizeOf3 rfl) ?_
   refine WL.val rfl rfl rfl (Run.load Try.isAgg3 rfl rfl (SlF.fld (SlF.st0 f_a.sl hs3) ?_ rfl)) ?_
   · omega
   refine WL.run tbk 2 hs3 [] rfl trivial ?_
   refine WL.nil ?_
   refine WC.condF rfl (by simp [hg, mkEAct]) ?_
   refine WC.skip ?_
   refine hK7 _ _ ?_
   refine WC.rr tbk hs3 [] rfl ⟨by omega, trivial⟩ ?_
   refine WC.seq (fun K9 hK9 => ?_)
   refine WC.sr ?_
   refine WL.run tbk 2 hs3 [] rfl trivial ?_
   refine WL.val rfl rfl rfl (Run.idxN Try.runUnderlying53 Try.sizeOf44 rfl rfl rfl ?_ ?_ ?_) ?_
   · exact SlF.some_ (SlF.st0 f_a.sl hs3)
   · omega
   · omega
   refine WL.val rfl rfl rfl (Run.fieldO Try.runUnderlying44 rfl rfl rfl Try.sizeOf3 rfl) ?_
   refine WL.val rfl rfl rfl (Run.load Try.isAgg3 rfl rfl (SlF.fld (SlF.st0 f_a.sl hs3) ?_ rfl)) ?_
   · omega
   refine WL.run tbk 2 hs3 [] rfl trivial ?_
   refine WL.nil ?_
   refine WC.condF rfl (by simp [hg, mkEAct]) ?_
   refine WC.skip ?_
   refine hK9 _ _ ?_
   refine WC.rr tbk hs3 [] rfl ⟨by omega, trivial⟩ ?_
   refine WC.seq (fun K11 hK11 => ?_)
   refine WC.sr ?_
   refine WL.run tbk 2 hs3 [] rfl trivial ?_
   refine WL.val rfl rfl rfl (Run.idxN Try.runUnderlying53 Try.sizeOf44 rfl rfl rfl ?_ ?_ ?_) ?_
   · exact SlF.some_ (SlF.st0 f_a.sl hs3)
   · omega
   · omega
   refine WL.val rfl rfl rfl (Run.fieldO Try.runUnderlying44 rfl rfl rfl Try.sizeOf4 rfl) ?_
   refine WL.val rfl rfl rfl (Run.load Try.isAgg4 rfl rfl (SlF.fld (SlF.st0 f_a.sl hs3) ?_ rfl)) ?_
   · omega
   refine WL.run tbk 1 hs3 [] rfl trivial ?_
   refine WL.val rfl rfl rfl (Run.rem rfl rfl rfl ?_ ?_) ?_
   · omega
   · omega
   refine WL.run tbk 2 hs3 [] rfl trivial ?_
   refine WL.nil ?_
   refine WC.condF rfl (by simp [hg, mkEAct]) ?_
   refine WC.skip ?_
   refine hK11 _ _ ?_
   refine WC.rr tbk hs3 [] rfl ⟨by omega, trivial⟩ ?_
   refine WC.sr ?_
   refine WL.run tbk 2 hs3 [] rfl trivial ?_
   refine WL.val rfl rfl rfl (Run.idxN Try.runUnderlying53 Try.sizeOf44 rfl rfl rfl ?_ ?_ ?_) ?_
   · exact SlF.some_ (SlF.st0 f_a.sl hs3)
   · omega
   · omega
   refine WL.val rfl rfl rfl (Run.fieldO Try.runUnderlying44 rfl rfl rfl Try.sizeOf22 rfl) ?_
   refine WL.val rfl rfl rfl (Run.load Try.isAgg22 rfl rfl (SlF.fld (SlF.st0 f_a.sl hs3) ?_ rfl)) ?_
   · omega
   refine WL.run tbk 1 hs3 [] rfl trivial ?_
   refine WL.call rfl rfl rfl (Run.call Try.call76 rfl rfl rfl) (c_laws_heldIntS _ _ _ _ _ _ _ (SlF.st0 (SlN.nth f_a (by omega)).Args hs3) hm_Args ?_ ?_ ?_) ?_
   · first | assumption | rfl | omega
   · first | assumption | rfl | omega
   · first | assumption | rfl | omega
   rintro _ whs13 ⟨rfl, hs13⟩
   replace hs13 := hs3.call0 hs13
   refine ⟨_, rfl, ?_⟩
   refine WL.run tbk 1 hs13 [] rfl trivial ?_
   refine WL.nil ?_
   refine WC.rr tbk hs13 [] rfl trivial ?_
   refine WC.condF rfl (by first | (simp [hg, mkEAct]; done) | (simp [hg, mkEAct]; omega)) ?_
   refine WC.skip ?_
   refine hK6 _ _ ?_
   refine WC.region ?_
   refine WL.run tbk 3 hs13 [] rfl ⟨by omega, trivial⟩ ?_
   refine WL.nil ?_
   refine tkN ?_
   refine ⟨⟨rfl, trivial⟩, hs13, _, ?_, i + 1, rfl, ?_, ⟨rfl, ?_, trivial⟩⟩
   · omega
   · omega
   · (refine congrArg some (congrArg (Value.int _) ?_); rw [cnts_take (F := encActR) (by omega)]; simp only [cntEAct]; omega)
  ·refine WC.exit ?_
   refine hK2 _ _ ?_
   refine WC.rr tbk hs3 [] rfl trivial ?_
   refine WC.ret ?_
   refine retV1 rfl (resV.tmp rfl) ?_
   refine ⟨congrArg Ending.returned ?_, hs3.nil⟩
   rw [show i = a.length from by omega, List.take_of_length_le (Nat.le_refl _)]
set_option maxHeartbeats 4000000 in
theorem c_laws_markGrid (a : GridR) (L_a : Hp) (k : Int) (w : World) (o_a : ownGridR a L_a) (h_a : ∀ p, p ∈ L_a → w.heap[p.1]? = some p.2) (hd_ : ((L_a).map (·.1)).Nodup) (h1 : 0 ≤ k) (h2 : endGrid k a ≤ 549755813888) :
    Calls Try.prog 96 #[.agg #[i64 a.W, i64 a.H, .slice a.Cells.A a.Cells.n a.Cells.c], i64 k] w fun e w' => ∃ L1, e = .returned (.int .i64 (endGrid k a)) ∧ St w (L_a.map (·.1)) L1 w' ∧ ownGridR (markGrid k a) L1 := by
 have hq2 := h2
 simp only [endGrid] at hq2
 refine enter (vs := [.agg #[i64 a.W, i64 a.H, .slice a.Cells.A a.Cells.n a.Cells.c], i64 k]) 10 Try.func96 rfl Try.ntmps96 rfl rfl ?_
 have hs1 := St.takes1 w L_a h_a hd_
 refine WC.sr ?_
 refine WL.bx hs1 rfl (fun b2 _ hs3 => ?_)
 refine WL.run tbk 1 hs3 [] rfl trivial ?_
 refine WL.nil ?_
 refine WC.sr ?_
 refine WL.run tbk 3 hs3 [0] rfl ⟨rfl, trivial⟩ ?_
 refine WL.call rfl rfl rfl (Run.call Try.call154 rfl rfl rfl) (c_laws_markCellS _ _ _ _ _ o_a (fun p_ hp_ => (hs3.own p_ (List.mem_append_right [_] (List.mem_append_left _ hp_))).1) ?_ ?_ ?_) ?_
 · first | (first | assumption | rfl | omega) | (simp only [endGrid]; omega)
 · first | (first | assumption | rfl | omega) | (simp only [endGrid]; omega)
 · first | (first | assumption | rfl | omega) | (simp only [endGrid]; omega)
 rintro _ whs4 ⟨L1_5, rfl, hs4, ho6⟩
 replace hs4 := St.lend (St.perm hs3 (L' := L_a ++ _) (perm_front (A := [_]) (List.Perm.refl _))) hs4
 refine ⟨_, rfl, ?_⟩
 replace hs4 := St.back [_] hs4
 refine WL.run tbk 1 hs4 [] rfl trivial ?_
 refine WL.nil ?_
 refine WC.rr tbk hs4 [] rfl trivial ?_
 refine WC.ret ?_
 refine retV1 rfl (resV.tmp rfl) ?_
 refine ⟨_, congrArg Ending.returned ?_, (St.keep1 (St.perm hs4 (L' := L1_5 ++ _) (perm_front (A := [_]) (List.Perm.refl _)))), ho6⟩
 first | rfl | (simp [endGrid]; done) | (simp [endGrid]; omega)
set_option maxHeartbeats 4000000 in
theorem c_laws_heldGrid (a : GridR) (k : Int) (w : World) (f_a : okGridR 549755813888 w (markGrid k a)) (h1 : 0 ≤ k) (h2 : endGrid k a ≤ 549755813888) :
    Calls Try.prog 98 #[.agg #[i64 a.W, i64 a.H, .slice a.Cells.A a.Cells.n a.Cells.c], i64 k] w fun e w' => e = .returned (.int .i64 (endGrid k a)) ∧ St w [] [] w' := by
 have nb_Cells : a.Cells.n ≤ 549755813888 := f_a.Cells_n
 have nl_Cells : a.Cells.xs.length = a.Cells.n := by have h_ := f_a.Cells.len; simpa [markGrid, marks_len, mrks_len] using h_
 have nb_Cells : a.Cells.n ≤ 549755813888 := f_a.Cells_n
 have nl_Cells : a.Cells.xs.length = a.Cells.n := by have h_ := f_a.Cells.len; simpa [markGrid, marks_len, mrks_len] using h_
 have hq2 := h2
 simp only [endGrid] at hq2
 refine enter (vs := [.agg #[i64 a.W, i64 a.H, .slice a.Cells.A a.Cells.n a.Cells.c], i64 k]) 12 Try.func98 rfl Try.ntmps98 rfl rfl ?_
 have hs1 := St.init w
 refine WC.sr ?_
 refine WL.bx hs1 rfl (fun b2 _ hs3 => ?_)
 refine WL.run tbk 1 hs3 [] rfl trivial ?_
 refine WL.nil ?_
 refine WC.sr ?_
 refine WL.run tbk 3 hs3 [0] rfl ⟨rfl, trivial⟩ ?_
 refine WL.call rfl rfl rfl (Run.call Try.call155 rfl rfl rfl) (c_laws_heldCellS _ _ _ _ _ _ _ (SlF.st0 f_a.Cells hs3) rfl ?_ ?_ ?_) ?_
 · first | (first | assumption | rfl | omega) | (simp only [endGrid]; omega)
 · first | (first | assumption | rfl | omega) | (simp only [endGrid]; omega)
 · first | (first | assumption | rfl | omega) | (simp only [endGrid]; omega)
 rintro _ whs4 ⟨rfl, hs4⟩
 replace hs4 := hs3.call0 hs4
 refine ⟨_, rfl, ?_⟩
 refine WL.run tbk 1 hs4 [] rfl trivial ?_
 refine WL.nil ?_
 refine WC.seq (fun K5 hK5 => ?_)
 refine WC.rr tbk hs4 [] rfl trivial ?_
 refine WC.condF rfl (by first | (simp; omega) | (rw [decide_eq_false_iff_not]; simp only [endGrid]; omega)) ?_
 refine WC.skip ?_
 refine hK5 _ _ ?_
 refine WC.rr tbk hs4 [] rfl trivial ?_
 refine WC.ret ?_
 refine retV1 rfl (resV.tmp rfl) ?_
 refine ⟨congrArg Ending.returned ?_, hs4.nil⟩
 first | rfl | (simp [endGrid, *]; done) | (simp [endGrid, *]; omega)
set_option maxHeartbeats 4000000 in
theorem c_laws_markVp (a : VpR) (L_a : Hp) (k : Int) (w : World) (o_a : ownVpR a L_a) (h_a : ∀ p, p ∈ L_a → w.heap[p.1]? = some p.2) (hd_ : ((L_a).map (·.1)).Nodup) (h1 : 0 ≤ k) (h2 : endVp k a ≤ 549755813888) :
    Calls Try.prog 23 #[.agg #[i64 a.State, .bool a.Mark, .slice a.Args.A a.Args.n a.Args.c, .slice a.Part.A a.Part.n a.Part.c], i64 k] w fun e w' => ∃ L1, e = .returned (.int .i64 (endVp k a)) ∧ St w (L_a.map (·.1)) L1 w' ∧ ownVpR (markVp k a) L1 := by
 have hq2 := h2
 simp only [endVp] at hq2
 refine enter (vs := [.agg #[i64 a.State, .bool a.Mark, .slice a.Args.A a.Args.n a.Args.c, .slice a.Part.A a.Part.n a.Part.c], i64 k]) 14 Try.func23 rfl Try.ntmps23 rfl rfl ?_
 have hs1 := St.takes1 w L_a h_a hd_
 refine WC.sr ?_
 refine WL.bx hs1 rfl (fun b2 _ hs3 => ?_)
 refine WL.run tbk 1 hs3 [] rfl trivial ?_
 refine WL.nil ?_
 refine WC.sr ?_
 refine WL.run tbk 3 hs3 [0] rfl ⟨rfl, trivial⟩ ?_
 obtain ⟨L5, L6, hs9, ho7, ho8⟩ := ownVpR.open_ (St.perm hs3 (L' := L_a ++ _) (perm_front (A := [_]) (List.Perm.refl _))) o_a
 have hs10 := (St.perm hs9 (L' := [_] ++ _) (perm_front (A := L5) (perm_front (A := L6) (List.Perm.refl _))))
 refine WL.call rfl rfl rfl (Run.call Try.call75 rfl rfl rfl) (c_laws_markIntS _ _ _ _ _ ho7 (fun p_ hp_ => (hs10.own p_ (List.mem_append_right [_] (List.mem_append_left _ hp_))).1) ?_ ?_ ?_) ?_
 · first | (first | assumption | rfl | omega) | (simp only [endVp]; omega)
 · first | (first | assumption | rfl | omega) | (simp only [endVp]; omega)
 · first | (first | assumption | rfl | omega) | (simp only [endVp]; omega)
 rintro _ whs4 ⟨L1_11, rfl, hs4, ho12⟩
 replace hs4 := St.lend (St.perm hs10 (L' := L5 ++ _) (perm_front (A := [_]) (List.Perm.refl _))) hs4
 refine ⟨_, rfl, ?_⟩
 replace hs4 := St.back [_] hs4
 refine WL.run tbk 1 hs4 [] rfl trivial ?_
 refine WL.nil ?_
 refine WC.sr ?_
 refine WL.run tbk 3 hs4 [0] rfl ⟨rfl, trivial⟩ ?_
 refine WL.call rfl rfl rfl (Run.call Try.call32 rfl rfl rfl) (c_laws_markByteS _ _ _ _ _ ho8 (fun p_ hp_ => (hs4.own p_ (List.mem_append_right [_] (List.mem_append_right _ (List.mem_append_left _ hp_)))).1) ?_ ?_ ?_) ?_
 · first | (first | assumption | rfl | omega) | (simp only [endVp]; omega)
 · first | (first | assumption | rfl | omega) | (simp only [endVp]; omega)
 · first | (first | assumption | rfl | omega) | (simp only [endVp]; omega)
 rintro _ whs13 ⟨L1_14, rfl, hs13, ho15⟩
 replace hs13 := St.lend (St.perm hs4 (L' := L6 ++ _) (perm_front (A := [_]) (perm_front (A := L1_11) (List.Perm.refl _)))) hs13
 refine ⟨_, rfl, ?_⟩
 replace hs13 := St.back [_] hs13
 refine WL.run tbk 1 hs13 [] rfl trivial ?_
 refine WL.nil ?_
 refine WC.rr tbk hs13 [] rfl trivial ?_
 refine WC.ret ?_
 refine retV1 rfl (resV.tmp rfl) ?_
 obtain ⟨L17, hs16, ho18⟩ := ownVpR.fold ⟨0, false, ⟨_, _, _, _⟩, ⟨_, _, _, _⟩⟩ (St.perm (St.perm hs13 (L' := L1_14 ++ _) (perm_front (A := [_]) (List.Perm.refl _))) (L' := L1_11 ++ _) (perm_front (A := L1_14) (perm_front (A := [_]) (List.Perm.refl _)))) ho12 ho15
 have hs19 := (St.perm hs16 (L' := [_] ++ _) (perm_front (A := L17) (List.Perm.refl _)))
 refine ⟨_, congrArg Ending.returned ?_, (St.keep1 (St.perm hs19 (L' := L17 ++ _) (perm_front (A := [_]) (List.Perm.refl _)))), (by exact ho18)⟩
 first | rfl | (simp [endVp]; done) | (simp [endVp]; omega)
set_option maxHeartbeats 4000000 in
theorem c_laws_heldVp (a : VpR) (k : Int) (w : World) (f_a : okVpR 549755813888 w (markVp k a)) (h1 : 0 ≤ k) (h2 : endVp k a ≤ 549755813888) :
    Calls Try.prog 25 #[.agg #[i64 a.State, .bool a.Mark, .slice a.Args.A a.Args.n a.Args.c, .slice a.Part.A a.Part.n a.Part.c], i64 k] w fun e w' => e = .returned (.int .i64 (endVp k a)) ∧ St w [] [] w' := by
 have nb_Args : a.Args.n ≤ 549755813888 := f_a.Args_n
 have nl_Args : a.Args.xs.length = a.Args.n := by have h_ := f_a.Args.len; simpa [markVp, marks_len, mrks_len] using h_
 have nb_Part : a.Part.n ≤ 549755813888 := f_a.Part_n
 have nl_Part : a.Part.xs.length = a.Part.n := by have h_ := f_a.Part.len; simpa [markVp, marks_len, mrks_len] using h_
 have nb_Args : a.Args.n ≤ 549755813888 := f_a.Args_n
 have nl_Args : a.Args.xs.length = a.Args.n := by have h_ := f_a.Args.len; simpa [markVp, marks_len, mrks_len] using h_
 have nb_Part : a.Part.n ≤ 549755813888 := f_a.Part_n
 have nl_Part : a.Part.xs.length = a.Part.n := by have h_ := f_a.Part.len; simpa [markVp, marks_len, mrks_len] using h_
 have hq2 := h2
 simp only [endVp] at hq2
 refine enter (vs := [.agg #[i64 a.State, .bool a.Mark, .slice a.Args.A a.Args.n a.Args.c, .slice a.Part.A a.Part.n a.Part.c], i64 k]) 18 Try.func25 rfl Try.ntmps25 rfl rfl ?_
 have hs1 := St.init w
 refine WC.sr ?_
 refine WL.bx hs1 rfl (fun b2 _ hs3 => ?_)
 refine WL.run tbk 1 hs3 [] rfl trivial ?_
 refine WL.nil ?_
 refine WC.sr ?_
 refine WL.run tbk 3 hs3 [0] rfl ⟨rfl, trivial⟩ ?_
 refine WL.call rfl rfl rfl (Run.call Try.call76 rfl rfl rfl) (c_laws_heldIntS _ _ _ _ _ _ _ (SlF.st0 f_a.Args hs3) rfl ?_ ?_ ?_) ?_
 · first | (first | assumption | rfl | omega) | (simp only [endVp]; omega)
 · first | (first | assumption | rfl | omega) | (simp only [endVp]; omega)
 · first | (first | assumption | rfl | omega) | (simp only [endVp]; omega)
 rintro _ whs4 ⟨rfl, hs4⟩
 replace hs4 := hs3.call0 hs4
 refine ⟨_, rfl, ?_⟩
 refine WL.run tbk 1 hs4 [] rfl trivial ?_
 refine WL.nil ?_
 refine WC.seq (fun K5 hK5 => ?_)
 refine WC.rr tbk hs4 [] rfl trivial ?_
 refine WC.condF rfl (by first | (simp; omega) | (rw [decide_eq_false_iff_not]; simp only [endVp]; omega)) ?_
 refine WC.skip ?_
 refine hK5 _ _ ?_
 refine WC.sr ?_
 refine WL.run tbk 3 hs4 [0] rfl ⟨rfl, trivial⟩ ?_
 refine WL.call rfl rfl rfl (Run.call Try.call58 rfl rfl rfl) (c_laws_heldByteS _ _ _ _ _ _ _ (SlF.st0 f_a.Part hs4) rfl ?_ ?_ ?_) ?_
 · first | (first | assumption | rfl | omega) | (simp only [endVp]; omega)
 · first | (first | assumption | rfl | omega) | (simp only [endVp]; omega)
 · first | (first | assumption | rfl | omega) | (simp only [endVp]; omega)
 rintro _ whs7 ⟨rfl, hs7⟩
 replace hs7 := hs4.call0 hs7
 refine ⟨_, rfl, ?_⟩
 refine WL.run tbk 1 hs7 [] rfl trivial ?_
 refine WL.nil ?_
 refine WC.seq (fun K8 hK8 => ?_)
 refine WC.rr tbk hs7 [] rfl trivial ?_
 refine WC.condF rfl (by first | (simp; omega) | (rw [decide_eq_false_iff_not]; simp only [endVp]; omega)) ?_
 refine WC.skip ?_
 refine hK8 _ _ ?_
 refine WC.rr tbk hs7 [] rfl trivial ?_
 refine WC.ret ?_
 refine retV1 rfl (resV.tmp rfl) ?_
 refine ⟨congrArg Ending.returned ?_, hs7.nil⟩
 first | rfl | (simp [endVp, *]; done) | (simp [endVp, *]; omega)
end Go.Proofs.Ytlmcekfdlgkffaa
