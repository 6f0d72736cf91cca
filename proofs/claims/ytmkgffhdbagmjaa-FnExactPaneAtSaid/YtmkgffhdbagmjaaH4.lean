/- Walks of Go functions, printed by a program (wip/gen). -/
import Derived.Test.YtmkgffhdbagmjaaH3
namespace Go.Proofs.Ytmkgffhdbagmjaa
open Go Go.RowKit
set_option linter.unusedVariables false
set_option linter.unusedSimpArgs false
theorem info_51 : Try.prog.info? 51 = some Try.t51 := by kernel_rfl
theorem info_90 : Try.prog.info? 90 = some Try.t90 := by kernel_rfl
theorem info_95 : Try.prog.info? 95 = some Try.t95 := by kernel_rfl
theorem c_laws_szPaneS (A_a : Option Addr) (n_a c_a : Nat) (a : List PaneR) (left : Int) (w : World) (f_a : SlN encPaneR (okPaneR 9223372036854775807) w A_a n_a a) (h1 : 0 ≤ left) (h2 : left ≤ 1048576) (h3 : n_a ≤ 9223372036854775807) :
    Calls Try.prog 32 #[.slice A_a n_a c_a, i64 left] w fun e w' => e = .returned (.int .i64 (szR left (tots totPane (a.map PaneR.dat)))) ∧ St w [] [] w' := by
 have hl := f_a.sl.len
 have hT : (tots totPane (a.map PaneR.dat) : Int) = n_a + (a.map (fun x => totPane (PaneR.dat x))).sum := by rw [tots_map, hl]; omega
 refine enter (vs := [.slice A_a n_a c_a, i64 left]) 27 Try.func32 rfl Try.ntmps32 rfl rfl ?_
 have hs1 := St.init w
 refine WC.rr tbk hs1 [] rfl trivial ?_
 refine WC.rr tbk hs1 [] rfl ⟨by omega, trivial⟩ ?_
 refine WC.seq (fun K2 hK2 => ?_)
 refine WC.rr tbk hs1 [] rfl trivial ?_
 refine WC.cD rfl (fun qh3 => ?_) (fun qh3 => ?_)
 ·refine WC.rr tbk hs1 [] rfl trivial ?_
  refine WC.ret ?_
  refine tkR ?_
  clear hK2
  refine retV1 rfl (resV.tmp rfl) ?_
  refine ⟨congrArg Ending.returned ?_, hs1.nil⟩
  rw [szR_lt (by omega)]
 ·refine WC.skip ?_
  refine hK2 _ _ ?_
  refine WC.seq (fun K4 hK4 => ?_)
  refine WC.rr tbk hs1 [] rfl trivial ?_
  refine WC.block ?_
  refine WC.loopS [(0, _), (6, _), (7, _), (8, _), (9, _), (10, _), (11, _)] ⟨rfl, rfl, rfl, rfl, rfl, rfl, rfl, trivial⟩ hs1 (fun k_ f w' => ∃ (i : Nat) (q : Int), k_ = n_a - i ∧ (i ≤ n_a) ∧ (0 ≤ q) ∧ (q + n_a + ((a.take i).map (fun x => totPane (PaneR.dat x))).sum = left) ∧ Sub [(5, .int .i64 i), (1, .int .i64 q)] f) ((fun (i : Nat) (q : Int) => n_a - i) (0) ((left - n_a))) ?_ ?_
  ·refine ⟨0, (left - n_a), rfl, ?_, ?_, ?_, ⟨rfl, rfl, trivial⟩⟩
   · exact Nat.zero_le _
   · omega
   · simp
  ·clear hs1
   rintro _ f w ⟨i, q, rfl, p0, p1, p2, hG⟩ hF hs5
   refine WC.sub _ (hG.app hF) ?_
   clear hG hF
   refine WC.seq (fun K6 hK6 => ?_)
   refine WC.rr tbk hs5 [] rfl trivial ?_
   refine WC.cD rfl (fun qh7 => ?_) (fun qh7 => ?_)
   ·have hs1 := sum_take (F := encPaneR) (f := (fun x => totPane (PaneR.dat x))) (l := a) (i := i) (by omega)
    have hs2 := sum_take_le (f := (fun x => totPane (PaneR.dat x))) a (i + 1)
    refine WC.skip ?_
    refine hK6 _ _ ?_
    refine WC.seq (fun K8 hK8 => ?_)
    refine WC.block ?_
    refine WC.sr ?_
    refine WL.run tbk 2 hs5 [] rfl trivial ?_
    refine WL.val rfl rfl rfl (Run.idxN Try.runUnderlying55 Try.sizeOf37 rfl rfl rfl ?_ ?_ ?_) ?_
    · exact SlF.some_ (SlF.st0 f_a.sl hs5)
    · omega
    · omega
    refine WL.val rfl rfl rfl (Run.loadA Try.isAgg37 Try.sizeOf37 rfl rfl (SlF.whole (SlF.st0 f_a.sl hs5) ?_)) ?_
    · omega
    refine WL.run tbk 1 hs5 [] rfl trivial ?_
    refine WL.call rfl rfl rfl (Run.call Try.call8 rfl rfl rfl) (c_laws_szPane (gat encPaneR a i) _ _ (okPaneR.st0 (SlN.nth f_a (by omega)) hs5) ?_ ?_) ?_
    · first | assumption | omega
    · first | assumption | omega | exact szR_b (by assumption) (by omega) (by first | assumption | omega)
    rintro _ whs9 ⟨rfl, hs9⟩
    replace hs9 := hs5.call0 hs9
    refine ⟨_, rfl, ?_⟩
    refine WL.run tbk 1 hs9 [] rfl trivial ?_
    refine WL.nil ?_
    refine WC.rr tbk hs9 [] rfl trivial ?_
    refine WC.cD rfl (fun qh10 => ?_) (fun qh10 => ?_)
    ·refine WC.rr tbk hs9 [] rfl trivial ?_
     refine WC.ret ?_
     refine ibR (tkR (tkR (ibR (tkR ?_))))
     clear hK8 hK4
     refine retV1 rfl (resV.tmp rfl) ?_
     refine ⟨congrArg Ending.returned ?_, hs9.nil⟩
     have h9 := szR_no qh10
     rw [szR_lt (by omega)]
    ·refine WC.skip ?_
     refine hK8 _ _ ?_
     refine WC.region ?_
     refine WL.run tbk 3 hs9 [] rfl ⟨by omega, trivial⟩ ?_
     refine WL.nil ?_
     refine tkN ?_
     refine ⟨⟨rfl, rfl, rfl, rfl, rfl, rfl, rfl, trivial⟩, hs9, _, ?_, i + 1, _, rfl, ?_, ?_, ?_, ⟨rfl, rfl, trivial⟩⟩
     · omega
     · omega
     · omega
     · have h9 := szR_ok qh10 (Int.natCast_nonneg _); omega
   ·refine WC.exit ?_
    refine hK4 _ _ ?_
    refine WC.rr tbk hs5 [] rfl trivial ?_
    refine WC.ret ?_
    refine retV1 rfl (resV.tmp rfl) ?_
    refine ⟨congrArg Ending.returned ?_, hs5.nil⟩
    have h9 : a.take i = a := List.take_of_length_le (by omega)
    rw [h9] at p2
    rw [szR_le (by omega)]
    congr 1; omega
theorem c_laws_eqPaneS (A_a : Option Addr) (n_a c_a : Nat) (a : List PaneR) (A_b : Option Addr) (n_b c_b : Nat) (b : List PaneR) (w : World) (f_a : SlN encPaneR (okPaneR 549755813888) w A_a n_a a) (f_b : SlN encPaneR (okPaneR 549755813888) w A_b n_b b) (hn : n_a ≤ 549755813888) (hab : a.map PaneR.dat = b.map PaneR.dat) :
    Calls Try.prog 40 #[.slice A_a n_a c_a, .slice A_b n_b c_b] w fun e w' => e = .returned (.bool true) ∧ St w [] [] w' := by
 have hla := f_a.sl.len
 obtain rfl : n_a = n_b := by have h9 := congrArg List.length hab; simp only [List.length_map] at h9; rw [← hla, h9]; exact f_b.sl.len
 refine enter (vs := [.slice A_a n_a c_a, .slice A_b n_a c_b]) 27 Try.func40 rfl Try.ntmps40 rfl rfl ?_
 have hs1 := St.init w
 refine WC.rr tbk hs1 [] rfl trivial ?_
 refine WC.seq (fun K2 hK2 => ?_)
 refine WC.rr tbk hs1 [] rfl trivial ?_
 refine WC.condF rfl (by simp) ?_
 refine WC.skip ?_
 refine hK2 _ _ ?_
 refine WC.seq (fun K4 hK4 => ?_)
 refine WC.rr tbk hs1 [] rfl trivial ?_
 refine WC.block ?_
 refine WC.loopS [(0, _), (1, _), (6, _), (7, _), (8, _), (9, _), (10, _)] ⟨rfl, rfl, rfl, rfl, rfl, rfl, rfl, trivial⟩ hs1 (fun k_ f w' => ∃ (i : Nat), k_ = n_a - i ∧ (i ≤ n_a) ∧ Sub [(5, .int .i64 i)] f) ((fun (i : Nat) => n_a - i) (0)) ?_ ?_
 ·refine ⟨0, rfl, ?_, ⟨rfl, trivial⟩⟩
  · exact Nat.zero_le _
 ·clear hs1
  rintro _ f w ⟨i, rfl, p0, hG⟩ hF hs5
  refine WC.sub _ (hG.app hF) ?_
  clear hG hF
  refine WC.seq (fun K6 hK6 => ?_)
  refine WC.rr tbk hs5 [] rfl trivial ?_
  refine WC.cD rfl (fun qh7 => ?_) (fun qh7 => ?_)
  ·have hab_ := gat_dat (F := encPaneR) (i := i) hab (by omega)
   refine WC.skip ?_
   refine hK6 _ _ ?_
   refine WC.seq (fun K8 hK8 => ?_)
   refine WC.block ?_
   refine WC.sq hs5 mixed (by kernel_rfl) ?_
   refine WQ.run tbk 2 [] rfl trivial ?_
   refine WQ.val rfl rfl rfl (fun w_ hs_ => (Run.idxN Try.runUnderlying62 Try.sizeOf51 rfl rfl rfl ?_ ?_ ?_)) ?_
   · exact SlF.some_ (SlF.st0 f_a.sl (hs_ : St _ _ _ _))
   · omega
   · omega
   refine WQ.val rfl rfl rfl (fun w_ hs_ => (Run.loadA Try.isAgg51 Try.sizeOf51 rfl rfl (SlF.whole (SlF.st0 f_a.sl (hs_ : St _ _ _ _)) ?_))) ?_
   · omega
   refine WQ.run tbk 2 [] rfl trivial ?_
   refine WQ.val rfl rfl rfl (fun w_ hs_ => (Run.idxN Try.runUnderlying62 Try.sizeOf51 rfl rfl rfl ?_ ?_ ?_)) ?_
   · exact SlF.some_ (SlF.st0 f_b.sl (hs_ : St _ _ _ _))
   · omega
   · omega
   refine WQ.val rfl rfl rfl (fun w_ hs_ => (Run.loadA Try.isAgg51 Try.sizeOf51 rfl rfl (SlF.whole (SlF.st0 f_b.sl (hs_ : St _ _ _ _)) ?_))) ?_
   · omega
   refine WQ.call rfl rfl rfl (fun w_ hs_ => (Run.call Try.call12 rfl rfl rfl)) (fun w_ hs_ => (c_laws_eqPane (gat encPaneR a i) (gat encPaneR b i) _ (okPaneR.st0 (SlN.nth f_a (by omega)) (hs_ : St _ _ _ _)) (okPaneR.st0 (SlN.nth f_b (by omega)) (hs_ : St _ _ _ _)) ?_).mono fun e_ w_ h_ => ⟨h_.1, (hs_ : St _ _ _ _).call0 h_.2⟩) ?_
   · first | assumption | rfl | omega
   refine WQ.run tbk 1 [] rfl trivial ?_
   refine WQ.nil (fun _ (hs9 : St _ _ _ _) => ?_)
   refine WC.condF rfl (by simp) ?_
   refine WC.skip ?_
   refine hK8 _ _ ?_
   refine WC.region ?_
   refine WL.run tbk 3 hs9 [] rfl ⟨by omega, trivial⟩ ?_
   refine WL.nil ?_
   refine tkN ?_
   refine ⟨⟨rfl, rfl, rfl, rfl, rfl, rfl, rfl, trivial⟩, hs9, _, ?_, i + 1, rfl, ?_, ⟨rfl, trivial⟩⟩
   · omega
   · omega
  ·refine WC.exit ?_
   refine hK4 _ _ ?_
   refine WC.rr tbk hs5 [] rfl trivial ?_
   refine WC.ret ?_
   refine retV1 rfl (resV.tmp rfl) ?_
   refine ⟨congrArg Ending.returned ?_, hs5.nil⟩
   rfl
theorem c_laws_toPaneS (A_a : Option Addr) (n_a c_a : Nat) (a : List PaneR) (w : World) (f_a : SlN encPaneR (okPaneR 549755813888) w A_a n_a a) (hn : n_a ≤ 549755813888) :
    Calls Try.prog 35 #[.slice A_a n_a c_a] w fun e w' => ∃ A c xs L1, e = .returned (.slice A n_a c) ∧ St w [] L1 w' ∧ OwnN encPaneR ownPaneR 51 (.slice A n_a c) xs L1 ∧ xs.map PaneR.dat = a.map PaneR.dat := by
 have hl := f_a.sl.len
 refine enter (vs := [.slice A_a n_a c_a]) 23 Try.func35 rfl Try.ntmps35 rfl rfl ?_
 have hs1 := St.init w
 refine WC.rr tbk hs1 [] rfl trivial ?_
 refine WC.sr ?_
 refine WL.run tbk 2 hs1 [] rfl trivial ?_
 refine WL.makeF (F := encPaneR) hs1 Try.underlying62 info_51 rfl rfl rfl rfl rfl rfl rfl rfl rfl ?_ ?_ (fun A5 c6 L2 whs3 hs3 ho4 => ?_)
 · have e_ : Try.t51.bytes = 400 := rfl
   rw [e_]; omega
 · omega
 obtain ⟨L7, hs8, ho9⟩ := OwnN.new (own := ownPaneR) hs3 ho4 (⟨[], [], [], [], [], [], rfl, (OwnF.nil _ _), (OwnF.nil _ _), (OwnF.nil _ _), (OwnF.nil _ _), (OwnF.nil _ _), (OwnN.nil _ _ _)⟩)
 refine WL.run tbk 1 hs8 [] rfl trivial ?_
 refine WL.nil ?_
 refine WC.seq (fun K10 hK10 => ?_)
 refine WC.rr tbk hs8 [] rfl trivial ?_
 refine WC.block ?_
 refine WC.loopO [(0, _), (2, _), (5, _), (6, _), (7, _)] ⟨rfl, rfl, rfl, rfl, rfl, trivial⟩ hs8 (fun k_ f L_ => ∃ (i : Nat) (ys : List PaneR) (A11 : Option Addr) (c12 : Nat), k_ = n_a - i ∧ (i ≤ n_a) ∧ (ys.length = i) ∧ (ys.map PaneR.dat = (a.take i).map PaneR.dat) ∧ OwnN encPaneR ownPaneR 51 (.slice A11 (n_a) c12) (ys ++ List.replicate (n_a - i) encPaneR.dflt) L_ ∧ Sub [(3, .slice A11 (n_a) c12), (4, .int .i64 i)] f) (((fun (i : Nat) (ys : List PaneR) => n_a - i) (0) ([]))) ?_ ?_
 ·refine ⟨0, [], _, _, rfl, ?_, ?_, ?_, (by simpa using ho9), ⟨rfl, rfl, trivial⟩⟩
  · exact Nat.zero_le _
  · rfl
  · rfl
 ·clear hs8
  rintro _ f w L13 ⟨i, ys, A11, c12, rfl, p0, p1, p2, ho14, hG⟩ hF hs15
  refine WC.sub _ (hG.app hF) ?_
  clear hG hF
  have hlen : (ys ++ List.replicate (n_a - i) encPaneR.dflt).length = n_a := by simp; omega
  refine WC.seq (fun K16 hK16 => ?_)
  refine WC.rr tbk hs15 [] rfl trivial ?_
  refine WC.cond rfl (fun h17 => ?_) (fun h17 => ?_)
  ·have qh17 := h17
   try simp only [bf, within_iff, within_not] at qh17
   refine WC.skip ?_
   refine hK16 _ _ ?_
   refine WC.seq (fun K18 hK18 => ?_)
   refine WC.block ?_
   refine WC.region ?_
   refine WL.run tbk 4 hs15 [] rfl trivial ?_
   refine WL.val rfl rfl rfl (Run.idxN Try.runUnderlying55 Try.sizeOf37 rfl rfl rfl ?_ ?_ ?_) ?_
   · exact SlF.some_ (SlF.st0 f_a.sl hs15)
   · omega
   · omega
   refine WL.val rfl rfl rfl (Run.loadA Try.isAgg37 Try.sizeOf37 rfl rfl (SlF.whole (SlF.st0 f_a.sl hs15) ?_)) ?_
   · omega
   refine WL.call rfl rfl rfl (Run.call Try.call10 rfl rfl rfl) (c_laws_toPane (gat encPaneR a i) _ (okPaneR.st0 (SlN.nth f_a (by omega)) hs15)) ?_
   rintro _ whs19 ⟨r20, L121, rfl, hs19, ho22, hd23⟩
   replace hs19 := hs15.callF hs19
   refine ⟨_, rfl, ?_⟩
   refine WL.val rfl rfl rfl (Run.idxN Try.runUnderlying62 Try.sizeOf51 rfl rfl rfl ?_ ?_ ?_) ?_
   · exact SlF.some_ (OwnN.sl ho14 (fun p_ hp_ => (hs19.own p_ (List.mem_append_right _ (List.mem_append_left _ hp_))).1))
   · omega
   · omega
   obtain ⟨L24, L25, hs28, ho26, ho27⟩ := OwnN.open_ (St.perm hs19 (L' := L13 ++ _) (perm_front (A := L121) (List.Perm.refl _))) ho14
   refine WL.storeF1 (x' := r20) hs28 ho26 Try.sizeOf51 rfl rfl rfl rfl rfl rfl rfl rfl rfl ?_ rfl (fun L29 whs30 hs30 ho31 _ => ?_)
   · omega
   obtain ⟨L32, hs34, hb33⟩ := Bag.replace (r := r20) (i := i) (St.perm (St.perm hs30 (L' := L121 ++ _) (perm_front (A := L29) (perm_front (A := L25) (List.Perm.refl _)))) (L' := L25 ++ _) (perm_front (A := L121) (perm_front (A := L29) (List.Perm.refl _)))) ho27 (by omega) ho22
   refine WL.nil ?_
   refine hK18 _ _ ?_
   refine WC.region ?_
   refine WL.run tbk 3 hs34 [] rfl ⟨by omega, trivial⟩ ?_
   refine WL.nil ?_
   refine tkN ?_
   obtain ⟨L36, hs35, ho37⟩ := OwnN.fold (St.perm hs34 (L' := L29 ++ _) (perm_front (A := L32) (List.Perm.refl _))) ho31 hb33
   rw [set_at p1 (by omega)] at ho37
   refine ⟨⟨rfl, rfl, rfl, rfl, rfl, trivial⟩, _, hs35, _, ?_, i + 1, (ys ++ [r20]), _, _, rfl, ?_, ?_, ?_, ho37, ⟨rfl, rfl, trivial⟩⟩
   · omega
   · omega
   · simp; omega
   · rw [List.map_append, p2, map_take_succ (F := encPaneR) (by omega)]; congr 1 <;> simp only [List.map_cons, List.map_nil] <;> congr 1 <;> assumption
  ·have qh17 := h17
   try simp only [bf, within_iff, within_not] at qh17
   refine WC.exit ?_
   refine hK10 _ _ ?_
   refine WC.rr tbk hs15 [] rfl trivial ?_
   refine WC.ret ?_
   refine retV1 rfl (resV.tmp rfl) ?_
   have hi_ : i = n_a := by omega
   subst hi_
   have hx_ := ho14
   simp only [Nat.sub_self, List.replicate_zero, List.append_nil] at hx_
   exact ⟨_, _, ys, _, rfl, (St.keep1 hs15), hx_, by rw [p2, List.take_of_length_le (by omega)]⟩
theorem c_laws_szWinS (A_a : Option Addr) (n_a c_a : Nat) (a : List WinR) (left : Int) (w : World) (f_a : SlN encWinR (okWinR 9223372036854775807) w A_a n_a a) (h1 : 0 ≤ left) (h2 : left ≤ 1048576) (h3 : n_a ≤ 9223372036854775807) :
    Calls Try.prog 33 #[.slice A_a n_a c_a, i64 left] w fun e w' => e = .returned (.int .i64 (szR left (tots totWin (a.map WinR.dat)))) ∧ St w [] [] w' := by
 have hl := f_a.sl.len
 have hT : (tots totWin (a.map WinR.dat) : Int) = n_a + (a.map (fun x => totWin (WinR.dat x))).sum := by rw [tots_map, hl]; omega
 refine enter (vs := [.slice A_a n_a c_a, i64 left]) 27 Try.func33 rfl Try.ntmps33 rfl rfl ?_
 have hs1 := St.init w
 refine WC.rr tbk hs1 [] rfl trivial ?_
 refine WC.rr tbk hs1 [] rfl ⟨by omega, trivial⟩ ?_
 refine WC.seq (fun K2 hK2 => ?_)
 refine WC.rr tbk hs1 [] rfl trivial ?_
 refine WC.cD rfl (fun qh3 => ?_) (fun qh3 => ?_)
 ·refine WC.rr tbk hs1 [] rfl trivial ?_
  refine WC.ret ?_
  refine tkR ?_
  clear hK2
  refine retV1 rfl (resV.tmp rfl) ?_
  refine ⟨congrArg Ending.returned ?_, hs1.nil⟩
  rw [szR_lt (by omega)]
 ·refine WC.skip ?_
  refine hK2 _ _ ?_
  refine WC.seq (fun K4 hK4 => ?_)
  refine WC.rr tbk hs1 [] rfl trivial ?_
  refine WC.block ?_
  refine WC.loopS [(0, _), (6, _), (7, _), (8, _), (9, _), (10, _), (11, _)] ⟨rfl, rfl, rfl, rfl, rfl, rfl, rfl, trivial⟩ hs1 (fun k_ f w' => ∃ (i : Nat) (q : Int), k_ = n_a - i ∧ (i ≤ n_a) ∧ (0 ≤ q) ∧ (q + n_a + ((a.take i).map (fun x => totWin (WinR.dat x))).sum = left) ∧ Sub [(5, .int .i64 i), (1, .int .i64 q)] f) ((fun (i : Nat) (q : Int) => n_a - i) (0) ((left - n_a))) ?_ ?_
  ·refine ⟨0, (left - n_a), rfl, ?_, ?_, ?_, ⟨rfl, rfl, trivial⟩⟩
   · exact Nat.zero_le _
   · omega
   · simp
  ·clear hs1
   rintro _ f w ⟨i, q, rfl, p0, p1, p2, hG⟩ hF hs5
   refine WC.sub _ (hG.app hF) ?_
   clear hG hF
   refine WC.seq (fun K6 hK6 => ?_)
   refine WC.rr tbk hs5 [] rfl trivial ?_
   refine WC.cD rfl (fun qh7 => ?_) (fun qh7 => ?_)
   ·have hs1 := sum_take (F := encWinR) (f := (fun x => totWin (WinR.dat x))) (l := a) (i := i) (by omega)
    have hs2 := sum_take_le (f := (fun x => totWin (WinR.dat x))) a (i + 1)
    refine WC.skip ?_
    refine hK6 _ _ ?_
    refine WC.seq (fun K8 hK8 => ?_)
    refine WC.block ?_
    refine WC.sr ?_
    refine WL.run tbk 2 hs5 [] rfl trivial ?_
    refine WL.val rfl rfl rfl (Run.idxN Try.runUnderlying56 Try.sizeOf110 rfl rfl rfl ?_ ?_ ?_) ?_
    · exact SlF.some_ (SlF.st0 f_a.sl hs5)
    · omega
    · omega
    refine WL.val rfl rfl rfl (Run.loadA Try.isAgg110 Try.sizeOf110 rfl rfl (SlF.whole (SlF.st0 f_a.sl hs5) ?_)) ?_
    · omega
    refine WL.run tbk 1 hs5 [] rfl trivial ?_
    refine WL.call rfl rfl rfl (Run.call Try.call60 rfl rfl rfl) (c_laws_szWin (gat encWinR a i) _ _ (okWinR.st0 (SlN.nth f_a (by omega)) hs5) ?_ ?_) ?_
    · first | assumption | omega
    · first | assumption | omega | exact szR_b (by assumption) (by omega) (by first | assumption | omega)
    rintro _ whs9 ⟨rfl, hs9⟩
    replace hs9 := hs5.call0 hs9
    refine ⟨_, rfl, ?_⟩
    refine WL.run tbk 1 hs9 [] rfl trivial ?_
    refine WL.nil ?_
    refine WC.rr tbk hs9 [] rfl trivial ?_
    refine WC.cD rfl (fun qh10 => ?_) (fun qh10 => ?_)
    ·refine WC.rr tbk hs9 [] rfl trivial ?_
     refine WC.ret ?_
     refine ibR (tkR (tkR (ibR (tkR ?_))))
     clear hK8 hK4
     refine retV1 rfl (resV.tmp rfl) ?_
     refine ⟨congrArg Ending.returned ?_, hs9.nil⟩
     have h9 := szR_no qh10
     rw [szR_lt (by omega)]
    ·refine WC.skip ?_
     refine hK8 _ _ ?_
     refine WC.region ?_
     refine WL.run tbk 3 hs9 [] rfl ⟨by omega, trivial⟩ ?_
     refine WL.nil ?_
     refine tkN ?_
     refine ⟨⟨rfl, rfl, rfl, rfl, rfl, rfl, rfl, trivial⟩, hs9, _, ?_, i + 1, _, rfl, ?_, ?_, ?_, ⟨rfl, rfl, trivial⟩⟩
     · omega
     · omega
     · omega
     · have h9 := szR_ok qh10 (Int.natCast_nonneg _); omega
   ·refine WC.exit ?_
    refine hK4 _ _ ?_
    refine WC.rr tbk hs5 [] rfl trivial ?_
    refine WC.ret ?_
    refine retV1 rfl (resV.tmp rfl) ?_
    refine ⟨congrArg Ending.returned ?_, hs5.nil⟩
    have h9 : a.take i = a := List.take_of_length_le (by omega)
    rw [h9] at p2
    rw [szR_le (by omega)]
    congr 1; omega
theorem c_laws_eqWinS (A_a : Option Addr) (n_a c_a : Nat) (a : List WinR) (A_b : Option Addr) (n_b c_b : Nat) (b : List WinR) (w : World) (f_a : SlN encWinR (okWinR 549755813888) w A_a n_a a) (f_b : SlN encWinR (okWinR 549755813888) w A_b n_b b) (hn : n_a ≤ 549755813888) (hab : a.map WinR.dat = b.map WinR.dat) :
    Calls Try.prog 41 #[.slice A_a n_a c_a, .slice A_b n_b c_b] w fun e w' => e = .returned (.bool true) ∧ St w [] [] w' := by
 have hla := f_a.sl.len
 obtain rfl : n_a = n_b := by have h9 := congrArg List.length hab; simp only [List.length_map] at h9; rw [← hla, h9]; exact f_b.sl.len
 refine enter (vs := [.slice A_a n_a c_a, .slice A_b n_a c_b]) 27 Try.func41 rfl Try.ntmps41 rfl rfl ?_
 have hs1 := St.init w
 refine WC.rr tbk hs1 [] rfl trivial ?_
 refine WC.seq (fun K2 hK2 => ?_)
 refine WC.rr tbk hs1 [] rfl trivial ?_
 refine WC.condF rfl (by simp) ?_
 refine WC.skip ?_
 refine hK2 _ _ ?_
 refine WC.seq (fun K4 hK4 => ?_)
 refine WC.rr tbk hs1 [] rfl trivial ?_
 refine WC.block ?_
 refine WC.loopS [(0, _), (1, _), (6, _), (7, _), (8, _), (9, _), (10, _)] ⟨rfl, rfl, rfl, rfl, rfl, rfl, rfl, trivial⟩ hs1 (fun k_ f w' => ∃ (i : Nat), k_ = n_a - i ∧ (i ≤ n_a) ∧ Sub [(5, .int .i64 i)] f) ((fun (i : Nat) => n_a - i) (0)) ?_ ?_
 ·refine ⟨0, rfl, ?_, ⟨rfl, trivial⟩⟩
  · exact Nat.zero_le _
 ·clear hs1
  rintro _ f w ⟨i, rfl, p0, hG⟩ hF hs5
  refine WC.sub _ (hG.app hF) ?_
  clear hG hF
  refine WC.seq (fun K6 hK6 => ?_)
  refine WC.rr tbk hs5 [] rfl trivial ?_
  refine WC.cD rfl (fun qh7 => ?_) (fun qh7 => ?_)
  ·have hab_ := gat_dat (F := encWinR) (i := i) hab (by omega)
   refine WC.skip ?_
   refine hK6 _ _ ?_
   refine WC.seq (fun K8 hK8 => ?_)
   refine WC.block ?_
   refine WC.sq hs5 mixed (by kernel_rfl) ?_
   refine WQ.run tbk 2 [] rfl trivial ?_
   refine WQ.val rfl rfl rfl (fun w_ hs_ => (Run.idxN Try.runUnderlying63 Try.sizeOf95 rfl rfl rfl ?_ ?_ ?_)) ?_
   · exact SlF.some_ (SlF.st0 f_a.sl (hs_ : St _ _ _ _))
   · omega
   · omega
   refine WQ.val rfl rfl rfl (fun w_ hs_ => (Run.loadA Try.isAgg95 Try.sizeOf95 rfl rfl (SlF.whole (SlF.st0 f_a.sl (hs_ : St _ _ _ _)) ?_))) ?_
   · omega
   refine WQ.run tbk 2 [] rfl trivial ?_
   refine WQ.val rfl rfl rfl (fun w_ hs_ => (Run.idxN Try.runUnderlying63 Try.sizeOf95 rfl rfl rfl ?_ ?_ ?_)) ?_
   · exact SlF.some_ (SlF.st0 f_b.sl (hs_ : St _ _ _ _))
   · omega
   · omega
   refine WQ.val rfl rfl rfl (fun w_ hs_ => (Run.loadA Try.isAgg95 Try.sizeOf95 rfl rfl (SlF.whole (SlF.st0 f_b.sl (hs_ : St _ _ _ _)) ?_))) ?_
   · omega
   refine WQ.call rfl rfl rfl (fun w_ hs_ => (Run.call Try.call64 rfl rfl rfl)) (fun w_ hs_ => (c_laws_eqWin (gat encWinR a i) (gat encWinR b i) _ (okWinR.st0 (SlN.nth f_a (by omega)) (hs_ : St _ _ _ _)) (okWinR.st0 (SlN.nth f_b (by omega)) (hs_ : St _ _ _ _)) ?_).mono fun e_ w_ h_ => ⟨h_.1, (hs_ : St _ _ _ _).call0 h_.2⟩) ?_
   · first | assumption | rfl | omega
   refine WQ.run tbk 1 [] rfl trivial ?_
   refine WQ.nil (fun _ (hs9 : St _ _ _ _) => ?_)
   refine WC.condF rfl (by simp) ?_
   refine WC.skip ?_
   refine hK8 _ _ ?_
   refine WC.region ?_
   refine WL.run tbk 3 hs9 [] rfl ⟨by omega, trivial⟩ ?_
   refine WL.nil ?_
   refine tkN ?_
   refine ⟨⟨rfl, rfl, rfl, rfl, rfl, rfl, rfl, trivial⟩, hs9, _, ?_, i + 1, rfl, ?_, ⟨rfl, trivial⟩⟩
   · omega
   · omega
  ·refine WC.exit ?_
   refine hK4 _ _ ?_
   refine WC.rr tbk hs5 [] rfl trivial ?_
   refine WC.ret ?_
   refine retV1 rfl (resV.tmp rfl) ?_
   refine ⟨congrArg Ending.returned ?_, hs5.nil⟩
   rfl
theorem c_laws_toWinS (A_a : Option Addr) (n_a c_a : Nat) (a : List WinR) (w : World) (f_a : SlN encWinR (okWinR 549755813888) w A_a n_a a) (hn : n_a ≤ 549755813888) :
    Calls Try.prog 36 #[.slice A_a n_a c_a] w fun e w' => ∃ A c xs L1, e = .returned (.slice A n_a c) ∧ St w [] L1 w' ∧ OwnN encWinR ownWinR 95 (.slice A n_a c) xs L1 ∧ xs.map WinR.dat = a.map WinR.dat := by
 have hl := f_a.sl.len
 refine enter (vs := [.slice A_a n_a c_a]) 23 Try.func36 rfl Try.ntmps36 rfl rfl ?_
 have hs1 := St.init w
 refine WC.rr tbk hs1 [] rfl trivial ?_
 refine WC.sr ?_
 refine WL.run tbk 2 hs1 [] rfl trivial ?_
 refine WL.makeF (F := encWinR) hs1 Try.underlying63 info_95 rfl rfl rfl rfl rfl rfl rfl rfl rfl ?_ ?_ (fun A5 c6 L2 whs3 hs3 ho4 => ?_)
 · have e_ : Try.t95.bytes = 64 := rfl
   rw [e_]; omega
 · omega
 obtain ⟨L7, hs8, ho9⟩ := OwnN.new (own := ownWinR) hs3 ho4 (OwnF.nil _ _)
 refine WL.run tbk 1 hs8 [] rfl trivial ?_
 refine WL.nil ?_
 refine WC.seq (fun K10 hK10 => ?_)
 refine WC.rr tbk hs8 [] rfl trivial ?_
 refine WC.block ?_
 refine WC.loopO [(0, _), (2, _), (5, _), (6, _), (7, _)] ⟨rfl, rfl, rfl, rfl, rfl, trivial⟩ hs8 (fun k_ f L_ => ∃ (i : Nat) (ys : List WinR) (A11 : Option Addr) (c12 : Nat), k_ = n_a - i ∧ (i ≤ n_a) ∧ (ys.length = i) ∧ (ys.map WinR.dat = (a.take i).map WinR.dat) ∧ OwnN encWinR ownWinR 95 (.slice A11 (n_a) c12) (ys ++ List.replicate (n_a - i) encWinR.dflt) L_ ∧ Sub [(3, .slice A11 (n_a) c12), (4, .int .i64 i)] f) (((fun (i : Nat) (ys : List WinR) => n_a - i) (0) ([]))) ?_ ?_
 ·refine ⟨0, [], _, _, rfl, ?_, ?_, ?_, (by simpa using ho9), ⟨rfl, rfl, trivial⟩⟩
  · exact Nat.zero_le _
  · rfl
  · rfl
 ·clear hs8
  rintro _ f w L13 ⟨i, ys, A11, c12, rfl, p0, p1, p2, ho14, hG⟩ hF hs15
  refine WC.sub _ (hG.app hF) ?_
  clear hG hF
  have hlen : (ys ++ List.replicate (n_a - i) encWinR.dflt).length = n_a := by simp; omega
  refine WC.seq (fun K16 hK16 => ?_)
  refine WC.rr tbk hs15 [] rfl trivial ?_
  refine WC.cond rfl (fun h17 => ?_) (fun h17 => ?_)
  ·have qh17 := h17
   try simp only [bf, within_iff, within_not] at qh17
   refine WC.skip ?_
   refine hK16 _ _ ?_
   refine WC.seq (fun K18 hK18 => ?_)
   refine WC.block ?_
   refine WC.region ?_
   refine WL.run tbk 4 hs15 [] rfl trivial ?_
   refine WL.val rfl rfl rfl (Run.idxN Try.runUnderlying56 Try.sizeOf110 rfl rfl rfl ?_ ?_ ?_) ?_
   · exact SlF.some_ (SlF.st0 f_a.sl hs15)
   · omega
   · omega
   refine WL.val rfl rfl rfl (Run.loadA Try.isAgg110 Try.sizeOf110 rfl rfl (SlF.whole (SlF.st0 f_a.sl hs15) ?_)) ?_
   · omega
   refine WL.call rfl rfl rfl (Run.call Try.call62 rfl rfl rfl) (c_laws_toWin (gat encWinR a i) _ (okWinR.st0 (SlN.nth f_a (by omega)) hs15)) ?_
   rintro _ whs19 ⟨r20, L121, rfl, hs19, ho22, hd23⟩
   replace hs19 := hs15.callF hs19
   refine ⟨_, rfl, ?_⟩
   refine WL.val rfl rfl rfl (Run.idxN Try.runUnderlying63 Try.sizeOf95 rfl rfl rfl ?_ ?_ ?_) ?_
   · exact SlF.some_ (OwnN.sl ho14 (fun p_ hp_ => (hs19.own p_ (List.mem_append_right _ (List.mem_append_left _ hp_))).1))
   · omega
   · omega
   obtain ⟨L24, L25, hs28, ho26, ho27⟩ := OwnN.open_ (St.perm hs19 (L' := L13 ++ _) (perm_front (A := L121) (List.Perm.refl _))) ho14
   refine WL.storeF1 (x' := r20) hs28 ho26 Try.sizeOf95 rfl rfl rfl rfl rfl rfl rfl rfl rfl ?_ rfl (fun L29 whs30 hs30 ho31 _ => ?_)
   · omega
   obtain ⟨L32, hs34, hb33⟩ := Bag.replace (r := r20) (i := i) (St.perm (St.perm hs30 (L' := L121 ++ _) (perm_front (A := L29) (perm_front (A := L25) (List.Perm.refl _)))) (L' := L25 ++ _) (perm_front (A := L121) (perm_front (A := L29) (List.Perm.refl _)))) ho27 (by omega) ho22
   refine WL.nil ?_
   refine hK18 _ _ ?_
   refine WC.region ?_
   refine WL.run tbk 3 hs34 [] rfl ⟨by omega, trivial⟩ ?_
   refine WL.nil ?_
   refine tkN ?_
   obtain ⟨L36, hs35, ho37⟩ := OwnN.fold (St.perm hs34 (L' := L29 ++ _) (perm_front (A := L32) (List.Perm.refl _))) ho31 hb33
   rw [set_at p1 (by omega)] at ho37
   refine ⟨⟨rfl, rfl, rfl, rfl, rfl, trivial⟩, _, hs35, _, ?_, i + 1, (ys ++ [r20]), _, _, rfl, ?_, ?_, ?_, ho37, ⟨rfl, rfl, trivial⟩⟩
   · omega
   · omega
   · simp; omega
   · rw [List.map_append, p2, map_take_succ (F := encWinR) (by omega)]; congr 1 <;> simp only [List.map_cons, List.map_nil] <;> congr 1 <;> assumption
  ·have qh17 := h17
   try simp only [bf, within_iff, within_not] at qh17
   refine WC.exit ?_
   refine hK10 _ _ ?_
   refine WC.rr tbk hs15 [] rfl trivial ?_
   refine WC.ret ?_
   refine retV1 rfl (resV.tmp rfl) ?_
   have hi_ : i = n_a := by omega
   subst hi_
   have hx_ := ho14
   simp only [Nat.sub_self, List.replicate_zero, List.append_nil] at hx_
   exact ⟨_, _, ys, _, rfl, (St.keep1 hs15), hx_, by rw [p2, List.take_of_length_le (by omega)]⟩
theorem c_laws_szSessS (A_a : Option Addr) (n_a c_a : Nat) (a : List SessR) (left : Int) (w : World) (f_a : SlN encSessR (okSessR 9223372036854775807) w A_a n_a a) (h1 : 0 ≤ left) (h2 : left ≤ 1048576) (h3 : n_a ≤ 9223372036854775807) :
    Calls Try.prog 34 #[.slice A_a n_a c_a, i64 left] w fun e w' => e = .returned (.int .i64 (szR left (tots totSess (a.map SessR.dat)))) ∧ St w [] [] w' := by
 have hl := f_a.sl.len
 have hT : (tots totSess (a.map SessR.dat) : Int) = n_a + (a.map (fun x => totSess (SessR.dat x))).sum := by rw [tots_map, hl]; omega
 refine enter (vs := [.slice A_a n_a c_a, i64 left]) 27 Try.func34 rfl Try.ntmps34 rfl rfl ?_
 have hs1 := St.init w
 refine WC.rr tbk hs1 [] rfl trivial ?_
 refine WC.rr tbk hs1 [] rfl ⟨by omega, trivial⟩ ?_
 refine WC.seq (fun K2 hK2 => ?_)
 refine WC.rr tbk hs1 [] rfl trivial ?_
 refine WC.cD rfl (fun qh3 => ?_) (fun qh3 => ?_)
 ·refine WC.rr tbk hs1 [] rfl trivial ?_
  refine WC.ret ?_
  refine tkR ?_
  clear hK2
  refine retV1 rfl (resV.tmp rfl) ?_
  refine ⟨congrArg Ending.returned ?_, hs1.nil⟩
  rw [szR_lt (by omega)]
 ·refine WC.skip ?_
  refine hK2 _ _ ?_
  refine WC.seq (fun K4 hK4 => ?_)
  refine WC.rr tbk hs1 [] rfl trivial ?_
  refine WC.block ?_
  refine WC.loopS [(0, _), (6, _), (7, _), (8, _), (9, _), (10, _), (11, _)] ⟨rfl, rfl, rfl, rfl, rfl, rfl, rfl, trivial⟩ hs1 (fun k_ f w' => ∃ (i : Nat) (q : Int), k_ = n_a - i ∧ (i ≤ n_a) ∧ (0 ≤ q) ∧ (q + n_a + ((a.take i).map (fun x => totSess (SessR.dat x))).sum = left) ∧ Sub [(5, .int .i64 i), (1, .int .i64 q)] f) ((fun (i : Nat) (q : Int) => n_a - i) (0) ((left - n_a))) ?_ ?_
  ·refine ⟨0, (left - n_a), rfl, ?_, ?_, ?_, ⟨rfl, rfl, trivial⟩⟩
   · exact Nat.zero_le _
   · omega
   · simp
  ·clear hs1
   rintro _ f w ⟨i, q, rfl, p0, p1, p2, hG⟩ hF hs5
   refine WC.sub _ (hG.app hF) ?_
   clear hG hF
   refine WC.seq (fun K6 hK6 => ?_)
   refine WC.rr tbk hs5 [] rfl trivial ?_
   refine WC.cD rfl (fun qh7 => ?_) (fun qh7 => ?_)
   ·have hs1 := sum_take (F := encSessR) (f := (fun x => totSess (SessR.dat x))) (l := a) (i := i) (by omega)
    have hs2 := sum_take_le (f := (fun x => totSess (SessR.dat x))) a (i + 1)
    refine WC.skip ?_
    refine hK6 _ _ ?_
    refine WC.seq (fun K8 hK8 => ?_)
    refine WC.block ?_
    refine WC.sr ?_
    refine WL.run tbk 2 hs5 [] rfl trivial ?_
    refine WL.val rfl rfl rfl (Run.idxN Try.runUnderlying57 Try.sizeOf112 rfl rfl rfl ?_ ?_ ?_) ?_
    · exact SlF.some_ (SlF.st0 f_a.sl hs5)
    · omega
    · omega
    refine WL.val rfl rfl rfl (Run.loadA Try.isAgg112 Try.sizeOf112 rfl rfl (SlF.whole (SlF.st0 f_a.sl hs5) ?_)) ?_
    · omega
    refine WL.run tbk 1 hs5 [] rfl trivial ?_
    refine WL.call rfl rfl rfl (Run.call Try.call61 rfl rfl rfl) (c_laws_szSess (gat encSessR a i) _ _ (okSessR.st0 (SlN.nth f_a (by omega)) hs5) ?_ ?_) ?_
    · first | assumption | omega
    · first | assumption | omega | exact szR_b (by assumption) (by omega) (by first | assumption | omega)
    rintro _ whs9 ⟨rfl, hs9⟩
    replace hs9 := hs5.call0 hs9
    refine ⟨_, rfl, ?_⟩
    refine WL.run tbk 1 hs9 [] rfl trivial ?_
    refine WL.nil ?_
    refine WC.rr tbk hs9 [] rfl trivial ?_
    refine WC.cD rfl (fun qh10 => ?_) (fun qh10 => ?_)
    ·refine WC.rr tbk hs9 [] rfl trivial ?_
     refine WC.ret ?_
     refine ibR (tkR (tkR (ibR (tkR ?_))))
     clear hK8 hK4
     refine retV1 rfl (resV.tmp rfl) ?_
     refine ⟨congrArg Ending.returned ?_, hs9.nil⟩
     have h9 := szR_no qh10
     rw [szR_lt (by omega)]
    ·refine WC.skip ?_
     refine hK8 _ _ ?_
     refine WC.region ?_
     refine WL.run tbk 3 hs9 [] rfl ⟨by omega, trivial⟩ ?_
     refine WL.nil ?_
     refine tkN ?_
     refine ⟨⟨rfl, rfl, rfl, rfl, rfl, rfl, rfl, trivial⟩, hs9, _, ?_, i + 1, _, rfl, ?_, ?_, ?_, ⟨rfl, rfl, trivial⟩⟩
     · omega
     · omega
     · omega
     · have h9 := szR_ok qh10 (Int.natCast_nonneg _); omega
   ·refine WC.exit ?_
    refine hK4 _ _ ?_
    refine WC.rr tbk hs5 [] rfl trivial ?_
    refine WC.ret ?_
    refine retV1 rfl (resV.tmp rfl) ?_
    refine ⟨congrArg Ending.returned ?_, hs5.nil⟩
    have h9 : a.take i = a := List.take_of_length_le (by omega)
    rw [h9] at p2
    rw [szR_le (by omega)]
    congr 1; omega
theorem c_laws_eqSessS (A_a : Option Addr) (n_a c_a : Nat) (a : List SessR) (A_b : Option Addr) (n_b c_b : Nat) (b : List SessR) (w : World) (f_a : SlN encSessR (okSessR 549755813888) w A_a n_a a) (f_b : SlN encSessR (okSessR 549755813888) w A_b n_b b) (hn : n_a ≤ 549755813888) (hab : a.map SessR.dat = b.map SessR.dat) :
    Calls Try.prog 42 #[.slice A_a n_a c_a, .slice A_b n_b c_b] w fun e w' => e = .returned (.bool true) ∧ St w [] [] w' := by
 have hla := f_a.sl.len
 obtain rfl : n_a = n_b := by have h9 := congrArg List.length hab; simp only [List.length_map] at h9; rw [← hla, h9]; exact f_b.sl.len
 refine enter (vs := [.slice A_a n_a c_a, .slice A_b n_a c_b]) 27 Try.func42 rfl Try.ntmps42 rfl rfl ?_
 have hs1 := St.init w
 refine WC.rr tbk hs1 [] rfl trivial ?_
 refine WC.seq (fun K2 hK2 => ?_)
 refine WC.rr tbk hs1 [] rfl trivial ?_
 refine WC.condF rfl (by simp) ?_
 refine WC.skip ?_
 refine hK2 _ _ ?_
 refine WC.seq (fun K4 hK4 => ?_)
 refine WC.rr tbk hs1 [] rfl trivial ?_
 refine WC.block ?_
 refine WC.loopS [(0, _), (1, _), (6, _), (7, _), (8, _), (9, _), (10, _)] ⟨rfl, rfl, rfl, rfl, rfl, rfl, rfl, trivial⟩ hs1 (fun k_ f w' => ∃ (i : Nat), k_ = n_a - i ∧ (i ≤ n_a) ∧ Sub [(5, .int .i64 i)] f) ((fun (i : Nat) => n_a - i) (0)) ?_ ?_
 ·refine ⟨0, rfl, ?_, ⟨rfl, trivial⟩⟩
  · exact Nat.zero_le _
 ·clear hs1
  rintro _ f w ⟨i, rfl, p0, hG⟩ hF hs5
  refine WC.sub _ (hG.app hF) ?_
  clear hG hF
  refine WC.seq (fun K6 hK6 => ?_)
  refine WC.rr tbk hs5 [] rfl trivial ?_
  refine WC.cD rfl (fun qh7 => ?_) (fun qh7 => ?_)
  ·have hab_ := gat_dat (F := encSessR) (i := i) hab (by omega)
   refine WC.skip ?_
   refine hK6 _ _ ?_
   refine WC.seq (fun K8 hK8 => ?_)
   refine WC.block ?_
   refine WC.sq hs5 mixed (by kernel_rfl) ?_
   refine WQ.run tbk 2 [] rfl trivial ?_
   refine WQ.val rfl rfl rfl (fun w_ hs_ => (Run.idxN Try.runUnderlying64 Try.sizeOf90 rfl rfl rfl ?_ ?_ ?_)) ?_
   · exact SlF.some_ (SlF.st0 f_a.sl (hs_ : St _ _ _ _))
   · omega
   · omega
   refine WQ.val rfl rfl rfl (fun w_ hs_ => (Run.loadA Try.isAgg90 Try.sizeOf90 rfl rfl (SlF.whole (SlF.st0 f_a.sl (hs_ : St _ _ _ _)) ?_))) ?_
   · omega
   refine WQ.run tbk 2 [] rfl trivial ?_
   refine WQ.val rfl rfl rfl (fun w_ hs_ => (Run.idxN Try.runUnderlying64 Try.sizeOf90 rfl rfl rfl ?_ ?_ ?_)) ?_
   · exact SlF.some_ (SlF.st0 f_b.sl (hs_ : St _ _ _ _))
   · omega
   · omega
   refine WQ.val rfl rfl rfl (fun w_ hs_ => (Run.loadA Try.isAgg90 Try.sizeOf90 rfl rfl (SlF.whole (SlF.st0 f_b.sl (hs_ : St _ _ _ _)) ?_))) ?_
   · omega
   refine WQ.call rfl rfl rfl (fun w_ hs_ => (Run.call Try.call65 rfl rfl rfl)) (fun w_ hs_ => (c_laws_eqSess (gat encSessR a i) (gat encSessR b i) _ (okSessR.st0 (SlN.nth f_a (by omega)) (hs_ : St _ _ _ _)) (okSessR.st0 (SlN.nth f_b (by omega)) (hs_ : St _ _ _ _)) ?_).mono fun e_ w_ h_ => ⟨h_.1, (hs_ : St _ _ _ _).call0 h_.2⟩) ?_
   · first | assumption | rfl | omega
   refine WQ.run tbk 1 [] rfl trivial ?_
   refine WQ.nil (fun _ (hs9 : St _ _ _ _) => ?_)
   refine WC.condF rfl (by simp) ?_
   refine WC.skip ?_
   refine hK8 _ _ ?_
   refine WC.region ?_
   refine WL.run tbk 3 hs9 [] rfl ⟨by omega, trivial⟩ ?_
   refine WL.nil ?_
   refine tkN ?_
   refine ⟨⟨rfl, rfl, rfl, rfl, rfl, rfl, rfl, trivial⟩, hs9, _, ?_, i + 1, rfl, ?_, ⟨rfl, trivial⟩⟩
   · omega
   · omega
  ·refine WC.exit ?_
   refine hK4 _ _ ?_
   refine WC.rr tbk hs5 [] rfl trivial ?_
   refine WC.ret ?_
   refine retV1 rfl (resV.tmp rfl) ?_
   refine ⟨congrArg Ending.returned ?_, hs5.nil⟩
   rfl
theorem c_laws_toSessS (A_a : Option Addr) (n_a c_a : Nat) (a : List SessR) (w : World) (f_a : SlN encSessR (okSessR 549755813888) w A_a n_a a) (hn : n_a ≤ 549755813888) :
    Calls Try.prog 37 #[.slice A_a n_a c_a] w fun e w' => ∃ A c xs L1, e = .returned (.slice A n_a c) ∧ St w [] L1 w' ∧ OwnN encSessR ownSessR 90 (.slice A n_a c) xs L1 ∧ xs.map SessR.dat = a.map SessR.dat := by
 have hl := f_a.sl.len
 refine enter (vs := [.slice A_a n_a c_a]) 23 Try.func37 rfl Try.ntmps37 rfl rfl ?_
 have hs1 := St.init w
 refine WC.rr tbk hs1 [] rfl trivial ?_
 refine WC.sr ?_
 refine WL.run tbk 2 hs1 [] rfl trivial ?_
 refine WL.makeF (F := encSessR) hs1 Try.underlying64 info_90 rfl rfl rfl rfl rfl rfl rfl rfl rfl ?_ ?_ (fun A5 c6 L2 whs3 hs3 ho4 => ?_)
 · have e_ : Try.t90.bytes = 48 := rfl
   rw [e_]; omega
 · omega
 obtain ⟨L7, hs8, ho9⟩ := OwnN.new (own := ownSessR) hs3 ho4 (OwnF.nil _ _)
 refine WL.run tbk 1 hs8 [] rfl trivial ?_
 refine WL.nil ?_
 refine WC.seq (fun K10 hK10 => ?_)
 refine WC.rr tbk hs8 [] rfl trivial ?_
 refine WC.block ?_
 refine WC.loopO [(0, _), (2, _), (5, _), (6, _), (7, _)] ⟨rfl, rfl, rfl, rfl, rfl, trivial⟩ hs8 (fun k_ f L_ => ∃ (i : Nat) (ys : List SessR) (A11 : Option Addr) (c12 : Nat), k_ = n_a - i ∧ (i ≤ n_a) ∧ (ys.length = i) ∧ (ys.map SessR.dat = (a.take i).map SessR.dat) ∧ OwnN encSessR ownSessR 90 (.slice A11 (n_a) c12) (ys ++ List.replicate (n_a - i) encSessR.dflt) L_ ∧ Sub [(3, .slice A11 (n_a) c12), (4, .int .i64 i)] f) (((fun (i : Nat) (ys : List SessR) => n_a - i) (0) ([]))) ?_ ?_
 ·refine ⟨0, [], _, _, rfl, ?_, ?_, ?_, (by simpa using ho9), ⟨rfl, rfl, trivial⟩⟩
  · exact Nat.zero_le _
  · rfl
  · rfl
 ·clear hs8
  rintro _ f w L13 ⟨i, ys, A11, c12, rfl, p0, p1, p2, ho14, hG⟩ hF hs15
  refine WC.sub _ (hG.app hF) ?_
  clear hG hF
  have hlen : (ys ++ List.replicate (n_a - i) encSessR.dflt).length = n_a := by simp; omega
  refine WC.seq (fun K16 hK16 => ?_)
  refine WC.rr tbk hs15 [] rfl trivial ?_
  refine WC.cond rfl (fun h17 => ?_) (fun h17 => ?_)
  ·have qh17 := h17
   try simp only [bf, within_iff, within_not] at qh17
   refine WC.skip ?_
   refine hK16 _ _ ?_
   refine WC.seq (fun K18 hK18 => ?_)
   refine WC.block ?_
   refine WC.region ?_
   refine WL.run tbk 4 hs15 [] rfl trivial ?_
   refine WL.val rfl rfl rfl (Run.idxN Try.runUnderlying57 Try.sizeOf112 rfl rfl rfl ?_ ?_ ?_) ?_
   · exact SlF.some_ (SlF.st0 f_a.sl hs15)
   · omega
   · omega
   refine WL.val rfl rfl rfl (Run.loadA Try.isAgg112 Try.sizeOf112 rfl rfl (SlF.whole (SlF.st0 f_a.sl hs15) ?_)) ?_
   · omega
   refine WL.call rfl rfl rfl (Run.call Try.call63 rfl rfl rfl) (c_laws_toSess (gat encSessR a i) _ (okSessR.st0 (SlN.nth f_a (by omega)) hs15)) ?_
   rintro _ whs19 ⟨r20, L121, rfl, hs19, ho22, hd23⟩
   replace hs19 := hs15.callF hs19
   refine ⟨_, rfl, ?_⟩
   refine WL.val rfl rfl rfl (Run.idxN Try.runUnderlying64 Try.sizeOf90 rfl rfl rfl ?_ ?_ ?_) ?_
   · exact SlF.some_ (OwnN.sl ho14 (fun p_ hp_ => (hs19.own p_ (List.mem_append_right _ (List.mem_append_left _ hp_))).1))
   · omega
   · omega
   obtain ⟨L24, L25, hs28, ho26, ho27⟩ := OwnN.open_ (St.perm hs19 (L' := L13 ++ _) (perm_front (A := L121) (List.Perm.refl _))) ho14
   refine WL.storeF1 (x' := r20) hs28 ho26 Try.sizeOf90 rfl rfl rfl rfl rfl rfl rfl rfl rfl ?_ rfl (fun L29 whs30 hs30 ho31 _ => ?_)
   · omega
   obtain ⟨L32, hs34, hb33⟩ := Bag.replace (r := r20) (i := i) (St.perm (St.perm hs30 (L' := L121 ++ _) (perm_front (A := L29) (perm_front (A := L25) (List.Perm.refl _)))) (L' := L25 ++ _) (perm_front (A := L121) (perm_front (A := L29) (List.Perm.refl _)))) ho27 (by omega) ho22
   refine WL.nil ?_
   refine hK18 _ _ ?_
   refine WC.region ?_
   refine WL.run tbk 3 hs34 [] rfl ⟨by omega, trivial⟩ ?_
   refine WL.nil ?_
   refine tkN ?_
   obtain ⟨L36, hs35, ho37⟩ := OwnN.fold (St.perm hs34 (L' := L29 ++ _) (perm_front (A := L32) (List.Perm.refl _))) ho31 hb33
   rw [set_at p1 (by omega)] at ho37
   refine ⟨⟨rfl, rfl, rfl, rfl, rfl, trivial⟩, _, hs35, _, ?_, i + 1, (ys ++ [r20]), _, _, rfl, ?_, ?_, ?_, ho37, ⟨rfl, rfl, trivial⟩⟩
   · omega
   · omega
   · simp; omega
   · rw [List.map_append, p2, map_take_succ (F := encSessR) (by omega)]; congr 1 <;> simp only [List.map_cons, List.map_nil] <;> congr 1 <;> assumption
  ·have qh17 := h17
   try simp only [bf, within_iff, within_not] at qh17
   refine WC.exit ?_
   refine hK10 _ _ ?_
   refine WC.rr tbk hs15 [] rfl trivial ?_
   refine WC.ret ?_
   refine retV1 rfl (resV.tmp rfl) ?_
   have hi_ : i = n_a := by omega
   subst hi_
   have hx_ := ho14
   simp only [Nat.sub_self, List.replicate_zero, List.append_nil] at hx_
   exact ⟨_, _, ys, _, rfl, (St.keep1 hs15), hx_, by rw [p2, List.take_of_length_le (by omega)]⟩
end Go.Proofs.Ytmkgffhdbagmjaa
