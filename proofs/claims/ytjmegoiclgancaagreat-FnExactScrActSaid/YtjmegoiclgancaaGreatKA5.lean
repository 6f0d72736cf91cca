/-
  What the proof stands on, part 5.
-/
import Derived.Test.YtjmegoiclgancaaGreatKA4
namespace Go.Proofs.YtjmegoiclgancaaGreat
open Go Go.RowKit
set_option linter.unusedVariables false
set_option linter.unusedSimpArgs false
theorem c_impl_Scr_clear_main (b_s : Nat) (s : ScrR) (L_s : Hp) (a : Int) (b : Int) (w : World) (hb_s : w.heap[b_s]? = some (Obj.cells (List.toArray (cScr s)) 33 (0, 0))) (o_s : ownScrR s L_s) (h_s : ∀ p, p ∈ L_s → w.heap[p.1]? = some p.2) (hd_ : (b_s :: L_s.map (·.1)).Nodup) (hab : 0 ≤ a ∧ b ≤ s.Main.Cells.xs.length ∧ b ≤ 1048576 ∧ -1048576 ≤ b ∧ a ≤ 1048576) (hsmB : smScr 549755813888 s.dat) (hx : s.OnAlt = false) :
    Calls Tryz.prog 236 #[.pointer (some ⟨b_s, 0, none⟩), i64 a, i64 b] w fun e w' => ∃ r L1, e = .returned (.tuple #[]) ∧ St w (b_s :: L_s.map (·.1)) ([(b_s, Obj.cells (List.toArray (cScr r)) 33 (0, 0))] ++ L1) w' ∧ ownScrR r L1 ∧ r.dat = clearD s.dat a b := by
 refine enter 23 Tryz.func236 rfl Tryz.ntmps236 rfl rfl ?_
 have hs1 := St.takeP w b_s _ L_s hb_s h_s hd_
 refine WC.sr ?_
 refine WL.r 1 hs1 [] rfl ?_
 have hF2 : St _ _ ((_, _) :: (L_s ++ _)) _ := ((hs1.fr L_s).fb b_s)
 refine WL.cl Tryz.call223 rfl (c_impl_Scr_shown_main _ s _ _ (St.headP hF2) o_s (St.ownP hF2) (St.nodupP hF2) ?_) ?_
 · first | (first | assumption | rfl | omega) | (assumption)
 rintro _ whs3 ⟨r4, L5, rfl, hs3, ho6, hd7⟩
 replace hs3 := St.lendP hF2 hs3
 refine ⟨_, rfl, ?_⟩
 have hrl : r4.Main.Cells.xs.length = s.Main.Cells.xs.length := congrArg (fun d : ScrD => d.Main.Cells.length) hd7
 have hln := ownScrR.len ‹ownScrR r4 _›
 refine WL.val rfl rfl rfl (Run.nilCheck rfl rfl) ?_
 refine WL.r 3 hs3 [0] rfl ?_
 refine WL.nil ?_
 refine WC.r1 hs3 [] rfl ?_
 refine WC.block ?_
 obtain ⟨L8, L9, L10, L11, hs16, ho12, ho13, ho14, ho15⟩ := ownScrR.open_ (hs3.fr L5) ho6
 have hs17 := (hs16.fb b_s)
 refine WC.lO [2, 6] rfl (hs17.fr L8) (fun k_ f L_ => ∃ (i : Nat) (zs : List CellD), k_ = (b - a).toNat - i ∧ (i ≤ (b - a).toNat) ∧ (zs.length = r4.Main.Cells.xs.length) ∧ (∀ k, k < r4.Main.Cells.xs.length → cat zs k = partF r4.Main.dat (clearF r4.Main.dat a b) a.toNat i k) ∧ OwnF encCell 75 (.slice r4.Main.Cells.A (r4.Main.Cells.n) r4.Main.Cells.c) (zs) L_ ∧ Sub [(7, .int .i64 (a + i))] f) (((fun (i : Nat) (zs : List CellD) => (b - a).toNat - i) (0) (r4.Main.Cells.xs))) ?_ ?_
 ·refine ⟨0, r4.Main.Cells.xs, rfl, ?_, ?_, ?_, ho12, ⟨?_, trivial⟩⟩
  · omega
  · rfl
  · intro k hk; rw [partF_zero]; rfl
  · (refine congrArg some (congrArg (Value.int _) ?_); omega)
 ·clear hs17
  rintro _ f w L20 ⟨i, zs, rfl, p0, p1, p2, ho21, hG⟩ hF hs22
  refine WC.sub _ (hG.app hF) ?_
  clear hG hF
  replace hs22 := St.back [_] hs22
  refine WC.seq (fun K23 hK23 => ?_)
  refine WC.r1 hs22 [] rfl ?_
  refine WC.cD rfl (fun qh24 => ?_) (fun qh24 => ?_)
  ·refine WC.skip ?_
   refine hK23 _ _ ?_
   refine WC.seq (fun K25 hK25 => ?_)
   refine WC.block ?_
   refine WC.region ?_
   refine WL.r 2 hs22 [] rfl ?_
   refine WL.cl Tryz.call253 rfl (c_impl_blank _) ?_
   rintro _ whs26 ⟨rfl, hs26⟩
   replace hs26 := hs22.call0 hs26
   refine ⟨_, rfl, ?_⟩
   refine WL.val rfl rfl rfl (Run.idx Tryz.runUnderlying26 Tryz.sizeOf75 rfl rfl rfl ?_ ?_ ?_) ?_
   · exact SlF.some_ (SlF.ofOwn ho21 (hs26.ow L20))
   · first | omega | (obtain ⟨h1, h2, _, _⟩ := hln; omega)
   · first | omega | (obtain ⟨h1, h2, _, _⟩ := hln; omega)
   refine WL.storeF1 (x' := blankC) (hs26.fr L20) ho21 Tryz.sizeOf75 rfl rfl rfl rfl rfl rfl rfl rfl rfl ?_ rfl (fun L27 whs28 hs28 ho29 _ => ?_)
   · first | omega | (obtain ⟨h1, h2, _, _⟩ := hln; omega)
   replace hs28 := St.back [_] hs28
   refine WL.nil ?_
   refine hK25 _ _ ?_
   refine WC.region ?_
   refine WL.r 3 hs28 [] rfl ?_
   refine WL.nil ?_
   refine tkN ?_
   refine ⟨sbF rfl, _, (hs28.fr L27), _, ?_, i + 1, _, rfl, ?_, ?_, ?_, ho29, ⟨?_, trivial⟩⟩
   · omega
   · omega
   · rw [List.length_set]; exact p1
   · intro k hk; exact part_next (g := r4.Main.dat) (by omega) (by rw [p1]; omega) (clearF_in ⟨by omega, by omega⟩).symm (p2 k hk)
   · (refine congrArg some (congrArg (Value.int _) ?_); omega)
  ·refine WC.exit ?_
   refine tkE (tkE (ibE ?_))
   refine retK0 rfl ?_
   obtain ⟨L31, hs30, ho32⟩ := ownScrR.fl ((((hs22.fr L11).fr L10).fr L9).fr L20) ho21 ho13 ho14 ho15
   have hs33 := (hs30.fb b_s)
   refine ⟨⟨r4.W, r4.H, ⟨r4.Main.W, r4.Main.H, SlD.of ho21⟩, ⟨r4.Alt.W, r4.Alt.H, SlD.of ho13⟩, r4.OnAlt, r4.X, r4.Y, r4.Wrap, ⟨r4.A.Fg, r4.A.Bg, r4.A.Bold, r4.A.Under, r4.A.Turn⟩, r4.Top, r4.Bot, r4.NoWrap, r4.Hide, r4.SaveX, r4.SaveY, ⟨r4.SaveA.Fg, r4.SaveA.Bg, r4.SaveA.Bold, r4.SaveA.Under, r4.SaveA.Turn⟩, SlD.of ho14, r4.Limit, SlD.ofN ho15⟩, _, rfl, St.keepP (L1 := L31) ((hs33.fr L31).fb b_s), (by exact ho32), ?_⟩
   · rw [← hd7]; show _ = clearD r4.dat a b; rw [show clearD r4.dat a b = { r4.dat with Main := gmap r4.Main.dat (clearF r4.Main.dat a b) } from by unfold clearD putD shownD; rw [if_neg (show ¬ r4.dat.OnAlt = true from by have h8 : r4.OnAlt = s.OnAlt := congrArg ScrD.OnAlt hd7; show ¬ r4.OnAlt = true; rw [h8, hx]; decide), if_neg (show ¬ r4.dat.OnAlt = true from by have h8 : r4.OnAlt = s.OnAlt := congrArg ScrD.OnAlt hd7; show ¬ r4.OnAlt = true; rw [h8, hx]; decide)]; rfl]; exact ScrD.ext' rfl rfl (part_done (g := r4.Main.dat) (lo := a.toNat) (a := i) rfl rfl p1 (fun k hk h9 => clearF_out (by omega)) p2) rfl rfl rfl rfl rfl rfl rfl rfl rfl rfl rfl rfl rfl rfl rfl rfl
theorem c_impl_Scr_clear_alt (b_s : Nat) (s : ScrR) (L_s : Hp) (a : Int) (b : Int) (w : World) (hb_s : w.heap[b_s]? = some (Obj.cells (List.toArray (cScr s)) 33 (0, 0))) (o_s : ownScrR s L_s) (h_s : ∀ p, p ∈ L_s → w.heap[p.1]? = some p.2) (hd_ : (b_s :: L_s.map (·.1)).Nodup) (hab : 0 ≤ a ∧ b ≤ s.Alt.Cells.xs.length ∧ b ≤ 1048576 ∧ -1048576 ≤ b ∧ a ≤ 1048576) (hsmB : smScr 549755813888 s.dat) (hx : s.OnAlt = true) :
    Calls Tryz.prog 236 #[.pointer (some ⟨b_s, 0, none⟩), i64 a, i64 b] w fun e w' => ∃ r L1, e = .returned (.tuple #[]) ∧ St w (b_s :: L_s.map (·.1)) ([(b_s, Obj.cells (List.toArray (cScr r)) 33 (0, 0))] ++ L1) w' ∧ ownScrR r L1 ∧ r.dat = clearD s.dat a b := by
 refine enter 23 Tryz.func236 rfl Tryz.ntmps236 rfl rfl ?_
 have hs1 := St.takeP w b_s _ L_s hb_s h_s hd_
 refine WC.sr ?_
 refine WL.r 1 hs1 [] rfl ?_
 have hF2 : St _ _ ((_, _) :: (L_s ++ _)) _ := ((hs1.fr L_s).fb b_s)
 refine WL.cl Tryz.call223 rfl (c_impl_Scr_shown_alt _ s _ _ (St.headP hF2) o_s (St.ownP hF2) (St.nodupP hF2) ?_) ?_
 · first | (first | assumption | rfl | omega) | (assumption)
 rintro _ whs3 ⟨r4, L5, rfl, hs3, ho6, hd7⟩
 replace hs3 := St.lendP hF2 hs3
 refine ⟨_, rfl, ?_⟩
 have hrl : r4.Alt.Cells.xs.length = s.Alt.Cells.xs.length := congrArg (fun d : ScrD => d.Alt.Cells.length) hd7
 have hln := ownScrR.len ‹ownScrR r4 _›
 refine WL.val rfl rfl rfl (Run.nilCheck rfl rfl) ?_
 refine WL.r 3 hs3 [0] rfl ?_
 refine WL.nil ?_
 refine WC.r1 hs3 [] rfl ?_
 refine WC.block ?_
 obtain ⟨L8, L9, L10, L11, hs16, ho12, ho13, ho14, ho15⟩ := ownScrR.open_ (hs3.fr L5) ho6
 have hs17 := (hs16.fb b_s)
 refine WC.lO [2, 6] rfl (hs17.fr L9) (fun k_ f L_ => ∃ (i : Nat) (zs : List CellD), k_ = (b - a).toNat - i ∧ (i ≤ (b - a).toNat) ∧ (zs.length = r4.Alt.Cells.xs.length) ∧ (∀ k, k < r4.Alt.Cells.xs.length → cat zs k = partF r4.Alt.dat (clearF r4.Alt.dat a b) a.toNat i k) ∧ OwnF encCell 75 (.slice r4.Alt.Cells.A (r4.Alt.Cells.n) r4.Alt.Cells.c) (zs) L_ ∧ Sub [(7, .int .i64 (a + i))] f) (((fun (i : Nat) (zs : List CellD) => (b - a).toNat - i) (0) (r4.Alt.Cells.xs))) ?_ ?_
 ·refine ⟨0, r4.Alt.Cells.xs, rfl, ?_, ?_, ?_, ho13, ⟨?_, trivial⟩⟩
  · omega
  · rfl
  · intro k hk; rw [partF_zero]; rfl
  · (refine congrArg some (congrArg (Value.int _) ?_); omega)
 ·clear hs17
  rintro _ f w L20 ⟨i, zs, rfl, p0, p1, p2, ho21, hG⟩ hF hs22
  refine WC.sub _ (hG.app hF) ?_
  clear hG hF
  replace hs22 := St.back [_] hs22
  refine WC.seq (fun K23 hK23 => ?_)
  refine WC.r1 hs22 [] rfl ?_
  refine WC.cD rfl (fun qh24 => ?_) (fun qh24 => ?_)
  ·refine WC.skip ?_
   refine hK23 _ _ ?_
   refine WC.seq (fun K25 hK25 => ?_)
   refine WC.block ?_
   refine WC.region ?_
   refine WL.r 2 hs22 [] rfl ?_
   refine WL.cl Tryz.call253 rfl (c_impl_blank _) ?_
   rintro _ whs26 ⟨rfl, hs26⟩
   replace hs26 := hs22.call0 hs26
   refine ⟨_, rfl, ?_⟩
   refine WL.val rfl rfl rfl (Run.idx Tryz.runUnderlying26 Tryz.sizeOf75 rfl rfl rfl ?_ ?_ ?_) ?_
   · exact SlF.some_ (SlF.ofOwn ho21 (hs26.ow L20))
   · first | omega | (obtain ⟨h1, h2, _, _⟩ := hln; omega)
   · first | omega | (obtain ⟨h1, h2, _, _⟩ := hln; omega)
   refine WL.storeF1 (x' := blankC) (hs26.fr L20) ho21 Tryz.sizeOf75 rfl rfl rfl rfl rfl rfl rfl rfl rfl ?_ rfl (fun L27 whs28 hs28 ho29 _ => ?_)
   · first | omega | (obtain ⟨h1, h2, _, _⟩ := hln; omega)
   replace hs28 := St.back [_] hs28
   refine WL.nil ?_
   refine hK25 _ _ ?_
   refine WC.region ?_
   refine WL.r 3 hs28 [] rfl ?_
   refine WL.nil ?_
   refine tkN ?_
   refine ⟨sbF rfl, _, (hs28.fr L27), _, ?_, i + 1, _, rfl, ?_, ?_, ?_, ho29, ⟨?_, trivial⟩⟩
   · omega
   · omega
   · rw [List.length_set]; exact p1
   · intro k hk; exact part_next (g := r4.Alt.dat) (by omega) (by rw [p1]; omega) (clearF_in ⟨by omega, by omega⟩).symm (p2 k hk)
   · (refine congrArg some (congrArg (Value.int _) ?_); omega)
  ·refine WC.exit ?_
   refine tkE (tkE (ibE ?_))
   refine retK0 rfl ?_
   obtain ⟨L31, hs30, ho32⟩ := ownScrR.fl ((((hs22.fr L11).fr L10).fr L20).fr L8) ho12 ho21 ho14 ho15
   have hs33 := (hs30.fb b_s)
   refine ⟨⟨r4.W, r4.H, ⟨r4.Main.W, r4.Main.H, SlD.of ho12⟩, ⟨r4.Alt.W, r4.Alt.H, SlD.of ho21⟩, r4.OnAlt, r4.X, r4.Y, r4.Wrap, ⟨r4.A.Fg, r4.A.Bg, r4.A.Bold, r4.A.Under, r4.A.Turn⟩, r4.Top, r4.Bot, r4.NoWrap, r4.Hide, r4.SaveX, r4.SaveY, ⟨r4.SaveA.Fg, r4.SaveA.Bg, r4.SaveA.Bold, r4.SaveA.Under, r4.SaveA.Turn⟩, SlD.of ho14, r4.Limit, SlD.ofN ho15⟩, _, rfl, St.keepP (L1 := L31) ((hs33.fr L31).fb b_s), (by exact ho32), ?_⟩
   · rw [← hd7]; show _ = clearD r4.dat a b; rw [show clearD r4.dat a b = { r4.dat with Alt := gmap r4.Alt.dat (clearF r4.Alt.dat a b) } from by unfold clearD putD shownD; rw [if_pos (show  r4.dat.OnAlt = true from by have h8 : r4.OnAlt = s.OnAlt := congrArg ScrD.OnAlt hd7; show  r4.OnAlt = true; rw [h8, hx]), if_pos (show  r4.dat.OnAlt = true from by have h8 : r4.OnAlt = s.OnAlt := congrArg ScrD.OnAlt hd7; show  r4.OnAlt = true; rw [h8, hx])]; rfl]; exact ScrD.ext' rfl rfl rfl (part_done (g := r4.Alt.dat) (lo := a.toNat) (a := i) rfl rfl p1 (fun k hk h9 => clearF_out (by omega)) p2) rfl rfl rfl rfl rfl rfl rfl rfl rfl rfl rfl rfl rfl rfl rfl
theorem c_impl_Scr_clear (b_s : Nat) (s : ScrR) (L_s : Hp) (a : Int) (b : Int) (w : World) (hb_s : w.heap[b_s]? = some (Obj.cells (List.toArray (cScr s)) 33 (0, 0))) (o_s : ownScrR s L_s) (h_s : ∀ p, p ∈ L_s → w.heap[p.1]? = some p.2) (hd_ : (b_s :: L_s.map (·.1)).Nodup) (hab : 0 ≤ a ∧ a ≤ 1048576 ∧ b ≤ s.W * s.H ∧ -1048576 ≤ b) (hf : ScrFine s.dat) (hsmB : smScr 549755813888 s.dat) :
    Calls Tryz.prog 236 #[.pointer (some ⟨b_s, 0, none⟩), i64 a, i64 b] w fun e w' => ∃ r L1, e = .returned (.tuple #[]) ∧ St w (b_s :: L_s.map (·.1)) ([(b_s, Obj.cells (List.toArray (cScr r)) 33 (0, 0))] ++ L1) w' ∧ ownScrR r L1 ∧ r.dat = clearD s.dat a b := by
 have hz := isSize_bnd hf.size
 simp only [ScrR.dat] at hz
 have hgm := grid_len hf.gM
 have hga := grid_len hf.gA
 obtain ⟨d1, d2, d3, d4⟩ := hf.dim
 simp only [ScrR.dat, GridR.dat] at hgm hga d1 d2 d3 d4
 rw [d1, d2] at hgm
 rw [d3, d4] at hga
 rcases Bool.eq_false_or_eq_true s.OnAlt with hx_ | hx_
 · exact c_impl_Scr_clear_alt b_s s L_s a b w hb_s o_s h_s hd_ ⟨hab.1, by omega, by omega, by omega, by omega⟩ hsmB hx_
 · exact c_impl_Scr_clear_main b_s s L_s a b w hb_s o_s h_s hd_ ⟨hab.1, by omega, by omega, by omega, by omega⟩ hsmB hx_
theorem c_impl_Scr_erase (b_s : Nat) (s : ScrR) (L_s : Hp) (k : Int) (row : Bool) (w : World) (hb_s : w.heap[b_s]? = some (Obj.cells (List.toArray (cScr s)) 33 (0, 0))) (o_s : ownScrR s L_s) (h_s : ∀ p, p ∈ L_s → w.heap[p.1]? = some p.2) (hd_ : (b_s :: L_s.map (·.1)).Nodup) (hf : ScrFine s.dat) (hsmB : smScr 549755813888 s.dat) :
    Calls Tryz.prog 235 #[.pointer (some ⟨b_s, 0, none⟩), i64 k, .bool row] w fun e w' => ∃ r L1, e = .returned (.tuple #[]) ∧ St w (b_s :: L_s.map (·.1)) ([(b_s, Obj.cells (List.toArray (cScr r)) 33 (0, 0))] ++ L1) w' ∧ ownScrR r L1 ∧ r.dat = eraseD s.dat (if row = true then s.Y * s.W else 0) (if row = true then (s.Y + 1) * s.W else s.W * s.H) k := by
 have hwh : (1 ≤ s.W ∧ s.W ≤ 120) ∧ 1 ≤ s.H ∧ s.H ≤ 120 := ⟨(isSize_bnd hf.size).1, (isSize_bnd hf.size).2.1⟩
 have hxy := hf.pos
 simp only [ScrR.dat, GridR.dat] at hxy
 have hz := isSize_bnd hf.size
 simp only [ScrR.dat] at hz
 have hv0 : 0 ≤ s.Y * s.W := Int.mul_nonneg (by omega) (by omega)
 have hv1 : (s.Y + 1) * s.W = s.Y * s.W + s.W := by rw [Int.add_mul, Int.one_mul]
 have hv2 : (s.Y + 1) * s.W ≤ s.H * s.W := Int.mul_le_mul_of_nonneg_right (by omega) (by omega)
 rw [Int.mul_comm s.H s.W] at hv2
 refine enter 72 Tryz.func235 rfl Tryz.ntmps235 rfl rfl ?_
 have hs1 := St.takeP w b_s _ L_s hb_s h_s hd_
 refine WC.sq1 hs1 ?_
 refine WQ.r 1 [] rfl ?_
 refine WQ.val rfl rfl rfl (fun w_ hs_ => (Run.nilCheck rfl rfl)) ?_
 refine WQ.r 3 [0] rfl ?_
 refine WQ.val rfl rfl rfl (fun w_ hs_ => (Run.nilCheck rfl rfl)) ?_
 refine WQ.r 4 [0] rfl ?_
 refine WQ.val rfl rfl rfl (fun w_ hs_ => (Run.nilCheck rfl rfl)) ?_
 refine WQ.r 3 [0] rfl ?_
 refine WQ.val rfl rfl rfl (fun w_ hs_ => (Run.nilCheck rfl rfl)) ?_
 refine WQ.r 4 [0] rfl ?_
 refine WQ.val rfl rfl rfl (fun w_ hs_ => (Run.nilCheck rfl rfl)) ?_
 refine WQ.r 6 [0] rfl ?_
 refine WQ.nil (fun _ (hs2 : St _ _ _ _) => ?_)
 refine WC.seq (fun K3 hK3 => ?_)
 refine WC.r1 hs2 [] rfl ?_
 refine WC.cq rfl (fun h4 qh4 => ?_) (fun h4 qh4 => ?_)
 ·have hrow : row = true := by have h9 := h4; simpa using h9
  refine WC.regionQ (fun w' => St _ _ _ w') mixed (by kernel_rfl) hs2.drew ?_
  refine WQ.r 1 [] rfl ?_
  refine WQ.val rfl rfl rfl (fun w_ hs_ => (Run.nilCheck rfl rfl)) ?_
  refine WQ.r 3 [0] rfl ?_
  refine WQ.val rfl rfl rfl (fun w_ hs_ => (Run.nilCheck rfl rfl)) ?_
  refine WQ.r 4 [0] rfl ?_
  refine WQ.val rfl rfl rfl (fun w_ hs_ => (Run.nilCheck rfl rfl)) ?_
  refine WQ.r 4 [0] rfl ?_
  refine WQ.val rfl rfl rfl (fun w_ hs_ => (Run.nilCheck rfl rfl)) ?_
  refine WQ.r 5 [0] rfl ?_
  refine WQ.nil (fun _ (hs5 : St _ _ _ _) => ?_)
  refine hK3 _ _ ?_
  refine WC.r1 hs5 [] rfl ?_
  refine WC.block ?_
  refine WC.r1 hs5 [] rfl ?_
  refine WC.cq rfl (fun h6 qh6 => ?_) (fun h6 qh6 => ?_)
  ·have e0 : k = 0 := by have h9 := h6; simpa using h9
   refine WC.region ?_
   refine WL.r 3 hs5 [] rfl ?_
   have hF7 : St _ _ ((_, _) :: (L_s ++ _)) _ := ((hs5.fr L_s).fb b_s)
   refine WL.cl Tryz.call236 rfl (c_impl_Scr_clear _ s _ _ _ _ (St.headP hF7) o_s (St.ownP hF7) (St.nodupP hF7) ?_ ?_ ?_) ?_
   · first | (first | assumption | rfl | omega) | (first | assumption | (refine ⟨?_, ?_, ?_, ?_⟩ <;> omega))
   · first | (first | assumption | rfl | omega) | (first | assumption | (refine ⟨?_, ?_, ?_, ?_⟩ <;> omega))
   · first | (first | assumption | rfl | omega) | (first | assumption | (refine ⟨?_, ?_, ?_, ?_⟩ <;> omega))
   rintro _ whs8 ⟨r9, L10, rfl, hs8, ho11, hd12⟩
   replace hs8 := St.lendP hF7 hs8
   refine ⟨_, rfl, ?_⟩
   refine WL.nil ?_
   refine ibN ?_
   refine retK0 rfl ?_
   refine ⟨r9, _, rfl, St.keepP (L1 := L10) ((hs8.fr L10).fb b_s), ho11, ?_⟩
   · first | rw [if_pos hrow, if_pos hrow] | rw [if_neg hrow, if_neg hrow]
     unfold eraseD; rw [if_pos e0]; exact hd12
  ·have e0 : ¬ k = 0 := by have h9 := h6; simpa using h9
   refine WC.r1 hs5 [] rfl ?_
   refine WC.cq rfl (fun h13 qh13 => ?_) (fun h13 qh13 => ?_)
   ·have e1 : k = 1 := by have h9 := h13; simpa using h9
    refine WC.region ?_
    refine WL.r 4 hs5 [] rfl ?_
    have hF14 : St _ _ ((_, _) :: (L_s ++ _)) _ := ((hs5.fr L_s).fb b_s)
    refine WL.cl Tryz.call236 rfl (c_impl_Scr_clear _ s _ _ _ _ (St.headP hF14) o_s (St.ownP hF14) (St.nodupP hF14) ?_ ?_ ?_) ?_
    · first | (first | assumption | rfl | omega) | (first | assumption | (refine ⟨?_, ?_, ?_, ?_⟩ <;> omega))
    · first | (first | assumption | rfl | omega) | (first | assumption | (refine ⟨?_, ?_, ?_, ?_⟩ <;> omega))
    · first | (first | assumption | rfl | omega) | (first | assumption | (refine ⟨?_, ?_, ?_, ?_⟩ <;> omega))
    rintro _ whs15 ⟨r16, L17, rfl, hs15, ho18, hd19⟩
    replace hs15 := St.lendP hF14 hs15
    refine ⟨_, rfl, ?_⟩
    refine WL.nil ?_
    refine ibN ?_
    refine retK0 rfl ?_
    refine ⟨r16, _, rfl, St.keepP (L1 := L17) ((hs15.fr L17).fb b_s), ho18, ?_⟩
    · first | rw [if_pos hrow, if_pos hrow] | rw [if_neg hrow, if_neg hrow]
      unfold eraseD; rw [if_neg e0, if_pos e1]; exact hd19
   ·have e1 : ¬ k = 1 := by have h9 := h13; simpa using h9
    refine WC.r1 hs5 [] rfl ?_
    refine WC.cq rfl (fun h20 qh20 => ?_) (fun h20 qh20 => ?_)
    ·have e2 : k = 2 := by have h9 := h20; simpa using h9
     refine WC.region ?_
     refine WL.r 3 hs5 [] rfl ?_
     have hF21 : St _ _ ((_, _) :: (L_s ++ _)) _ := ((hs5.fr L_s).fb b_s)
     refine WL.cl Tryz.call236 rfl (c_impl_Scr_clear _ s _ _ _ _ (St.headP hF21) o_s (St.ownP hF21) (St.nodupP hF21) ?_ ?_ ?_) ?_
     · first | (first | assumption | rfl | omega) | (first | assumption | (refine ⟨?_, ?_, ?_, ?_⟩ <;> omega))
     · first | (first | assumption | rfl | omega) | (first | assumption | (refine ⟨?_, ?_, ?_, ?_⟩ <;> omega))
     · first | (first | assumption | rfl | omega) | (first | assumption | (refine ⟨?_, ?_, ?_, ?_⟩ <;> omega))
     rintro _ whs22 ⟨r23, L24, rfl, hs22, ho25, hd26⟩
     replace hs22 := St.lendP hF21 hs22
     refine ⟨_, rfl, ?_⟩
     refine WL.nil ?_
     refine ibN ?_
     refine retK0 rfl ?_
     refine ⟨r23, _, rfl, St.keepP (L1 := L24) ((hs22.fr L24).fb b_s), ho25, ?_⟩
     · first | rw [if_pos hrow, if_pos hrow] | rw [if_neg hrow, if_neg hrow]
       unfold eraseD; rw [if_neg e0, if_neg e1, if_pos e2]; exact hd26
    ·have e2 : ¬ k = 2 := by have h9 := h20; simpa using h9
     refine WC.skip ?_
     refine ibN ?_
     refine retK0 rfl ?_
     refine ⟨s, _, rfl, St.keepP (L1 := L_s) ((hs5.fr L_s).fb b_s), o_s, ?_⟩
     · first | rw [if_pos hrow, if_pos hrow] | rw [if_neg hrow, if_neg hrow]
       unfold eraseD; rw [if_neg e0, if_neg e1, if_neg e2]
 ·have hrow : ¬ row = true := by have h9 := h4; simpa using h9
  refine WC.skip ?_
  refine hK3 _ _ ?_
  refine WC.r1 hs2 [] rfl ?_
  refine WC.block ?_
  refine WC.r1 hs2 [] rfl ?_
  refine WC.cq rfl (fun h27 qh27 => ?_) (fun h27 qh27 => ?_)
  ·have e0 : k = 0 := by have h9 := h27; simpa using h9
   refine WC.region ?_
   refine WL.r 3 hs2 [] rfl ?_
   have hF28 : St _ _ ((_, _) :: (L_s ++ _)) _ := ((hs2.fr L_s).fb b_s)
   refine WL.cl Tryz.call236 rfl (c_impl_Scr_clear _ s _ _ _ _ (St.headP hF28) o_s (St.ownP hF28) (St.nodupP hF28) ?_ ?_ ?_) ?_
   · first | (first | assumption | rfl | omega) | (first | assumption | (refine ⟨?_, ?_, ?_, ?_⟩ <;> omega))
   · first | (first | assumption | rfl | omega) | (first | assumption | (refine ⟨?_, ?_, ?_, ?_⟩ <;> omega))
   · first | (first | assumption | rfl | omega) | (first | assumption | (refine ⟨?_, ?_, ?_, ?_⟩ <;> omega))
   rintro _ whs29 ⟨r30, L31, rfl, hs29, ho32, hd33⟩
   replace hs29 := St.lendP hF28 hs29
   refine ⟨_, rfl, ?_⟩
   refine WL.nil ?_
   refine ibN ?_
   refine retK0 rfl ?_
   refine ⟨r30, _, rfl, St.keepP (L1 := L31) ((hs29.fr L31).fb b_s), ho32, ?_⟩
   · first | rw [if_pos hrow, if_pos hrow] | rw [if_neg hrow, if_neg hrow]
     unfold eraseD; rw [if_pos e0]; exact hd33
  ·have e0 : ¬ k = 0 := by have h9 := h27; simpa using h9
   refine WC.r1 hs2 [] rfl ?_
   refine WC.cq rfl (fun h34 qh34 => ?_) (fun h34 qh34 => ?_)
   ·have e1 : k = 1 := by have h9 := h34; simpa using h9
    refine WC.region ?_
    refine WL.r 4 hs2 [] rfl ?_
    have hF35 : St _ _ ((_, _) :: (L_s ++ _)) _ := ((hs2.fr L_s).fb b_s)
    refine WL.cl Tryz.call236 rfl (c_impl_Scr_clear _ s _ _ _ _ (St.headP hF35) o_s (St.ownP hF35) (St.nodupP hF35) ?_ ?_ ?_) ?_
    · first | (first | assumption | rfl | omega) | (first | assumption | (refine ⟨?_, ?_, ?_, ?_⟩ <;> omega))
    · first | (first | assumption | rfl | omega) | (first | assumption | (refine ⟨?_, ?_, ?_, ?_⟩ <;> omega))
    · first | (first | assumption | rfl | omega) | (first | assumption | (refine ⟨?_, ?_, ?_, ?_⟩ <;> omega))
    rintro _ whs36 ⟨r37, L38, rfl, hs36, ho39, hd40⟩
    replace hs36 := St.lendP hF35 hs36
    refine ⟨_, rfl, ?_⟩
    refine WL.nil ?_
    refine ibN ?_
    refine retK0 rfl ?_
    refine ⟨r37, _, rfl, St.keepP (L1 := L38) ((hs36.fr L38).fb b_s), ho39, ?_⟩
    · first | rw [if_pos hrow, if_pos hrow] | rw [if_neg hrow, if_neg hrow]
      unfold eraseD; rw [if_neg e0, if_pos e1]; exact hd40
   ·have e1 : ¬ k = 1 := by have h9 := h34; simpa using h9
    refine WC.r1 hs2 [] rfl ?_
    refine WC.cq rfl (fun h41 qh41 => ?_) (fun h41 qh41 => ?_)
    ·have e2 : k = 2 := by have h9 := h41; simpa using h9
     refine WC.region ?_
     refine WL.r 3 hs2 [] rfl ?_
     have hF42 : St _ _ ((_, _) :: (L_s ++ _)) _ := ((hs2.fr L_s).fb b_s)
     refine WL.cl Tryz.call236 rfl (c_impl_Scr_clear _ s _ _ _ _ (St.headP hF42) o_s (St.ownP hF42) (St.nodupP hF42) ?_ ?_ ?_) ?_
     · first | (first | assumption | rfl | omega) | (first | assumption | (refine ⟨?_, ?_, ?_, ?_⟩ <;> omega))
     · first | (first | assumption | rfl | omega) | (first | assumption | (refine ⟨?_, ?_, ?_, ?_⟩ <;> omega))
     · first | (first | assumption | rfl | omega) | (first | assumption | (refine ⟨?_, ?_, ?_, ?_⟩ <;> omega))
     rintro _ whs43 ⟨r44, L45, rfl, hs43, ho46, hd47⟩
     replace hs43 := St.lendP hF42 hs43
     refine ⟨_, rfl, ?_⟩
     refine WL.nil ?_
     refine ibN ?_
     refine retK0 rfl ?_
     refine ⟨r44, _, rfl, St.keepP (L1 := L45) ((hs43.fr L45).fb b_s), ho46, ?_⟩
     · first | rw [if_pos hrow, if_pos hrow] | rw [if_neg hrow, if_neg hrow]
       unfold eraseD; rw [if_neg e0, if_neg e1, if_pos e2]; exact hd47
    ·have e2 : ¬ k = 2 := by have h9 := h41; simpa using h9
     refine WC.skip ?_
     refine ibN ?_
     refine retK0 rfl ?_
     refine ⟨s, _, rfl, St.keepP (L1 := L_s) ((hs2.fr L_s).fb b_s), o_s, ?_⟩
     · first | rw [if_pos hrow, if_pos hrow] | rw [if_neg hrow, if_neg hrow]
       unfold eraseD; rw [if_neg e0, if_neg e1, if_neg e2]
end Go.Proofs.YtjmegoiclgancaaGreat
namespace Go.Proofs.YtjmegoiclgancaaGreat
open Go Go.RowKit
set_option linter.unusedVariables false
set_option linter.unusedSimpArgs false
theorem built_30 : Tryz.prog.built 30 [] = some (List.toArray [.int .i64 0, .int .i64 0, .bool false, .bool false, .bool false]) := by kernel_rfl
theorem c_impl_Attr_one (b_a : Nat) (a : AttrD) (n : Int) (w : World) (hb : w.heap[b_a]? = some (Obj.cells (List.toArray [i64 a.Fg, i64 a.Bg, .bool a.Bold, .bool a.Under, .bool a.Turn]) 30 (0, 0))) (hn : 0 ≤ n ∧ n ≤ 9999) :
    Calls Tryz.prog 255 #[.pointer (some ⟨b_a, 0, none⟩), i64 n] w fun e w' => e = .returned (.tuple #[]) ∧ St w [b_a] [(b_a, Obj.cells (List.toArray [i64 (sgrOne a n).Fg, i64 (sgrOne a n).Bg, .bool (sgrOne a n).Bold, .bool (sgrOne a n).Under, .bool (sgrOne a n).Turn]) 30 (0, 0))] w' := by
 refine enter 74 Tryz.func255 rfl Tryz.ntmps255 rfl rfl ?_
 have hs1 := St.take1 w b_a _ hb
 refine WC.block ?_
 refine WC.r1 hs1 [] rfl ?_
 refine WC.cq rfl (fun h2 qh2 => ?_) (fun h2 qh2 => ?_)
 ·have e0 : n = 0 := by have h9 := h2; (try simp only [within_iff] at h9); first | exact h9 | (simp at h9; omega)
  refine WC.region ?_
  refine WL.r 1 hs1 [] rfl ?_
  refine WL.val rfl rfl rfl (Run.build rfl rfl rfl rfl (built_30)) ?_
  refine WL.val rfl rfl rfl (Run.nilCheck rfl rfl) ?_
  refine WL.st tbk hs1 0 rfl rfl (fun _ hs3 => ?_)
  refine WL.nil ?_
  refine ibN ?_
  refine retK0 rfl ?_
  refine ⟨rfl, ?_⟩
  unfold sgrOne
  rw [if_pos e0]
  exact hs3
 ·have e0 : ¬ (n = 0) := by have h9 := h2; (try simp only [within_not] at h9); first | exact h9 | (simp at h9; omega)
  refine WC.sr ?_
  refine WL.r 3 hs1 [] rfl ?_
  refine WL.pO tbk 2 Acts.nil hs1 [] rfl rfl rfl rfl (fun g_ => trivial) ?_
  refine WL.r 1 hs1 [] rfl ?_
  refine WL.nil ?_
  refine WC.cq rfl (fun h4 qh4 => ?_) (fun h4 qh4 => ?_)
  ·have e1 : n = 1 ∨ n = 22 := by have h9 := h4; (try simp only [within_iff] at h9); first | exact h9 | (simp at h9; omega)
   refine WC.region ?_
   refine WL.r 3 hs1 [] rfl ?_
   refine WL.val rfl rfl rfl (Run.nilCheck rfl rfl) ?_
   refine WL.r 1 hs1 [] rfl ?_
   refine WL.st tbk hs1 0 rfl rfl (fun _ hs5 => ?_)
   refine WL.nil ?_
   refine ibN ?_
   refine retK0 rfl ?_
   refine ⟨rfl, ?_⟩
   unfold sgrOne
   rw [if_neg e0, if_pos e1]
   exact hs5
  ·have e1 : ¬ (n = 1 ∨ n = 22) := by have h9 := h4; (try simp only [within_not] at h9); first | exact h9 | (simp at h9; omega)
   refine WC.sr ?_
   refine WL.r 3 hs1 [] rfl ?_
   refine WL.pO tbk 2 Acts.nil hs1 [] rfl rfl rfl rfl (fun g_ => trivial) ?_
   refine WL.r 1 hs1 [] rfl ?_
   refine WL.nil ?_
   refine WC.cq rfl (fun h6 qh6 => ?_) (fun h6 qh6 => ?_)
   ·have e4 : n = 4 ∨ n = 24 := by have h9 := h6; (try simp only [within_iff] at h9); first | exact h9 | (simp at h9; omega)
    refine WC.region ?_
    refine WL.r 3 hs1 [] rfl ?_
    refine WL.val rfl rfl rfl (Run.nilCheck rfl rfl) ?_
    refine WL.r 1 hs1 [] rfl ?_
    refine WL.st tbk hs1 0 rfl rfl (fun _ hs7 => ?_)
    refine WL.nil ?_
    refine ibN ?_
    refine retK0 rfl ?_
    refine ⟨rfl, ?_⟩
    unfold sgrOne
    rw [if_neg e0, if_neg e1, if_pos e4]
    exact hs7
   ·have e4 : ¬ (n = 4 ∨ n = 24) := by have h9 := h6; (try simp only [within_not] at h9); first | exact h9 | (simp at h9; omega)
    refine WC.sr ?_
    refine WL.r 3 hs1 [] rfl ?_
    refine WL.pO tbk 2 Acts.nil hs1 [] rfl rfl rfl rfl (fun g_ => trivial) ?_
    refine WL.r 1 hs1 [] rfl ?_
    refine WL.nil ?_
    refine WC.cq rfl (fun h8 qh8 => ?_) (fun h8 qh8 => ?_)
    ·have e7 : n = 7 ∨ n = 27 := by have h9 := h8; (try simp only [within_iff] at h9); first | exact h9 | (simp at h9; omega)
     refine WC.region ?_
     refine WL.r 3 hs1 [] rfl ?_
     refine WL.val rfl rfl rfl (Run.nilCheck rfl rfl) ?_
     refine WL.r 1 hs1 [] rfl ?_
     refine WL.st tbk hs1 0 rfl rfl (fun _ hs9 => ?_)
     refine WL.nil ?_
     refine ibN ?_
     refine retK0 rfl ?_
     refine ⟨rfl, ?_⟩
     unfold sgrOne
     rw [if_neg e0, if_neg e1, if_neg e4, if_pos e7]
     exact hs9
    ·have e7 : ¬ (n = 7 ∨ n = 27) := by have h9 := h8; (try simp only [within_not] at h9); first | exact h9 | (simp at h9; omega)
     refine WC.sr ?_
     refine WL.r 1 hs1 [] rfl ?_
     refine WL.cl Tryz.call97 rfl (c_impl_within _ _ _ _) ?_
     rintro _ whs10 ⟨rfl, hs10⟩
     replace hs10 := hs1.call0 hs10
     refine ⟨_, rfl, ?_⟩
     refine WL.r 1 hs10 [] rfl ?_
     refine WL.nil ?_
     refine WC.cq rfl (fun h11 qh11 => ?_) (fun h11 qh11 => ?_)
     ·have e30 : 30 ≤ n ∧ n ≤ 37 := by have h9 := h11; (try simp only [within_iff] at h9); first | exact h9 | (simp at h9; omega)
      refine WC.region ?_
      refine WL.r 3 hs10 [] rfl ?_
      refine WL.val rfl rfl rfl (Run.nilCheck rfl rfl) ?_
      refine WL.r 1 hs10 [] rfl ?_
      refine WL.st tbk hs10 0 rfl rfl (fun _ hs12 => ?_)
      refine WL.nil ?_
      refine ibN ?_
      refine retK0 rfl ?_
      refine ⟨rfl, ?_⟩
      unfold sgrOne
      rw [if_neg e0, if_neg e1, if_neg e4, if_neg e7, if_pos e30]
      exact hs12
     ·have e30 : ¬ (30 ≤ n ∧ n ≤ 37) := by have h9 := h11; (try simp only [within_not] at h9); first | exact h9 | (simp at h9; omega)
      refine WC.r1 hs10 [] rfl ?_
      refine WC.cq rfl (fun h13 qh13 => ?_) (fun h13 qh13 => ?_)
      ·have e39 : n = 39 := by have h9 := h13; (try simp only [within_iff] at h9); first | exact h9 | (simp at h9; omega)
       refine WC.region ?_
       refine WL.r 1 hs10 [] rfl ?_
       refine WL.val rfl rfl rfl (Run.nilCheck rfl rfl) ?_
       refine WL.r 1 hs10 [] rfl ?_
       refine WL.st tbk hs10 0 rfl rfl (fun _ hs14 => ?_)
       refine WL.nil ?_
       refine ibN ?_
       refine retK0 rfl ?_
       refine ⟨rfl, ?_⟩
       unfold sgrOne
       rw [if_neg e0, if_neg e1, if_neg e4, if_neg e7, if_neg e30, if_pos e39]
       exact hs14
      ·have e39 : ¬ (n = 39) := by have h9 := h13; (try simp only [within_not] at h9); first | exact h9 | (simp at h9; omega)
       refine WC.sr ?_
       refine WL.r 1 hs10 [] rfl ?_
       refine WL.cl Tryz.call97 rfl (c_impl_within _ _ _ _) ?_
       rintro _ whs15 ⟨rfl, hs15⟩
       replace hs15 := hs10.call0 hs15
       refine ⟨_, rfl, ?_⟩
       refine WL.r 1 hs15 [] rfl ?_
       refine WL.nil ?_
       refine WC.cq rfl (fun h16 qh16 => ?_) (fun h16 qh16 => ?_)
       ·have e40 : 40 ≤ n ∧ n ≤ 47 := by have h9 := h16; (try simp only [within_iff] at h9); first | exact h9 | (simp at h9; omega)
        refine WC.region ?_
        refine WL.r 3 hs15 [] rfl ?_
        refine WL.val rfl rfl rfl (Run.nilCheck rfl rfl) ?_
        refine WL.r 1 hs15 [] rfl ?_
        refine WL.st tbk hs15 0 rfl rfl (fun _ hs17 => ?_)
        refine WL.nil ?_
        refine ibN ?_
        refine retK0 rfl ?_
        refine ⟨rfl, ?_⟩
        unfold sgrOne
        rw [if_neg e0, if_neg e1, if_neg e4, if_neg e7, if_neg e30, if_neg e39, if_pos e40]
        exact hs17
       ·have e40 : ¬ (40 ≤ n ∧ n ≤ 47) := by have h9 := h16; (try simp only [within_not] at h9); first | exact h9 | (simp at h9; omega)
        refine WC.r1 hs15 [] rfl ?_
        refine WC.cq rfl (fun h18 qh18 => ?_) (fun h18 qh18 => ?_)
        ·have e49 : n = 49 := by have h9 := h18; (try simp only [within_iff] at h9); first | exact h9 | (simp at h9; omega)
         refine WC.region ?_
         refine WL.r 1 hs15 [] rfl ?_
         refine WL.val rfl rfl rfl (Run.nilCheck rfl rfl) ?_
         refine WL.r 1 hs15 [] rfl ?_
         refine WL.st tbk hs15 0 rfl rfl (fun _ hs19 => ?_)
         refine WL.nil ?_
         refine ibN ?_
         refine retK0 rfl ?_
         refine ⟨rfl, ?_⟩
         unfold sgrOne
         rw [if_neg e0, if_neg e1, if_neg e4, if_neg e7, if_neg e30, if_neg e39, if_neg e40, if_pos e49]
         exact hs19
        ·have e49 : ¬ (n = 49) := by have h9 := h18; (try simp only [within_not] at h9); first | exact h9 | (simp at h9; omega)
         refine WC.skip ?_
         refine ibN ?_
         refine retK0 rfl ?_
         refine ⟨rfl, ?_⟩
         unfold sgrOne
         rw [if_neg e0, if_neg e1, if_neg e4, if_neg e7, if_neg e30, if_neg e39, if_neg e40, if_neg e49]
         exact hs15
end Go.Proofs.YtjmegoiclgancaaGreat
namespace Go.Proofs.YtjmegoiclgancaaGreat
open Go Go.RowKit
set_option linter.unusedVariables false
set_option linter.unusedSimpArgs false
theorem c_impl_Sgr (a_Fg : Int) (a_Bg : Int) (a_Bold : Bool) (a_Under : Bool) (a_Turn : Bool) (A_l : Option Addr) (n_l c_l : Nat) (l : List Int) (w : World) (f_l : SlF encI w A_l n_l l) (hl : areArgs l = true) (hn : n_l ≤ 549755813888) :
    Calls Tryz.prog 238 #[.agg #[i64 a_Fg, i64 a_Bg, .bool a_Bold, .bool a_Under, .bool a_Turn], .slice A_l n_l c_l] w fun e w' => ∃ r : AttrD, e = .returned (.agg #[i64 r.Fg, i64 r.Bg, .bool r.Bold, .bool r.Under, .bool r.Turn]) ∧ St w [] [] w' ∧ r = sgrRes (⟨a_Fg, a_Bg, a_Bold, a_Under, a_Turn⟩ : AttrD) l := by
 have hll := f_l.len
 refine enter 25 Tryz.func238 rfl Tryz.ntmps238 rfl rfl ?_
 have hs1 := St.init w
 refine WC.sr ?_
 refine WL.bx hs1 rfl (fun b2 _ hs3 => ?_)
 refine WL.al hs3 Tryz.zeroValue30 rfl rfl (fun b4 _ hs5 => ?_)
 refine WL.nil ?_
 refine WC.seq (fun K6 hK6 => ?_)
 refine WC.sr ?_
 refine WL.r 1 hs5 [1] rfl ?_
 refine WL.cl Tryz.call95 rfl (c_impl_AttrOk _ _ _ _ _ _) ?_
 rintro _ whs7 ⟨rfl, hs7⟩
 replace hs7 := hs5.call0 hs7
 refine ⟨_, rfl, ?_⟩
 refine WL.r 1 hs7 [] rfl ?_
 refine WL.nil ?_
 refine WC.cq rfl (fun h8 qh8 => ?_) (fun h8 qh8 => ?_)
 ·have hk : ¬ (attrOk a_Fg a_Bg = true ∧ 0 < l.length) := by rintro ⟨z7, z8⟩; have h9 := h8; first | (simp [z7] at h9; omega) | (simp [z7] at h9)
  refine WC.sr ?_
  refine WL.val rfl rfl rfl (Run.build rfl rfl rfl rfl (built_30)) ?_
  refine WL.st tbk hs7 0 rfl rfl (fun _ hs9 => ?_)
  refine WL.nil ?_
  refine WC.ret ?_
  refine tkR ?_
  clear hK6
  refine retV1 rfl (resV.cellA tbk hs9 0 rfl rfl rfl rfl) ?_
  exact ⟨⟨0, 0, false, false, false⟩, rfl, hs9.nil, by unfold sgrRes; rw [if_neg hk]⟩
 ·have hc0 := h8
  refine WC.skip ?_
  refine hK6 _ _ ?_
  refine WC.seq (fun K10 hK10 => ?_)
  refine WC.r1 hs7 [] rfl ?_
  refine WC.cq rfl (fun h11 qh11 => ?_) (fun h11 qh11 => ?_)
  ·have hk : ¬ (attrOk a_Fg a_Bg = true ∧ 0 < l.length) := by rintro ⟨z7, z8⟩; have h9 := h11; first | (simp [z7] at h9; omega) | (simp [z7] at h9)
   refine WC.sr ?_
   refine WL.val rfl rfl rfl (Run.build rfl rfl rfl rfl (built_30)) ?_
   refine WL.st tbk hs7 0 rfl rfl (fun _ hs12 => ?_)
   refine WL.nil ?_
   refine WC.ret ?_
   refine tkR ?_
   clear hK10
   refine retV1 rfl (resV.cellA tbk hs12 0 rfl rfl rfl rfl) ?_
   exact ⟨⟨0, 0, false, false, false⟩, rfl, hs12.nil, by unfold sgrRes; rw [if_neg hk]⟩
  ·have hc1 := h11
   have hk2 : attrOk a_Fg a_Bg = true ∧ 0 < l.length := by (try simp at hc0); (try simp at hc1); first | exact ⟨hc0, by omega⟩ | exact ⟨hc0.1, by omega⟩
   refine WC.skip ?_
   refine hK10 _ _ ?_
   refine WC.seq (fun K13 hK13 => ?_)
   refine WC.r1 hs7 [] rfl ?_
   refine WC.block ?_
   have hM14 := (St.grp0 [_] (hs7.fb b2))
   refine WC.lV [2, 4, 9, 13, 15, 16] rfl hM14 (fun k_ (a_ : Hp) f => ∃ (i : Nat) (q : AttrD), k_ = n_l - i ∧ a_ = [(b2, .cells (List.toArray [i64 q.Fg, i64 q.Bg, .bool q.Bold, .bool q.Under, .bool q.Turn]) 30 (0, 0))] ∧ (i ≤ n_l) ∧ (q = sgrAll (⟨a_Fg, a_Bg, a_Bold, a_Under, a_Turn⟩ : AttrD) (l.take i)) ∧ Sub [(17, .int .i64 i)] f) (((fun (i : Nat) (q : AttrD) => n_l - i) (0) ((⟨a_Fg, a_Bg, a_Bold, a_Under, a_Turn⟩ : AttrD)))) ?_ ?_
   ·refine ⟨0, (⟨a_Fg, a_Bg, a_Bold, a_Under, a_Turn⟩ : AttrD), rfl, rfl, ?_, ?_, ⟨rfl, trivial⟩⟩
    · exact Nat.zero_le _
    · rfl
   ·rintro _ _ f w ⟨i, q, rfl, rfl, p0, p1, hG⟩ hF hs15
    refine WC.sub _ (hG.app hF) ?_
    clear hG hF
    replace hs15 := St.ungrp0 [_] hs15
    have hs16 := ((hs15.fb b4).fb b2)
    refine WC.r1 hs16 [] rfl ?_
    refine WC.seq (fun K17 hK17 => ?_)
    refine WC.cq rfl (fun h18 qh18 => ?_) (fun h18 qh18 => ?_)
    ·have hnn := (areArgs_iff.1 hl).2 _ (gat_mem (F := encI) (show i < l.length by omega))
     refine WC.skip ?_
     refine hK17 _ _ ?_
     refine WC.seq (fun K19 hK19 => ?_)
     refine WC.block ?_
     refine WC.sr ?_
     refine WL.val rfl rfl rfl (Run.idxN Tryz.runUnderlying23 Tryz.sizeOf3 rfl rfl rfl ?_ ?_ ?_) ?_
     · exact SlF.some_ (SlF.st0 f_l hs16)
     · omega
     · omega
     refine WL.val rfl rfl rfl (Run.load Tryz.isAgg3 rfl rfl (SlF.one1 (SlF.st0 f_l hs16) ?_ rfl)) ?_
     · omega
     refine WL.r 1 hs16 [] rfl ?_
     refine WL.nil ?_
     refine WC.region ?_
     refine WL.r 1 hs16 [] rfl ?_
     have hF20 : St _ _ ([(b2, _)] ++ _) _ := hs16
     refine WL.call rfl rfl rfl (Run.call Tryz.call255 rfl rfl rfl) (c_impl_Attr_one _ q _ _ (hF20.own _ List.mem_cons_self).1 ?_) ?_
     · omega
     rintro _ whs21 ⟨rfl, hs21⟩
     replace hs21 := St.lend hF20 hs21
     refine ⟨_, rfl, ?_⟩
     refine WL.nil ?_
     refine hK19 _ _ ?_
     refine WC.region ?_
     refine WL.r 2 hs21 [] rfl ?_
     refine WL.nil ?_
     refine tkN ?_
     have hF22 := (St.grp0 [_] ((hs21.fb b4).fb b2))
     refine ⟨sbF rfl, _, hF22, _, ?_, i + 1, (sgrOne q (gat encI l i)), rfl, rfl, ?_, ?_, ⟨rfl, trivial⟩⟩
     · omega
     · omega
     · rw [sgrAll_take (by omega), ← p1]
    ·refine WC.exit ?_
     refine hK13 _ _ ?_
     refine WC.sr ?_
     refine WL.r 1 hs16 [0] rfl ?_
     refine WL.st tbk hs16 1 rfl rfl (fun _ hs23 => ?_)
     refine WL.nil ?_
     refine WC.ret ?_
     refine retV1 rfl (resV.cellA tbk hs23 1 rfl rfl rfl rfl) ?_
     exact ⟨q, rfl, hs23.nil, by unfold sgrRes; rw [if_pos hk2, p1, List.take_of_length_le (by omega)]⟩
theorem c_spec_l06One (a_Fg : Int) (a_Bg : Int) (a_Bold : Bool) (a_Under : Bool) (a_Turn : Bool) (n : Int) (w : World) (hn : 0 ≤ n ∧ n ≤ 9999) :
    Calls Tryz.prog 232 #[.agg #[i64 a_Fg, i64 a_Bg, .bool a_Bold, .bool a_Under, .bool a_Turn], i64 n] w fun e w' => ∃ r : AttrD, e = .returned (.agg #[i64 r.Fg, i64 r.Bg, .bool r.Bold, .bool r.Under, .bool r.Turn]) ∧ St w [] [] w' ∧ r = sgrOne (⟨a_Fg, a_Bg, a_Bold, a_Under, a_Turn⟩ : AttrD) n := by
 refine enter 68 Tryz.func232 rfl Tryz.ntmps232 rfl rfl ?_
 have hs1 := St.init w
 refine WC.sr ?_
 refine WL.bx hs1 rfl (fun b2 _ hs3 => ?_)
 refine WL.al hs3 Tryz.zeroValue30 rfl rfl (fun b4 _ hs5 => ?_)
 refine WL.nil ?_
 refine WC.seq (fun K6 hK6 => ?_)
 refine WC.block ?_
 refine WC.r1 hs5 [] rfl ?_
 refine WC.cq rfl (fun h7 qh7 => ?_) (fun h7 qh7 => ?_)
 ·have e0 : n = 0 := by have h9 := h7; simp at h9; first | exact h9 | omega
  refine WC.sr ?_
  refine WL.val rfl rfl rfl (Run.build rfl rfl rfl rfl (built_30)) ?_
  refine WL.st tbk hs5 0 rfl rfl (fun _ hs8 => ?_)
  refine WL.nil ?_
  refine WC.ret ?_
  refine ibR (tkR ?_)
  clear hK6
  refine retV1 rfl (resV.cellA tbk hs8 0 rfl rfl rfl rfl) ?_
  refine ⟨sgrOne (⟨a_Fg, a_Bg, a_Bold, a_Under, a_Turn⟩ : AttrD) n, congrArg Ending.returned ?_, hs8.nil, rfl⟩
  unfold sgrOne
  rw [if_pos e0]
  try rfl
 ·have e0 : ¬ (n = 0) := by intro h8; have h9 := h7; simp at h9; omega
  refine WC.sr ?_
  refine WL.r 3 hs5 [] rfl ?_
  refine WL.pO tbk 2 Acts.nil hs5 [] rfl rfl rfl rfl (fun g_ => trivial) ?_
  refine WL.r 1 hs5 [] rfl ?_
  refine WL.nil ?_
  refine WC.cq rfl (fun h9 qh9 => ?_) (fun h9 qh9 => ?_)
  ·have e1 : n = 1 ∨ n = 22 := by have h9 := h9; simp at h9; first | exact h9 | omega
   refine WC.region ?_
   refine WL.r 3 hs5 [] rfl ?_
   refine WL.st tbk hs5 1 rfl rfl (fun _ hs10 => ?_)
   refine WL.nil ?_
   refine hK6 _ _ ?_
   refine WC.sr ?_
   refine WL.r 1 hs10 [1] rfl ?_
   refine WL.st tbk hs10 0 rfl rfl (fun _ hs11 => ?_)
   refine WL.nil ?_
   refine WC.ret ?_
   refine retV1 rfl (resV.cellA tbk hs11 0 rfl rfl rfl rfl) ?_
   refine ⟨sgrOne (⟨a_Fg, a_Bg, a_Bold, a_Under, a_Turn⟩ : AttrD) n, congrArg Ending.returned ?_, hs11.nil, rfl⟩
   unfold sgrOne
   rw [if_neg e0, if_pos e1]
   try rfl
  ·have e1 : ¬ (n = 1 ∨ n = 22) := by intro h8; have h9 := h9; simp at h9; omega
   refine WC.sr ?_
   refine WL.r 3 hs5 [] rfl ?_
   refine WL.pO tbk 2 Acts.nil hs5 [] rfl rfl rfl rfl (fun g_ => trivial) ?_
   refine WL.r 1 hs5 [] rfl ?_
   refine WL.nil ?_
   refine WC.cq rfl (fun h12 qh12 => ?_) (fun h12 qh12 => ?_)
   ·have e4 : n = 4 ∨ n = 24 := by have h9 := h12; simp at h9; first | exact h9 | omega
    refine WC.region ?_
    refine WL.r 3 hs5 [] rfl ?_
    refine WL.st tbk hs5 1 rfl rfl (fun _ hs13 => ?_)
    refine WL.nil ?_
    refine hK6 _ _ ?_
    refine WC.sr ?_
    refine WL.r 1 hs13 [1] rfl ?_
    refine WL.st tbk hs13 0 rfl rfl (fun _ hs14 => ?_)
    refine WL.nil ?_
    refine WC.ret ?_
    refine retV1 rfl (resV.cellA tbk hs14 0 rfl rfl rfl rfl) ?_
    refine ⟨sgrOne (⟨a_Fg, a_Bg, a_Bold, a_Under, a_Turn⟩ : AttrD) n, congrArg Ending.returned ?_, hs14.nil, rfl⟩
    unfold sgrOne
    rw [if_neg e0, if_neg e1, if_pos e4]
    try rfl
   ·have e4 : ¬ (n = 4 ∨ n = 24) := by intro h8; have h9 := h12; simp at h9; omega
    refine WC.sr ?_
    refine WL.r 3 hs5 [] rfl ?_
    refine WL.pO tbk 2 Acts.nil hs5 [] rfl rfl rfl rfl (fun g_ => trivial) ?_
    refine WL.r 1 hs5 [] rfl ?_
    refine WL.nil ?_
    refine WC.cq rfl (fun h15 qh15 => ?_) (fun h15 qh15 => ?_)
    ·have e7 : n = 7 ∨ n = 27 := by have h9 := h15; simp at h9; first | exact h9 | omega
     refine WC.region ?_
     refine WL.r 3 hs5 [] rfl ?_
     refine WL.st tbk hs5 1 rfl rfl (fun _ hs16 => ?_)
     refine WL.nil ?_
     refine hK6 _ _ ?_
     refine WC.sr ?_
     refine WL.r 1 hs16 [1] rfl ?_
     refine WL.st tbk hs16 0 rfl rfl (fun _ hs17 => ?_)
     refine WL.nil ?_
     refine WC.ret ?_
     refine retV1 rfl (resV.cellA tbk hs17 0 rfl rfl rfl rfl) ?_
     refine ⟨sgrOne (⟨a_Fg, a_Bg, a_Bold, a_Under, a_Turn⟩ : AttrD) n, congrArg Ending.returned ?_, hs17.nil, rfl⟩
     unfold sgrOne
     rw [if_neg e0, if_neg e1, if_neg e4, if_pos e7]
     try rfl
    ·have e7 : ¬ (n = 7 ∨ n = 27) := by intro h8; have h9 := h15; simp at h9; omega
     refine WC.sr ?_
     refine WL.r 3 hs5 [] rfl ?_
     refine WL.pA tbk 2 Acts.nil hs5 [] rfl rfl rfl rfl (fun g_ => trivial) ?_
     refine WL.r 1 hs5 [] rfl ?_
     refine WL.nil ?_
     refine WC.cq rfl (fun h18 qh18 => ?_) (fun h18 qh18 => ?_)
     ·have e30 : 30 ≤ n ∧ n ≤ 37 := by have h9 := h18; simp at h9; first | exact h9 | omega
      refine WC.region ?_
      refine WL.r 3 hs5 [] rfl ?_
      refine WL.st tbk hs5 1 rfl rfl (fun _ hs19 => ?_)
      refine WL.nil ?_
      refine hK6 _ _ ?_
      refine WC.sr ?_
      refine WL.r 1 hs19 [1] rfl ?_
      refine WL.st tbk hs19 0 rfl rfl (fun _ hs20 => ?_)
      refine WL.nil ?_
      refine WC.ret ?_
      refine retV1 rfl (resV.cellA tbk hs20 0 rfl rfl rfl rfl) ?_
      refine ⟨sgrOne (⟨a_Fg, a_Bg, a_Bold, a_Under, a_Turn⟩ : AttrD) n, congrArg Ending.returned ?_, hs20.nil, rfl⟩
      unfold sgrOne
      rw [if_neg e0, if_neg e1, if_neg e4, if_neg e7, if_pos e30]
      try rfl
     ·have e30 : ¬ (30 ≤ n ∧ n ≤ 37) := by intro h8; have h9 := h18; simp at h9; omega
      refine WC.r1 hs5 [] rfl ?_
      refine WC.cq rfl (fun h21 qh21 => ?_) (fun h21 qh21 => ?_)
      ·have e39 : n = 39 := by have h9 := h21; simp at h9; first | exact h9 | omega
       refine WC.region ?_
       refine WL.r 1 hs5 [] rfl ?_
       refine WL.st tbk hs5 1 rfl rfl (fun _ hs22 => ?_)
       refine WL.nil ?_
       refine hK6 _ _ ?_
       refine WC.sr ?_
       refine WL.r 1 hs22 [1] rfl ?_
       refine WL.st tbk hs22 0 rfl rfl (fun _ hs23 => ?_)
       refine WL.nil ?_
       refine WC.ret ?_
       refine retV1 rfl (resV.cellA tbk hs23 0 rfl rfl rfl rfl) ?_
       refine ⟨sgrOne (⟨a_Fg, a_Bg, a_Bold, a_Under, a_Turn⟩ : AttrD) n, congrArg Ending.returned ?_, hs23.nil, rfl⟩
       unfold sgrOne
       rw [if_neg e0, if_neg e1, if_neg e4, if_neg e7, if_neg e30, if_pos e39]
       try rfl
      ·have e39 : ¬ (n = 39) := by intro h8; have h9 := h21; simp at h9; omega
       refine WC.sr ?_
       refine WL.r 3 hs5 [] rfl ?_
       refine WL.pA tbk 2 Acts.nil hs5 [] rfl rfl rfl rfl (fun g_ => trivial) ?_
       refine WL.r 1 hs5 [] rfl ?_
       refine WL.nil ?_
       refine WC.cq rfl (fun h24 qh24 => ?_) (fun h24 qh24 => ?_)
       ·have e40 : 40 ≤ n ∧ n ≤ 47 := by have h9 := h24; simp at h9; first | exact h9 | omega
        refine WC.region ?_
        refine WL.r 3 hs5 [] rfl ?_
        refine WL.st tbk hs5 1 rfl rfl (fun _ hs25 => ?_)
        refine WL.nil ?_
        refine hK6 _ _ ?_
        refine WC.sr ?_
        refine WL.r 1 hs25 [1] rfl ?_
        refine WL.st tbk hs25 0 rfl rfl (fun _ hs26 => ?_)
        refine WL.nil ?_
        refine WC.ret ?_
        refine retV1 rfl (resV.cellA tbk hs26 0 rfl rfl rfl rfl) ?_
        refine ⟨sgrOne (⟨a_Fg, a_Bg, a_Bold, a_Under, a_Turn⟩ : AttrD) n, congrArg Ending.returned ?_, hs26.nil, rfl⟩
        unfold sgrOne
        rw [if_neg e0, if_neg e1, if_neg e4, if_neg e7, if_neg e30, if_neg e39, if_pos e40]
        try rfl
       ·have e40 : ¬ (40 ≤ n ∧ n ≤ 47) := by intro h8; have h9 := h24; simp at h9; omega
        refine WC.r1 hs5 [] rfl ?_
        refine WC.cq rfl (fun h27 qh27 => ?_) (fun h27 qh27 => ?_)
        ·have e49 : n = 49 := by have h9 := h27; simp at h9; first | exact h9 | omega
         refine WC.region ?_
         refine WL.r 1 hs5 [] rfl ?_
         refine WL.st tbk hs5 1 rfl rfl (fun _ hs28 => ?_)
         refine WL.nil ?_
         refine hK6 _ _ ?_
         refine WC.sr ?_
         refine WL.r 1 hs28 [1] rfl ?_
         refine WL.st tbk hs28 0 rfl rfl (fun _ hs29 => ?_)
         refine WL.nil ?_
         refine WC.ret ?_
         refine retV1 rfl (resV.cellA tbk hs29 0 rfl rfl rfl rfl) ?_
         refine ⟨sgrOne (⟨a_Fg, a_Bg, a_Bold, a_Under, a_Turn⟩ : AttrD) n, congrArg Ending.returned ?_, hs29.nil, rfl⟩
         unfold sgrOne
         rw [if_neg e0, if_neg e1, if_neg e4, if_neg e7, if_neg e30, if_neg e39, if_neg e40, if_pos e49]
         try rfl
        ·have e49 : ¬ (n = 49) := by intro h8; have h9 := h27; simp at h9; omega
         refine WC.skip ?_
         refine hK6 _ _ ?_
         refine WC.sr ?_
         refine WL.r 1 hs5 [1] rfl ?_
         refine WL.st tbk hs5 0 rfl rfl (fun _ hs30 => ?_)
         refine WL.nil ?_
         refine WC.ret ?_
         refine retV1 rfl (resV.cellA tbk hs30 0 rfl rfl rfl rfl) ?_
         refine ⟨sgrOne (⟨a_Fg, a_Bg, a_Bold, a_Under, a_Turn⟩ : AttrD) n, congrArg Ending.returned ?_, hs30.nil, rfl⟩
         unfold sgrOne
         rw [if_neg e0, if_neg e1, if_neg e4, if_neg e7, if_neg e30, if_neg e39, if_neg e40, if_neg e49]
         try rfl
theorem c_spec_Sgr (a_Fg : Int) (a_Bg : Int) (a_Bold : Bool) (a_Under : Bool) (a_Turn : Bool) (A_l : Option Addr) (n_l c_l : Nat) (l : List Int) (w : World) (f_l : SlF encI w A_l n_l l) (hl : areArgs l = true) (hn : n_l ≤ 549755813888) :
    Calls Tryz.prog 184 #[.agg #[i64 a_Fg, i64 a_Bg, .bool a_Bold, .bool a_Under, .bool a_Turn], .slice A_l n_l c_l] w fun e w' => ∃ r : AttrD, e = .returned (.agg #[i64 r.Fg, i64 r.Bg, .bool r.Bold, .bool r.Under, .bool r.Turn]) ∧ St w [] [] w' ∧ r = sgrRes (⟨a_Fg, a_Bg, a_Bold, a_Under, a_Turn⟩ : AttrD) l := by
 have hll := f_l.len
 refine enter 27 Tryz.func184 rfl Tryz.ntmps184 rfl rfl ?_
 have hs1 := St.init w
 refine WC.sr ?_
 refine WL.bx hs1 rfl (fun b2 _ hs3 => ?_)
 refine WL.al hs3 Tryz.zeroValue30 rfl rfl (fun b4 _ hs5 => ?_)
 refine WL.nil ?_
 refine WC.seq (fun K6 hK6 => ?_)
 refine WC.sr ?_
 refine WL.r 1 hs5 [1] rfl ?_
 refine WL.cl Tryz.call139 rfl (c_spec_AttrOk _ _ _ _ _ _) ?_
 rintro _ whs7 ⟨rfl, hs7⟩
 replace hs7 := hs5.call0 hs7
 refine ⟨_, rfl, ?_⟩
 refine WL.r 2 hs7 [] rfl ?_
 refine WL.pO tbk 3 Acts.nil hs7 [] rfl rfl rfl rfl (fun g_ => trivial) ?_
 refine WL.nil ?_
 refine WC.cq rfl (fun h8 qh8 => ?_) (fun h8 qh8 => ?_)
 ·have hk : ¬ (attrOk a_Fg a_Bg = true ∧ 0 < l.length) := by rintro ⟨z7, z8⟩; have h9 := h8; first | (simp [z7] at h9; omega) | (simp [z7] at h9)
  refine WC.sr ?_
  refine WL.val rfl rfl rfl (Run.build rfl rfl rfl rfl (built_30)) ?_
  refine WL.st tbk hs7 0 rfl rfl (fun _ hs9 => ?_)
  refine WL.nil ?_
  refine WC.ret ?_
  refine tkR ?_
  clear hK6
  refine retV1 rfl (resV.cellA tbk hs9 0 rfl rfl rfl rfl) ?_
  exact ⟨⟨0, 0, false, false, false⟩, rfl, hs9.nil, by unfold sgrRes; rw [if_neg hk]⟩
 ·have hc0 := h8
  have hk2 : attrOk a_Fg a_Bg = true ∧ 0 < l.length := by (try simp at hc0); (try simp at hc1); first | exact ⟨hc0, by omega⟩ | exact ⟨hc0.1, by omega⟩
  refine WC.skip ?_
  refine hK6 _ _ ?_
  refine WC.seq (fun K10 hK10 => ?_)
  refine WC.r1 hs7 [] rfl ?_
  refine WC.block ?_
  have hM11 := (St.grp0 [_] (hs7.fb b2))
  refine WC.lV [2, 4, 14, 16, 17] rfl hM11 (fun k_ (a_ : Hp) f => ∃ (i : Nat) (q : AttrD), k_ = n_l - i ∧ a_ = [(b2, .cells (List.toArray [i64 q.Fg, i64 q.Bg, .bool q.Bold, .bool q.Under, .bool q.Turn]) 30 (0, 0))] ∧ (i ≤ n_l) ∧ (q = sgrAll (⟨a_Fg, a_Bg, a_Bold, a_Under, a_Turn⟩ : AttrD) (l.take i)) ∧ Sub [(18, .int .i64 i)] f) (((fun (i : Nat) (q : AttrD) => n_l - i) (0) ((⟨a_Fg, a_Bg, a_Bold, a_Under, a_Turn⟩ : AttrD)))) ?_ ?_
  ·refine ⟨0, (⟨a_Fg, a_Bg, a_Bold, a_Under, a_Turn⟩ : AttrD), rfl, rfl, ?_, ?_, ⟨rfl, trivial⟩⟩
   · exact Nat.zero_le _
   · rfl
  ·rintro _ _ f w ⟨i, q, rfl, rfl, p0, p1, hG⟩ hF hs12
   refine WC.sub _ (hG.app hF) ?_
   clear hG hF
   replace hs12 := St.ungrp0 [_] hs12
   have hs13 := ((hs12.fb b4).fb b2)
   refine WC.r1 hs13 [] rfl ?_
   refine WC.seq (fun K14 hK14 => ?_)
   refine WC.cq rfl (fun h15 qh15 => ?_) (fun h15 qh15 => ?_)
   ·have hnn := (areArgs_iff.1 hl).2 _ (gat_mem (F := encI) (show i < l.length by omega))
    refine WC.skip ?_
    refine hK14 _ _ ?_
    refine WC.seq (fun K16 hK16 => ?_)
    refine WC.block ?_
    refine WC.sr ?_
    refine WL.val rfl rfl rfl (Run.idxN Tryz.runUnderlying23 Tryz.sizeOf3 rfl rfl rfl ?_ ?_ ?_) ?_
    · exact SlF.some_ (SlF.st0 f_l hs13)
    · omega
    · omega
    refine WL.val rfl rfl rfl (Run.load Tryz.isAgg3 rfl rfl (SlF.one1 (SlF.st0 f_l hs13) ?_ rfl)) ?_
    · omega
    refine WL.r 1 hs13 [] rfl ?_
    refine WL.nil ?_
    refine WC.region ?_
    refine WL.r 2 hs13 [0] rfl ?_
    refine WL.cl Tryz.call232 rfl (c_spec_l06One _ _ _ _ _ _ _ ?_) ?_
    · first | (first | assumption | rfl | omega) | (first | assumption | omega)
    rintro _ whs17 ⟨r18, rfl, hs17, hr19⟩
    replace hs17 := hs13.callF hs17
    refine ⟨_, rfl, ?_⟩
    rw [List.nil_append] at hs17
    replace hs17 := St.perm hs17 (L' := [_, _] ++ _) pR
    refine WL.st tbk hs17 0 rfl rfl (fun _ hs20 => ?_)
    refine WL.nil ?_
    refine hK16 _ _ ?_
    refine WC.region ?_
    refine WL.r 2 hs20 [] rfl ?_
    refine WL.nil ?_
    refine tkN ?_
    have hF21 := (St.grp0 [_] ((hs20.fb b4).fb b2))
    refine ⟨sbF rfl, _, hF21, _, ?_, i + 1, r18, rfl, rfl, ?_, ?_, ⟨rfl, trivial⟩⟩
    · omega
    · omega
    · rw [sgrAll_take (by omega), ← p1]; exact hr19
   ·refine WC.exit ?_
    refine hK10 _ _ ?_
    refine WC.sr ?_
    refine WL.r 1 hs13 [0] rfl ?_
    refine WL.st tbk hs13 1 rfl rfl (fun _ hs22 => ?_)
    refine WL.nil ?_
    refine WC.ret ?_
    refine retV1 rfl (resV.cellA tbk hs22 1 rfl rfl rfl rfl) ?_
    exact ⟨q, rfl, hs22.nil, by unfold sgrRes; rw [if_pos hk2, p1, List.take_of_length_le (by omega)]⟩
end Go.Proofs.YtjmegoiclgancaaGreat
namespace Go.Proofs.YtjmegoiclgancaaGreat
open Go Go.RowKit
set_option linter.unusedVariables false
set_option linter.unusedSimpArgs false
theorem c_impl_GridShift (g : GridR) (x : Int) (y : Int) (n : Int) (w : World) (f_g : okGridR 549755813888 w g) (hg : gridOk g.dat = true) (hx : 0 ≤ x ∧ x < g.W) (hy : 0 ≤ y ∧ y < g.H) (hn : -100000 ≤ n ∧ n ≤ 100000) :
    Calls Tryz.prog 237 #[.agg #[i64 g.W, i64 g.H, .slice g.Cells.A g.Cells.n g.Cells.c], i64 x, i64 y, i64 n] w fun e w' => ∃ r L1, e = .returned (.agg #[i64 r.W, i64 r.H, .slice r.Cells.A r.Cells.n r.Cells.c]) ∧ St w [] L1 w' ∧ ownGridR r L1 ∧ r.dat = gShift g.dat x y n := by
 have nb_g_Cells := f_g.Cells_n
 have nl_g_Cells := f_g.Cells.len
 have hgb : (1 ≤ g.W ∧ g.W ≤ 120) ∧ (1 ≤ g.H ∧ g.H ≤ 120) ∧ 1 ≤ g.W * g.H ∧ g.W * g.H ≤ 4000 := gridOk_bnd hg
 have hgl : (g.Cells.xs.length : Int) = g.W * g.H := grid_len hg
 have hsmg : smGrid 1048576 g.dat := by show g.Cells.xs.length ≤ 1048576; omega
 have hsmgB : smGrid 549755813888 g.dat := Nat.le_trans hsmg (by decide)
 have hv0 : 0 ≤ y * g.W := Int.mul_nonneg (by omega) (by omega)
 have hv1 : (y + 1) * g.W = y * g.W + g.W := by rw [Int.add_mul, Int.one_mul]
 have hv2 : (y + 1) * g.W ≤ g.H * g.W := Int.mul_le_mul_of_nonneg_right (by omega) (by omega)
 rw [Int.mul_comm g.H g.W] at hv2
 have hlo2 : (y * g.W).toNat = y.toNat * g.W.toNat := Int.toNat_mul (by omega) (by omega)
 have hnz : ((y.toNat * g.W.toNat : Nat) : Int) = y * g.W := by rw [← hlo2]; omega
 have hhas : gridHas g.dat x y = true := by unfold gridHas; rw [Bool.and_eq_true, within_iff, within_iff]; show (0 ≤ x ∧ x ≤ g.W - 1) ∧ 0 ≤ y ∧ y ≤ g.H - 1; omega
 refine enter 63 Tryz.func237 rfl Tryz.ntmps237 rfl rfl ?_
 have hs1 := St.init w
 refine WC.sr ?_
 refine WL.bx hs1 rfl (fun b2 _ hs3 => ?_)
 refine WL.al hs3 Tryz.zeroValue28 rfl rfl (fun b4 _ hs5 => ?_)
 refine WL.nil ?_
 refine WC.seq (fun K6 hK6 => ?_)
 refine WC.sr ?_
 refine WL.r 1 hs5 [1] rfl ?_
 refine WL.cl Tryz.call93 rfl (c_impl_GridOk g _ (okGridR.st0 f_g hs5)) ?_
 rintro _ whs7 ⟨rfl, hs7⟩
 replace hs7 := hs5.call0 hs7
 refine ⟨_, rfl, ?_⟩
 refine WL.r 2 hs7 [] rfl ?_
 apply WL.gO 5 Acts.nil hs7 rfl
 ·intro g8 J9
  have qg8 := g8
  try simp only [bf, within_iff, within_not] at qg8
  refine WL.runA tbk 3 (Acts.nil.cons (j := 3) rfl g8) hs7 [1] rfl ⟨rfl, trivial⟩ ?_
  refine WL.call (wantF rfl g8) rfl rfl (Run.call Tryz.call94 rfl rfl rfl) (c_impl_Grid_has g _ _ _ (okGridR.st0 f_g hs7) ?_ ?_) ?_
  · first | (first | assumption | rfl | omega) | (first | assumption | rfl | omega | (exact Nat.le_trans hsmg (by decide)))
  · first | (first | assumption | rfl | omega) | (first | assumption | rfl | omega | (exact Nat.le_trans hsmg (by decide)))
  rintro _ whs10 ⟨rfl, hs10⟩
  replace hs10 := hs7.call0 hs10
  refine ⟨_, rfl, ?_⟩
  refine WL.runA tbk 1 (Acts.nil.cons (j := 3) rfl g8) hs10 [] rfl trivial ?_
  exact WL.eO 5 Acts.nil J9 hs10 g8 rfl rfl
 ·intro _ hs11
  refine WL.nil ?_
  refine WC.cq rfl (fun h12 qh12 => ?_) (fun h12 qh12 => ?_)
  ·exfalso; have h9 := h12; simp [hg, hhas] at h9
  ·refine WC.skip ?_
   refine hK6 _ _ ?_
   refine WC.sr ?_
   refine WL.r 1 hs11 [1] rfl ?_
   refine WL.cl Tryz.call206 rfl (c_impl_copyGrid g _ (okGridR.st0 f_g hs11) ?_) ?_
   · first | (first | assumption | rfl | omega) | (first | assumption | rfl | omega | (exact Nat.le_trans hsmg (by decide)))
   rintro _ whs13 ⟨r14, L1_15, rfl, hs13, ho16, hd17⟩
   replace hs13 := hs11.callF hs13
   refine ⟨_, rfl, ?_⟩
   replace hs13 := St.back [_, _] hs13
   have hrW : r14.W = g.W := congrArg GridD.W hd17
   have hrH : r14.H = g.H := congrArg GridD.H hd17
   have hrC : r14.Cells.xs = g.Cells.xs := congrArg GridD.Cells hd17
   have hrn := ownGridR.len ‹ownGridR r14 _›
   have hrc := OwnF.cap ‹ownGridR r14 _›
   have hz0 : y * r14.W = y * g.W := by rw [hrW]
   have hz1 : (y + 1) * r14.W = (y + 1) * g.W := by rw [hrW]
   have hrl : r14.Cells.xs.length = g.Cells.xs.length := congrArg List.length hrC
   have hlr := f_g.Cells.len
   have hcg := f_g.Cells_c
   refine WL.al hs13 Tryz.zeroValue28 rfl rfl (fun b18 _ hs19 => ?_)
   refine WL.st tbk hs19 0 rfl rfl (fun _ hs20 => ?_)
   refine WL.nil ?_
   refine WC.sr ?_
   refine WL.r 2 hs20 [0] rfl ?_
   refine WL.cl Tryz.call224 rfl (c_impl_Grid_row r14 _ _ (ownGridR.ok (B := 549755813888) ho16 (hs20.ow L1_15) (by rw [hd17]; assumption)) ?_ ?_ ?_ ?_) ?_
   · first | (first | assumption | rfl | omega) | (first | assumption | rfl | omega | (exact Nat.le_trans hsmg (by decide)))
   · first | (first | assumption | rfl | omega) | (first | assumption | rfl | omega | (exact Nat.le_trans hsmg (by decide)))
   · first | (first | assumption | rfl | omega) | (first | assumption | rfl | omega | (exact Nat.le_trans hsmg (by decide)))
   · first | (first | assumption | rfl | omega) | (first | assumption | rfl | omega | (exact Nat.le_trans hsmg (by decide)))
   rintro _ whs21 ⟨rfl, hs21⟩
   replace hs21 := hs20.call0 hs21
   refine ⟨_, rfl, ?_⟩
   refine WL.r 1 hs21 [] rfl ?_
   refine WL.nil ?_
   refine WC.seq (fun K22 hK22 => ?_)
   refine WC.r1 hs21 [] rfl ?_
   refine WC.block ?_
   refine WC.lO [1, 2, 3, 4, 8, 9, 10, 22] rfl (hs21.fr L1_15) (fun k_ f L_ => ∃ (a : Nat) (zs : List CellD), k_ = (g.W - x).toNat - a ∧ ((a : Int) ≤ g.W - x) ∧ (zs.length = g.Cells.xs.length) ∧ (∀ k, k < g.Cells.xs.length → cat zs k = partF g.dat (shiftF g.dat x y n) (y.toNat * g.dat.W.toNat + x.toNat) a k) ∧ OwnF encCell 75 (.slice r14.Cells.A (r14.Cells.n) r14.Cells.c) (zs) L_ ∧ Sub [(11, .int .i64 (x + a))] f) (((fun (a : Nat) (zs : List CellD) => (g.W - x).toNat - a) (0) (r14.Cells.xs))) ?_ ?_
   ·refine ⟨0, r14.Cells.xs, rfl, ?_, ?_, ?_, ho16, ⟨?_, trivial⟩⟩
    · omega
    · exact hrl
    · intro k hk; rw [partF_zero, hrC]; rfl
    · (refine congrArg some (congrArg (Value.int _) ?_); omega)
   ·clear hs21
    rintro _ f w L25 ⟨a, zs, rfl, p0, p1, p2, ho26, hG⟩ hF hs27
    refine WC.sub _ (hG.app hF) ?_
    clear hG hF
    replace hs27 := St.back [_, _, _] hs27
    refine WC.seq (fun K28 hK28 => ?_)
    refine WC.r1 hs27 [2] rfl ?_
    refine WC.cq rfl (fun h29 qh29 => ?_) (fun h29 qh29 => ?_)
    ·refine WC.skip ?_
     refine hK28 _ _ ?_
     refine WC.seq (fun K30 hK30 => ?_)
     refine WC.block ?_
     refine WC.sr ?_
     refine WL.r 2 hs27 [] rfl ?_
     refine WL.cl Tryz.call253 rfl (c_impl_blank _) ?_
     rintro _ whs31 ⟨rfl, hs31⟩
     replace hs31 := hs27.call0 hs31
     refine ⟨_, rfl, ?_⟩
     refine WL.val rfl rfl rfl (Run.idx Tryz.runUnderlying26 Tryz.sizeOf75 rfl rfl rfl ?_ ?_ ?_) ?_
     · exact SlF.some_ (SlF.cutC (lo := (y * r14.W).toNat) (hi := ((y + 1) * r14.W).toNat) (SlF.ofOwn ho26 (hs31.ow L25)) (by refine ⟨?_, ?_, ?_⟩ <;> (omega)))
     · first | omega | (simp only [List.length_set]; omega)
     · first | omega | (simp only [List.length_set]; omega)
     refine WL.storeC (x' := blankC) (lo := (y * r14.W).toNat) (hs31.fr L25) ho26 Tryz.sizeOf75 rfl rfl rfl rfl rfl rfl rfl rfl rfl ?_ rfl (fun L32 whs33 hs33 ho34 _ => ?_)
     · first | omega | (simp only [List.length_set]; omega)
     replace hs33 := St.back [_, _, _] hs33
     refine WL.nil ?_
     refine WC.r1 hs33 [] rfl ?_
     refine WC.sr ?_
     refine WL.r 1 hs33 [] rfl ?_
     refine WL.cl Tryz.call97 rfl (c_impl_within _ _ _ _) ?_
     rintro _ whs35 ⟨rfl, hs35⟩
     replace hs35 := hs33.call0 hs35
     refine ⟨_, rfl, ?_⟩
     refine WL.r 1 hs35 [] rfl ?_
     apply WL.gA 6 Acts.nil hs35 rfl
     ·intro g36 J37
      have qg36 := g36
      try simp only [bf, within_iff, within_not] at qg36
      refine WL.runA tbk 5 (Acts.nil.cons (j := 2) rfl g36) hs35 [2] rfl ⟨by omega, rfl, trivial⟩ ?_
      refine WL.call (wantT rfl g36) rfl rfl (Run.call Tryz.call97 rfl rfl rfl) (c_impl_within _ _ _ _) ?_
      rintro _ whs38 ⟨rfl, hs38⟩
      replace hs38 := hs35.call0 hs38
      refine ⟨_, rfl, ?_⟩
      exact WL.eA 6 Acts.nil J37 hs38 g36 rfl rfl
     ·intro _ hs39
      refine WL.nil ?_
      refine WC.cq rfl (fun h40 qh40 => ?_) (fun h40 qh40 => ?_)
      ·have hin : x ≤ x + (a : Int) - n ∧ x + (a : Int) - n < g.dat.W := by show x ≤ x + (a : Int) - n ∧ x + (a : Int) - n < g.W; have h9 := h40; simp only [Bool.and_eq_true, within_iff] at h9; omega
       refine WC.region ?_
       refine WL.r 4 hs39 [2] rfl ?_
       refine WL.cl Tryz.call224 rfl (c_impl_Grid_row g _ _ (okGridR.st0 f_g hs39) ?_ ?_ ?_ ?_) ?_
       · first | (first | assumption | rfl | omega) | (first | assumption | rfl | omega | (exact Nat.le_trans hsmg (by decide)))
       · first | (first | assumption | rfl | omega) | (first | assumption | rfl | omega | (exact Nat.le_trans hsmg (by decide)))
       · first | (first | assumption | rfl | omega) | (first | assumption | rfl | omega | (exact Nat.le_trans hsmg (by decide)))
       · first | (first | assumption | rfl | omega) | (first | assumption | rfl | omega | (exact Nat.le_trans hsmg (by decide)))
       rintro _ whs41 ⟨rfl, hs41⟩
       replace hs41 := hs39.call0 hs41
       refine ⟨_, rfl, ?_⟩
       refine WL.r 1 hs41 [] rfl ?_
       refine WL.val rfl rfl rfl (Run.idx Tryz.runUnderlying26 Tryz.sizeOf75 rfl rfl rfl ?_ ?_ ?_) ?_
       · exact SlF.some_ (SlF.cutC (lo := (y * g.W).toNat) (hi := ((y + 1) * g.W).toNat) (SlF.st0 f_g.Cells hs41) (by refine ⟨?_, ?_, ?_⟩ <;> (omega)))
       · first | omega | (simp only [List.length_set]; omega)
       · first | omega | (simp only [List.length_set]; omega)
       refine WL.val rfl rfl rfl (Run.loadA Tryz.isAgg75 Tryz.sizeOf75 rfl rfl (SlF.whole (SlF.cutC (lo := (y * g.W).toNat) (hi := ((y + 1) * g.W).toNat) (SlF.st0 f_g.Cells hs41) (by refine ⟨?_, ?_, ?_⟩ <;> (omega))) ?_)) ?_
       · first | omega | (simp only [List.length_set]; omega)
       refine WL.val rfl rfl rfl (Run.idx Tryz.runUnderlying26 Tryz.sizeOf75 rfl rfl rfl ?_ ?_ ?_) ?_
       · exact SlF.some_ (SlF.cutC (lo := (y * r14.W).toNat) (hi := ((y + 1) * r14.W).toNat) (SlF.ofOwn ho34 (hs41.ow L32)) (by refine ⟨?_, ?_, ?_⟩ <;> (omega)))
       · first | omega | (simp only [List.length_set]; omega)
       · first | omega | (simp only [List.length_set]; omega)
       refine WL.storeC (x' := _) (lo := (y * r14.W).toNat) (hs41.fr L32) ho34 Tryz.sizeOf75 rfl rfl rfl rfl rfl rfl rfl rfl rfl ?_ rfl (fun L42 whs43 hs43 ho44 _ => ?_)
       · first | omega | (simp only [List.length_set]; omega)
       replace hs43 := St.back [_, _, _] hs43
       refine WL.nil ?_
       refine hK30 _ _ ?_
       refine WC.region ?_
       refine WL.r 3 hs43 [] rfl ?_
       refine WL.nil ?_
       refine tkN ?_
       refine ⟨sbF rfl, _, (hs43.fr L42), _, ?_, a + 1, _, rfl, ?_, ?_, ?_, ho44, ⟨?_, trivial⟩⟩
       · omega
       · omega
       · simp only [List.length_set]; exact p1
       · intro k hk; first | (rw [List.set_set]; exact part_next (g := g.dat) (by rw [hz0, hlo2]; show _ = y.toNat * g.W.toNat + x.toNat + a; omega) (by rw [hz0]; omega) (by rw [shiftF_at (g := g.dat) hx.1 hy.1 (by show x + (a : Int) < g.W; omega), if_pos hin, gat_cut (by omega), hlo2]; rfl) (p2 k hk)) | exact part_next (g := g.dat) (by rw [hz0, hlo2]; show _ = y.toNat * g.W.toNat + x.toNat + a; omega) (by rw [hz0]; omega) (by rw [shiftF_at (g := g.dat) hx.1 hy.1 (by show x + (a : Int) < g.W; omega), if_neg hout]) (p2 k hk)
       · (refine congrArg some (congrArg (Value.int _) ?_); omega)
      ·have hout : ¬ (x ≤ x + (a : Int) - n ∧ x + (a : Int) - n < g.dat.W) := by show ¬ (x ≤ x + (a : Int) - n ∧ x + (a : Int) - n < g.W); intro h8; have h9 := h40; simp [within] at h9; omega
       refine WC.skip ?_
       refine hK30 _ _ ?_
       refine WC.region ?_
       refine WL.r 3 hs39 [] rfl ?_
       refine WL.nil ?_
       refine tkN ?_
       refine ⟨sbF rfl, _, (hs39.fr L32), _, ?_, a + 1, _, rfl, ?_, ?_, ?_, ho34, ⟨?_, trivial⟩⟩
       · omega
       · omega
       · simp only [List.length_set]; exact p1
       · intro k hk; first | (rw [List.set_set]; exact part_next (g := g.dat) (by rw [hz0, hlo2]; show _ = y.toNat * g.W.toNat + x.toNat + a; omega) (by rw [hz0]; omega) (by rw [shiftF_at (g := g.dat) hx.1 hy.1 (by show x + (a : Int) < g.W; omega), if_pos hin, gat_cut (by omega), hlo2]; rfl) (p2 k hk)) | exact part_next (g := g.dat) (by rw [hz0, hlo2]; show _ = y.toNat * g.W.toNat + x.toNat + a; omega) (by rw [hz0]; omega) (by rw [shiftF_at (g := g.dat) hx.1 hy.1 (by show x + (a : Int) < g.W; omega), if_neg hout]) (p2 k hk)
       · (refine congrArg some (congrArg (Value.int _) ?_); omega)
    ·refine WC.exit ?_
     refine hK22 _ _ ?_
     refine WC.sr ?_
     refine WL.r 1 hs27 [0] rfl ?_
     refine WL.st tbk hs27 1 rfl rfl (fun _ hs45 => ?_)
     refine WL.nil ?_
     refine WC.ret ?_
     refine retV1 rfl (resV.cellA tbk hs45 1 rfl rfl rfl rfl) ?_
     refine ⟨⟨r14.W, r14.H, SlD.of ho26⟩, _, rfl, (St.keep1 (hs45.fr L25)), ?_, ?_⟩
     · exact ho26
     · exact shift_done (g := g.dat) (m := n) hx hy.1 (by show (a : Int) = g.W - x; omega) hrW hrH p1 (.inl rfl) p2
end Go.Proofs.YtjmegoiclgancaaGreat
namespace Go.Proofs.YtjmegoiclgancaaGreat
open Go Go.RowKit
set_option linter.unusedVariables false
set_option linter.unusedSimpArgs false
theorem c_impl_Scr_shown (b_s : Nat) (s : ScrR) (L_s : Hp) (w : World) (hb_s : w.heap[b_s]? = some (Obj.cells (List.toArray (cScr s)) 33 (0, 0))) (o_s : ownScrR s L_s) (h_s : ∀ p, p ∈ L_s → w.heap[p.1]? = some p.2) (hd_ : (b_s :: L_s.map (·.1)).Nodup) :
    Calls Tryz.prog 223 #[.pointer (some ⟨b_s, 0, none⟩)] w fun e w' => ∃ q r L1, e = .returned (.pointer (some ⟨b_s, q, none⟩)) ∧ St w (b_s :: L_s.map (·.1)) ([(b_s, Obj.cells (List.toArray (cScr r)) 33 (0, 0))] ++ L1) w' ∧ ownScrR r L1 ∧ r.dat = s.dat ∧ (q = 2 ∧ s.OnAlt = false ∨ q = 5 ∧ s.OnAlt = true) := by
 rcases Bool.eq_false_or_eq_true s.OnAlt with hx | hx
 · exact (c_impl_Scr_shown_alt b_s s L_s w hb_s o_s h_s hd_ hx).mono fun e w' ⟨r, L1, h1, h2, h3, h4⟩ => ⟨5, r, L1, h1, h2, h3, h4, .inr ⟨rfl, hx⟩⟩
 · exact (c_impl_Scr_shown_main b_s s L_s w hb_s o_s h_s hd_ hx).mono fun e w' ⟨r, L1, h1, h2, h3, h4⟩ => ⟨2, r, L1, h1, h2, h3, h4, .inl ⟨rfl, hx⟩⟩
theorem c_impl_Scr_csi (b_s : Nat) (s : ScrR) (L_s : Hp) (A_l : Option Addr) (n_l c_l : Nat) (l : List Int) (b : Int) (w : World) (hb_s : w.heap[b_s]? = some (Obj.cells (List.toArray (cScr s)) 33 (0, 0))) (o_s : ownScrR s L_s) (h_s : ∀ p, p ∈ L_s → w.heap[p.1]? = some p.2) (f_l : SlF encI w A_l n_l l) (hd_ : (b_s :: L_s.map (·.1)).Nodup) (s_l : 0 < n_l → (adr A_l).block ∉ (b_s :: L_s.map (·.1))) (hf : ScrFine s.dat) (hsm : smScr 1048576 s.dat) (hl : areArgs l = true) (hll : n_l ≤ 549755813888) :
    Calls Tryz.prog 189 #[.pointer (some ⟨b_s, 0, none⟩), .slice A_l n_l c_l, i64 b] w fun e w' => ∃ r L1, e = .returned (.tuple #[]) ∧ St w (b_s :: L_s.map (·.1)) ([(b_s, Obj.cells (List.toArray (cScr r)) 33 (0, 0))] ++ L1) w' ∧ ownScrR r L1 ∧ r.dat = csiD s.dat l b := by
 have hsmB : smScr 549755813888 s.dat := smScr_mono hsm (by decide)
 have ha0 := argI_pos (k := 0) (d := 1) hl (by omega)
 have ha1 := argI_bnd (k := 1) (d := 1) hl (by omega)
 have hk0 := argI_bnd (k := 0) (d := 0) hl (by omega)
 refine enter 196 Tryz.func189 rfl Tryz.ntmps189 rfl rfl ?_
 have hs1 := St.takeP w b_s _ L_s hb_s h_s hd_
 refine WC.sr ?_
 refine WL.bx hs1 rfl (fun b2 _ hs3 => ?_)
 refine WL.nil ?_
 refine WC.sr ?_
 refine WL.r 1 hs3 [] rfl ?_
 refine WL.cl Tryz.call233 rfl (c_impl_argOf_0 _ _ _ _ _ _ (SlF.st f_l hs3 s_l) ?_) ?_
 · first | (first | assumption | rfl | omega) | (first | assumption | omega | (refine ⟨?_, ?_, ?_, ?_⟩ <;> omega) | (constructor <;> omega))
 rintro _ whs4 ⟨rfl, hs4⟩
 replace hs4 := hs3.call0 hs4
 refine ⟨_, rfl, ?_⟩
 refine WL.r 1 hs4 [] rfl ?_
 refine WL.cl Tryz.call233 rfl (c_impl_argOf_1 _ _ _ _ _ _ (SlF.st f_l hs4 s_l) ?_) ?_
 · first | (first | assumption | rfl | omega) | (first | assumption | omega | (refine ⟨?_, ?_, ?_, ?_⟩ <;> omega) | (constructor <;> omega))
 rintro _ whs5 ⟨rfl, hs5⟩
 replace hs5 := hs4.call0 hs5
 refine ⟨_, rfl, ?_⟩
 refine WL.r 1 hs5 [] rfl ?_
 refine WL.cl Tryz.call233 rfl (c_impl_argOf_0 _ _ _ _ _ _ (SlF.st f_l hs5 s_l) ?_) ?_
 · first | (first | assumption | rfl | omega) | (first | assumption | omega | (refine ⟨?_, ?_, ?_, ?_⟩ <;> omega) | (constructor <;> omega))
 rintro _ whs6 ⟨rfl, hs6⟩
 replace hs6 := hs5.call0 hs6
 refine ⟨_, rfl, ?_⟩
 refine WL.r 3 hs6 [] rfl ?_
 refine WL.nil ?_
 refine WC.seq (fun K7 hK7 => ?_)
 refine WC.sr ?_
 refine WL.r 4 hs6 [0] rfl ?_
 have hF8 : St _ _ ((_, _) :: (L_s ++ _)) _ := ((hs6.fr L_s).fb b_s)
 refine WL.cl Tryz.call234 rfl (c_impl_Scr_moveBy _ s _ _ _ _ _ (St.headP hF8) o_s (St.ownP hF8) (St.nodupP hF8) ?_ ?_ ?_) ?_
 · first | (first | assumption | rfl | omega) | (first | assumption | omega | (refine ⟨?_, ?_, ?_, ?_⟩ <;> omega) | (constructor <;> omega))
 · first | (first | assumption | rfl | omega) | (first | assumption | omega | (refine ⟨?_, ?_, ?_, ?_⟩ <;> omega) | (constructor <;> omega))
 · first | (first | assumption | rfl | omega) | (first | assumption | omega | (refine ⟨?_, ?_, ?_, ?_⟩ <;> omega) | (constructor <;> omega))
 rintro _ whs9 ⟨r10, L11, rfl, hs9, ho12, hd13⟩
 replace hs9 := St.lendP hF8 hs9
 refine ⟨_, rfl, ?_⟩
 have hs14 := ((hs9.fb b2).fb b_s)
 refine WL.nil ?_
 refine WC.cq rfl (fun h15 qh15 => ?_) (fun h15 qh15 => ?_)
 ·have hmv : isMove b = true := by have h9 := h15; simpa using h9
  refine WC.ret ?_
  refine tkR ?_
  clear hK7
  refine retK0' rfl ?_
  refine ⟨r10, _, rfl, St.keepP (L1 := L11) ((hs14.fr L11).fb b_s), ho12, ?_⟩
  · exact hd13.trans (csiD_move hmv).symm
 ·have hmv : isMove b = false := by have h9 := h15; simpa using h9
  obtain ⟨e65, e66, e67, e68, e71, e100, e7⟩ := isMove_no hmv
  have hr1 : r10.dat = s.dat := hd13.trans (moveByD_no hmv)
  have hs1 : smScr 549755813888 r10.dat := hr1.symm ▸ hsmB
  refine WC.skip ?_
  refine hK7 _ _ ?_
  refine WC.sr ?_
  refine WL.r 1 hs14 [1] rfl ?_
  have hF16 : St _ _ ((_, _) :: (L11 ++ _)) _ := ((hs14.fr L11).fb b_s)
  refine WL.cl Tryz.call223 rfl (c_impl_Scr_shown _ r10 _ _ (St.headP hF16) ho12 (St.ownP hF16) (St.nodupP hF16)) ?_
  rintro _ whs17 ⟨q22, r18, L19, rfl, hs17, ho20, hd21, hO23⟩
  replace hs17 := St.lendP hF16 hs17
  refine ⟨_, rfl, ?_⟩
  have hs24 := ((hs17.fb b2).fb b_s)
  have hr2 : r18.dat = s.dat := hd21.trans hr1
  have hf2 : ScrFine r18.dat := hr2.symm ▸ hf
  have hsm2 : smScr 1048576 r18.dat := hr2.symm ▸ hsm
  have hsB2 : smScr 549755813888 r18.dat := hr2.symm ▸ hsmB
  skip
  have hwh2 : (1 ≤ r18.W ∧ r18.W ≤ 120) ∧ (1 ≤ r18.H ∧ r18.H ≤ 120) ∧ 1 ≤ r18.W * r18.H ∧ r18.W * r18.H ≤ 4000 := isSize_bnd hf2.size
  have hxy2 : (0 ≤ r18.X ∧ r18.X < r18.W) ∧ 0 ≤ r18.Y ∧ r18.Y < r18.H := hf2.pos
  have hrg2 : (0 ≤ r18.Top ∧ r18.Top ≤ r18.Bot) ∧ r18.Bot < r18.H := ⟨hf2.reg.1, hf2.reg.2.1⟩
  have hv0 : 0 ≤ r18.Y * r18.W := Int.mul_nonneg (by omega) (by omega)
  have hv1 : (r18.Y + 1) * r18.W = r18.Y * r18.W + r18.W := by rw [Int.add_mul, Int.one_mul]
  have hv2 : (r18.Y + 1) * r18.W ≤ r18.H * r18.W := Int.mul_le_mul_of_nonneg_right (by omega) (by omega)
  rw [Int.mul_comm r18.H r18.W] at hv2
  have hgs2 : gridOk (shownD r18.dat) = true := hf2.shown.1
  have hsh2 : (shownD r18.dat).W = r18.W ∧ (shownD r18.dat).H = r18.H := hf2.shown.2
  have hts2 : 0 ≤ r18.Top ∧ r18.Top ≤ r18.Bot ∧ r18.Bot < (shownD r18.dat).H := by rw [hsh2.2]; omega
  have hTs2 : r18.Tabs.xs.length ≤ 1048576 := hsm2.2.2.1
  refine WL.r 1 hs24 [] rfl ?_
  refine WL.nil ?_
  refine WC.r1 hs24 [] rfl ?_
  refine WC.block ?_
  refine WC.seq (fun K25 hK25 => ?_)
  refine WC.r1 hs24 [] rfl ?_
  refine WC.cq rfl (fun h26 qh26 => ?_) (fun h26 qh26 => ?_)
  ·have e74 : b = 74 := by have h9 := h26; simpa using h9
   refine WC.skip ?_
   refine hK25 _ _ ?_
   refine WC.condT rfl h26 ?_
   refine WC.region ?_
   refine WL.r 4 hs24 [1] rfl ?_
   have hF28 : St _ _ ((_, _) :: (L19 ++ _)) _ := ((hs24.fr L19).fb b_s)
   refine WL.cl Tryz.call235 rfl (c_impl_Scr_erase _ r18 _ _ _ _ (St.headP hF28) ho20 (St.ownP hF28) (St.nodupP hF28) ?_ ?_) ?_
   · first | (first | assumption | rfl | omega) | (first | assumption | omega | (refine ⟨?_, ?_, ?_, ?_⟩ <;> omega) | (constructor <;> omega))
   · first | (first | assumption | rfl | omega) | (first | assumption | omega | (refine ⟨?_, ?_, ?_, ?_⟩ <;> omega) | (constructor <;> omega))
   rintro _ whs29 ⟨r30, L31, rfl, hs29, ho32, hd33⟩
   replace hs29 := St.lendP hF28 hs29
   refine ⟨_, rfl, ?_⟩
   have hs34 := ((hs29.fb b2).fb b_s)
   refine WL.nil ?_
   refine ibN ?_
   refine retK0 rfl ?_
   refine ⟨r30, _, rfl, St.keepP (L1 := L31) ((hs34.fr L31).fb b_s), ho32, ?_⟩
   · rw [← hr2]; unfold csiD; rw [if_neg e65, if_neg e66, if_neg e67, if_neg e68, if_neg e71, if_neg e100, if_neg e7, if_pos e74]; exact hd33.trans (by rw [if_neg (by simp; omega), if_neg (by simp; omega)]; rfl)
  ·have e74 : ¬ b = 74 := by have h9 := h26; simpa using h9
   refine WC.region ?_
   refine WL.r 2 hs24 [] rfl ?_
   refine WL.nil ?_
   refine hK25 _ _ ?_
   refine WC.cq rfl (fun h35 qh35 => ?_) (fun h35 qh35 => ?_)
   ·have e75 : b = 75 := by have h9 := h35; simpa using h9
    refine WC.region ?_
    refine WL.r 4 hs24 [1] rfl ?_
    have hF36 : St _ _ ((_, _) :: (L19 ++ _)) _ := ((hs24.fr L19).fb b_s)
    refine WL.cl Tryz.call235 rfl (c_impl_Scr_erase _ r18 _ _ _ _ (St.headP hF36) ho20 (St.ownP hF36) (St.nodupP hF36) ?_ ?_) ?_
    · first | (first | assumption | rfl | omega) | (first | assumption | omega | (refine ⟨?_, ?_, ?_, ?_⟩ <;> omega) | (constructor <;> omega))
    · first | (first | assumption | rfl | omega) | (first | assumption | omega | (refine ⟨?_, ?_, ?_, ?_⟩ <;> omega) | (constructor <;> omega))
    rintro _ whs37 ⟨r38, L39, rfl, hs37, ho40, hd41⟩
    replace hs37 := St.lendP hF36 hs37
    refine ⟨_, rfl, ?_⟩
    have hs42 := ((hs37.fb b2).fb b_s)
    refine WL.nil ?_
    refine ibN ?_
    refine retK0 rfl ?_
    refine ⟨r38, _, rfl, St.keepP (L1 := L39) ((hs42.fr L39).fb b_s), ho40, ?_⟩
    · rw [← hr2]; unfold csiD; rw [if_neg e65, if_neg e66, if_neg e67, if_neg e68, if_neg e71, if_neg e100, if_neg e7, if_neg e74, if_pos e75]; exact hd41.trans (by rw [if_pos (by simp; omega), if_pos (by simp; omega)]; rfl)
   ·have e75 : ¬ b = 75 := by have h9 := h35; simpa using h9
    refine WC.r1 hs24 [] rfl ?_
    refine WC.cq rfl (fun h43 qh43 => ?_) (fun h43 qh43 => ?_)
    ·have e88 : b = 88 := by have h9 := h43; simpa using h9
     refine WC.sq1 hs24 ?_
     refine WQ.r 1 [1] rfl ?_
     refine WQ.val rfl rfl rfl (fun w_ hs_ => (Run.nilCheck rfl rfl)) ?_
     refine WQ.r 3 [0, 1] rfl ?_
     refine WQ.val rfl rfl rfl (fun w_ hs_ => (Run.nilCheck rfl rfl)) ?_
     refine WQ.r 4 [0, 1] rfl ?_
     refine WQ.val rfl rfl rfl (fun w_ hs_ => (Run.nilCheck rfl rfl)) ?_
     refine WQ.r 4 [0] rfl ?_
     refine WQ.nil (fun _ (hs44 : St _ _ _ _) => ?_)
     refine WC.rG 16 (hs44.d1.rm L19) hs44 hs44 (fun _ hs45 => ?_)
     refine WG.rn [0, 1, 2, 3, 4, 5] hs45 [1, 1] rfl rfl ?_
     refine WG.tk 6 rfl (by kernel_rfl) rfl rfl rfl hs45 (fun w_ hs_ => (Run.nilCheck rfl rfl)) ?_
     refine WG.rn [7, 8, 9, 10] hs45 [0, 1] rfl rfl ?_
     refine WG.tk 11 rfl (by kernel_rfl) rfl rfl rfl hs45 (fun w_ hs_ => (Run.nilCheck rfl rfl)) ?_
     refine WG.rn [12, 13, 14, 15] hs45 [0] rfl rfl ?_
     refine WG.oK rfl ?_
     have hF46 : St _ _ ((_, _) :: (L19 ++ _)) _ := ((hs45.fr L19).fb b_s)
     refine WL.cl Tryz.call236 rfl (c_impl_Scr_clear _ r18 _ _ _ _ (St.headP hF46) ho20 (St.ownP hF46) (St.nodupP hF46) ?_ ?_ ?_) ?_
     · first | (first | assumption | rfl | omega) | (first | assumption | omega | (refine ⟨?_, ?_, ?_, ?_⟩ <;> omega) | (constructor <;> omega))
     · first | (first | assumption | rfl | omega) | (first | assumption | omega | (refine ⟨?_, ?_, ?_, ?_⟩ <;> omega) | (constructor <;> omega))
     · first | (first | assumption | rfl | omega) | (first | assumption | omega | (refine ⟨?_, ?_, ?_, ?_⟩ <;> omega) | (constructor <;> omega))
     rintro _ whs47 ⟨r48, L49, rfl, hs47, ho50, hd51⟩
     replace hs47 := St.lendP hF46 hs47
     refine ⟨_, rfl, ?_⟩
     have hs52 := ((hs47.fb b2).fb b_s)
     refine WL.nil ⟨(hs52.d1.rm L49), ?_⟩
     refine WH.dn ?_
     refine ibN ?_
     refine retK0 rfl ?_
     refine ⟨r48, _, rfl, St.keepP (L1 := L49) ((hs52.fr L49).fb b_s), ho50, ?_⟩
     · rw [← hr2]; unfold csiD; rw [if_neg e65, if_neg e66, if_neg e67, if_neg e68, if_neg e71, if_neg e100, if_neg e7, if_neg e74, if_neg e75, if_pos e88]; exact hd51
    ·have e88 : ¬ b = 88 := by have h9 := h43; simpa using h9
     refine WC.r1 hs24 [] rfl ?_
     refine WC.cq rfl (fun h53 qh53 => ?_) (fun h53 qh53 => ?_)
     ·have e64 : b = 64 := by have h9 := h53; simpa using h9
      rcases hO23 with ⟨rfl, hx1⟩ | ⟨rfl, hx1⟩
      ·have hx2 : r18.OnAlt = false := (congrArg ScrD.OnAlt hd21).trans hx1
       have hfd : shownD r18.dat = r18.Main.dat := by unfold shownD; rw [if_neg (show ¬ r18.dat.OnAlt = true from by show ¬ r18.OnAlt = true; rw [hx2]; decide)]; rfl
       have hgd2 : gridOk r18.Main.dat = true := hfd ▸ hgs2
       have hgw2 : r18.Main.W = r18.W ∧ r18.Main.H = r18.H := ⟨(congrArg GridD.W hfd).symm.trans hsh2.1, (congrArg GridD.H hfd).symm.trans hsh2.2⟩
       refine WC.rG 15 hs24.d1 hs24 hs24 (fun _ hs54 => ?_)
       refine WG.rn [0, 1] hs54 [] rfl rfl ?_
       refine WG.tk 2 rfl (by kernel_rfl) rfl rfl rfl hs54 (fun w_ hs_ => (Run.nilCheck rfl rfl)) ?_
       refine WG.rn [3, 4] hs54 [0, 1] rfl rfl ?_
       refine WG.tk 5 rfl (by kernel_rfl) rfl rfl rfl hs54 (fun w_ hs_ => (Run.nilCheck rfl rfl)) ?_
       refine WG.rn [6, 7, 8] hs54 [0, 1] rfl rfl ?_
       refine WG.tk 9 rfl (by kernel_rfl) rfl rfl rfl hs54 (fun w_ hs_ => (Run.nilCheck rfl rfl)) ?_
       refine WG.rn [10, 11, 12] hs54 [0] rfl rfl ?_
       refine WG.o1 13 rfl rfl ?_
       refine WL.cl Tryz.call237 rfl (c_impl_GridShift r18.Main _ _ _ _ (ownScrR.ok (B := 549755813888) ho20 (hs54.ow L19) (by rw [hd21]; assumption)).Main ?_ ?_ ?_ ?_) ?_
       · first | (first | assumption | rfl | omega) | (first | assumption | omega | (refine ⟨?_, ?_, ?_, ?_⟩ <;> omega) | (constructor <;> omega))
       · first | (first | assumption | rfl | omega) | (first | assumption | omega | (refine ⟨?_, ?_, ?_, ?_⟩ <;> omega) | (constructor <;> omega))
       · first | (first | assumption | rfl | omega) | (first | assumption | omega | (refine ⟨?_, ?_, ?_, ?_⟩ <;> omega) | (constructor <;> omega))
       · first | (first | assumption | rfl | omega) | (first | assumption | omega | (refine ⟨?_, ?_, ?_, ?_⟩ <;> omega) | (constructor <;> omega))
       rintro _ whs55 ⟨r56, L1_57, rfl, hs55, ho58, hd59⟩
       replace hs55 := hs54.callF hs55
       refine ⟨_, rfl, ?_⟩
       replace hs55 := St.back [_, _] hs55
       have hsf := hd59
       refine WL.nil ⟨(hs55.rm L1_57), ?_⟩
       refine WG.tk 14 rfl (by kernel_rfl) rfl rfl rfl (hs55.rm L1_57) (fun w_ hs_ => (Run.nilCheck rfl rfl)) ?_
       refine WG.oK rfl ?_
       refine WL.st tbk hs55 0 rfl rfl (fun _ hs60 => ?_)
       refine WL.nil ⟨(hs60.d1.rm L1_57), ?_⟩
       refine WH.dn ?_
       refine ibN ?_
       refine retK0 rfl ?_
       obtain ⟨L61, L62, L63, L64, hs69, ho65, ho66, ho67, ho68⟩ := ownScrR.open_ (hs60.fr L19) ho20
       have hs70 := ((hs69.fb b2).fb b_s)
       obtain ⟨L72, hs71, ho73⟩ := ownScrR.fl ((((hs70.fr L64).fr L63).fr L62).fr L1_57) ho58 ho66 ho67 ho68
       have hs74 := ((hs71.fb b2).fb b_s)
       refine ⟨⟨r18.W, r18.H, ⟨r56.W, r56.H, SlD.of ho58⟩, ⟨r18.Alt.W, r18.Alt.H, SlD.of ho66⟩, r18.OnAlt, r18.X, r18.Y, r18.Wrap, ⟨r18.A.Fg, r18.A.Bg, r18.A.Bold, r18.A.Under, r18.A.Turn⟩, r18.Top, r18.Bot, r18.NoWrap, r18.Hide, r18.SaveX, r18.SaveY, ⟨r18.SaveA.Fg, r18.SaveA.Bg, r18.SaveA.Bold, r18.SaveA.Under, r18.SaveA.Turn⟩, SlD.of ho67, r18.Limit, SlD.ofN ho68⟩, _, rfl, St.keepP (L1 := L72) ((hs74.fr L72).fb b_s), (by exact ho73), ?_⟩
       · rw [← hr2]; unfold csiD; rw [if_neg e65, if_neg e66, if_neg e67, if_neg e68, if_neg e71, if_neg e100, if_neg e7, if_neg e74, if_neg e75, if_neg e88, if_pos e64]; show _ = putD r18.dat (gShift (shownD r18.dat) r18.X r18.Y (argI l 0 1)); rw [show putD r18.dat (gShift (shownD r18.dat) r18.X r18.Y (argI l 0 1)) = { r18.dat with Main := gShift r18.Main.dat r18.X r18.Y (argI l 0 1) } from by rw [hfd]; unfold putD; rw [if_neg (show ¬ r18.dat.OnAlt = true from by show ¬ r18.OnAlt = true; rw [hx2]; decide)]]; exact ScrD.ext' rfl rfl (hsf) rfl rfl rfl rfl rfl rfl rfl rfl rfl rfl rfl rfl rfl rfl rfl rfl
      ·have hx2 : r18.OnAlt = true := (congrArg ScrD.OnAlt hd21).trans hx1
       have hfd : shownD r18.dat = r18.Alt.dat := by unfold shownD; rw [if_pos (show  r18.dat.OnAlt = true from by show  r18.OnAlt = true; rw [hx2])]; rfl
       have hgd2 : gridOk r18.Alt.dat = true := hfd ▸ hgs2
       have hgw2 : r18.Alt.W = r18.W ∧ r18.Alt.H = r18.H := ⟨(congrArg GridD.W hfd).symm.trans hsh2.1, (congrArg GridD.H hfd).symm.trans hsh2.2⟩
       refine WC.rG 15 hs24.d1 hs24 hs24 (fun _ hs75 => ?_)
       refine WG.rn [0, 1] hs75 [] rfl rfl ?_
       refine WG.tk 2 rfl (by kernel_rfl) rfl rfl rfl hs75 (fun w_ hs_ => (Run.nilCheck rfl rfl)) ?_
       refine WG.rn [3, 4] hs75 [0, 1] rfl rfl ?_
       refine WG.tk 5 rfl (by kernel_rfl) rfl rfl rfl hs75 (fun w_ hs_ => (Run.nilCheck rfl rfl)) ?_
       refine WG.rn [6, 7, 8] hs75 [0, 1] rfl rfl ?_
       refine WG.tk 9 rfl (by kernel_rfl) rfl rfl rfl hs75 (fun w_ hs_ => (Run.nilCheck rfl rfl)) ?_
       refine WG.rn [10, 11, 12] hs75 [0] rfl rfl ?_
       refine WG.o1 13 rfl rfl ?_
       refine WL.cl Tryz.call237 rfl (c_impl_GridShift r18.Alt _ _ _ _ (ownScrR.ok (B := 549755813888) ho20 (hs75.ow L19) (by rw [hd21]; assumption)).Alt ?_ ?_ ?_ ?_) ?_
       · first | (first | assumption | rfl | omega) | (first | assumption | omega | (refine ⟨?_, ?_, ?_, ?_⟩ <;> omega) | (constructor <;> omega))
       · first | (first | assumption | rfl | omega) | (first | assumption | omega | (refine ⟨?_, ?_, ?_, ?_⟩ <;> omega) | (constructor <;> omega))
       · first | (first | assumption | rfl | omega) | (first | assumption | omega | (refine ⟨?_, ?_, ?_, ?_⟩ <;> omega) | (constructor <;> omega))
       · first | (first | assumption | rfl | omega) | (first | assumption | omega | (refine ⟨?_, ?_, ?_, ?_⟩ <;> omega) | (constructor <;> omega))
       rintro _ whs76 ⟨r77, L1_78, rfl, hs76, ho79, hd80⟩
       replace hs76 := hs75.callF hs76
       refine ⟨_, rfl, ?_⟩
       replace hs76 := St.back [_, _] hs76
       have hsf := hd80
       refine WL.nil ⟨(hs76.rm L1_78), ?_⟩
       refine WG.tk 14 rfl (by kernel_rfl) rfl rfl rfl (hs76.rm L1_78) (fun w_ hs_ => (Run.nilCheck rfl rfl)) ?_
       refine WG.oK rfl ?_
       refine WL.st tbk hs76 0 rfl rfl (fun _ hs81 => ?_)
       refine WL.nil ⟨(hs81.d1.rm L1_78), ?_⟩
       refine WH.dn ?_
       refine ibN ?_
       refine retK0 rfl ?_
       obtain ⟨L82, L83, L84, L85, hs90, ho86, ho87, ho88, ho89⟩ := ownScrR.open_ (hs81.fr L19) ho20
       have hs91 := ((hs90.fb b2).fb b_s)
       obtain ⟨L93, hs92, ho94⟩ := ownScrR.fl ((((hs91.fr L85).fr L84).fr L1_78).fr L82) ho86 ho79 ho88 ho89
       have hs95 := ((hs92.fb b2).fb b_s)
       refine ⟨⟨r18.W, r18.H, ⟨r18.Main.W, r18.Main.H, SlD.of ho86⟩, ⟨r77.W, r77.H, SlD.of ho79⟩, r18.OnAlt, r18.X, r18.Y, r18.Wrap, ⟨r18.A.Fg, r18.A.Bg, r18.A.Bold, r18.A.Under, r18.A.Turn⟩, r18.Top, r18.Bot, r18.NoWrap, r18.Hide, r18.SaveX, r18.SaveY, ⟨r18.SaveA.Fg, r18.SaveA.Bg, r18.SaveA.Bold, r18.SaveA.Under, r18.SaveA.Turn⟩, SlD.of ho88, r18.Limit, SlD.ofN ho89⟩, _, rfl, St.keepP (L1 := L93) ((hs95.fr L93).fb b_s), (by exact ho94), ?_⟩
       · rw [← hr2]; unfold csiD; rw [if_neg e65, if_neg e66, if_neg e67, if_neg e68, if_neg e71, if_neg e100, if_neg e7, if_neg e74, if_neg e75, if_neg e88, if_pos e64]; show _ = putD r18.dat (gShift (shownD r18.dat) r18.X r18.Y (argI l 0 1)); rw [show putD r18.dat (gShift (shownD r18.dat) r18.X r18.Y (argI l 0 1)) = { r18.dat with Alt := gShift r18.Alt.dat r18.X r18.Y (argI l 0 1) } from by rw [hfd]; unfold putD; rw [if_pos (show  r18.dat.OnAlt = true from by show  r18.OnAlt = true; rw [hx2])]]; exact ScrD.ext' rfl rfl rfl (hsf) rfl rfl rfl rfl rfl rfl rfl rfl rfl rfl rfl rfl rfl rfl rfl
     ·have e64 : ¬ b = 64 := by have h9 := h53; simpa using h9
      refine WC.r1 hs24 [] rfl ?_
      refine WC.cq rfl (fun h96 qh96 => ?_) (fun h96 qh96 => ?_)
      ·have e80 : b = 80 := by have h9 := h96; simpa using h9
       rcases hO23 with ⟨rfl, hx1⟩ | ⟨rfl, hx1⟩
       ·have hx2 : r18.OnAlt = false := (congrArg ScrD.OnAlt hd21).trans hx1
        have hfd : shownD r18.dat = r18.Main.dat := by unfold shownD; rw [if_neg (show ¬ r18.dat.OnAlt = true from by show ¬ r18.OnAlt = true; rw [hx2]; decide)]; rfl
        have hgd2 : gridOk r18.Main.dat = true := hfd ▸ hgs2
        have hgw2 : r18.Main.W = r18.W ∧ r18.Main.H = r18.H := ⟨(congrArg GridD.W hfd).symm.trans hsh2.1, (congrArg GridD.H hfd).symm.trans hsh2.2⟩
        refine WC.rG 16 hs24.d1 hs24 hs24 (fun _ hs97 => ?_)
        refine WG.rn [0, 1] hs97 [] rfl rfl ?_
        refine WG.tk 2 rfl (by kernel_rfl) rfl rfl rfl hs97 (fun w_ hs_ => (Run.nilCheck rfl rfl)) ?_
        refine WG.rn [3, 4] hs97 [0, 1] rfl rfl ?_
        refine WG.tk 5 rfl (by kernel_rfl) rfl rfl rfl hs97 (fun w_ hs_ => (Run.nilCheck rfl rfl)) ?_
        refine WG.rn [6, 7, 8] hs97 [0, 1] rfl rfl ?_
        refine WG.tk 9 rfl (by kernel_rfl) rfl rfl rfl hs97 (fun w_ hs_ => (Run.nilCheck rfl rfl)) ?_
        refine WG.rn [10, 11, 12, 13] hs97 [0] rfl rfl ?_
        refine WG.o1 14 rfl rfl ?_
        refine WL.cl Tryz.call237 rfl (c_impl_GridShift r18.Main _ _ _ _ (ownScrR.ok (B := 549755813888) ho20 (hs97.ow L19) (by rw [hd21]; assumption)).Main ?_ ?_ ?_ ?_) ?_
        · first | (first | assumption | rfl | omega) | (first | assumption | omega | (refine ⟨?_, ?_, ?_, ?_⟩ <;> omega) | (constructor <;> omega))
        · first | (first | assumption | rfl | omega) | (first | assumption | omega | (refine ⟨?_, ?_, ?_, ?_⟩ <;> omega) | (constructor <;> omega))
        · first | (first | assumption | rfl | omega) | (first | assumption | omega | (refine ⟨?_, ?_, ?_, ?_⟩ <;> omega) | (constructor <;> omega))
        · first | (first | assumption | rfl | omega) | (first | assumption | omega | (refine ⟨?_, ?_, ?_, ?_⟩ <;> omega) | (constructor <;> omega))
        rintro _ whs98 ⟨r99, L1_100, rfl, hs98, ho101, hd102⟩
        replace hs98 := hs97.callF hs98
        refine ⟨_, rfl, ?_⟩
        replace hs98 := St.back [_, _] hs98
        have hsf := hd102
        refine WL.nil ⟨(hs98.rm L1_100), ?_⟩
        refine WG.tk 15 rfl (by kernel_rfl) rfl rfl rfl (hs98.rm L1_100) (fun w_ hs_ => (Run.nilCheck rfl rfl)) ?_
        refine WG.oK rfl ?_
        refine WL.st tbk hs98 0 rfl rfl (fun _ hs103 => ?_)
        refine WL.nil ⟨(hs103.d1.rm L1_100), ?_⟩
        refine WH.dn ?_
        refine ibN ?_
        refine retK0 rfl ?_
        obtain ⟨L104, L105, L106, L107, hs112, ho108, ho109, ho110, ho111⟩ := ownScrR.open_ (hs103.fr L19) ho20
        have hs113 := ((hs112.fb b2).fb b_s)
        obtain ⟨L115, hs114, ho116⟩ := ownScrR.fl ((((hs113.fr L107).fr L106).fr L105).fr L1_100) ho101 ho109 ho110 ho111
        have hs117 := ((hs114.fb b2).fb b_s)
        refine ⟨⟨r18.W, r18.H, ⟨r99.W, r99.H, SlD.of ho101⟩, ⟨r18.Alt.W, r18.Alt.H, SlD.of ho109⟩, r18.OnAlt, r18.X, r18.Y, r18.Wrap, ⟨r18.A.Fg, r18.A.Bg, r18.A.Bold, r18.A.Under, r18.A.Turn⟩, r18.Top, r18.Bot, r18.NoWrap, r18.Hide, r18.SaveX, r18.SaveY, ⟨r18.SaveA.Fg, r18.SaveA.Bg, r18.SaveA.Bold, r18.SaveA.Under, r18.SaveA.Turn⟩, SlD.of ho110, r18.Limit, SlD.ofN ho111⟩, _, rfl, St.keepP (L1 := L115) ((hs117.fr L115).fb b_s), (by exact ho116), ?_⟩
        · rw [← hr2]; unfold csiD; rw [if_neg e65, if_neg e66, if_neg e67, if_neg e68, if_neg e71, if_neg e100, if_neg e7, if_neg e74, if_neg e75, if_neg e88, if_neg e64, if_pos e80]; show _ = putD r18.dat (gShift (shownD r18.dat) r18.X r18.Y (-argI l 0 1)); rw [show putD r18.dat (gShift (shownD r18.dat) r18.X r18.Y (-argI l 0 1)) = { r18.dat with Main := gShift r18.Main.dat r18.X r18.Y (-argI l 0 1) } from by rw [hfd]; unfold putD; rw [if_neg (show ¬ r18.dat.OnAlt = true from by show ¬ r18.OnAlt = true; rw [hx2]; decide)]]; exact ScrD.ext' rfl rfl (hsf) rfl rfl rfl rfl rfl rfl rfl rfl rfl rfl rfl rfl rfl rfl rfl rfl
       ·have hx2 : r18.OnAlt = true := (congrArg ScrD.OnAlt hd21).trans hx1
        have hfd : shownD r18.dat = r18.Alt.dat := by unfold shownD; rw [if_pos (show  r18.dat.OnAlt = true from by show  r18.OnAlt = true; rw [hx2])]; rfl
        have hgd2 : gridOk r18.Alt.dat = true := hfd ▸ hgs2
        have hgw2 : r18.Alt.W = r18.W ∧ r18.Alt.H = r18.H := ⟨(congrArg GridD.W hfd).symm.trans hsh2.1, (congrArg GridD.H hfd).symm.trans hsh2.2⟩
        refine WC.rG 16 hs24.d1 hs24 hs24 (fun _ hs118 => ?_)
        refine WG.rn [0, 1] hs118 [] rfl rfl ?_
        refine WG.tk 2 rfl (by kernel_rfl) rfl rfl rfl hs118 (fun w_ hs_ => (Run.nilCheck rfl rfl)) ?_
        refine WG.rn [3, 4] hs118 [0, 1] rfl rfl ?_
        refine WG.tk 5 rfl (by kernel_rfl) rfl rfl rfl hs118 (fun w_ hs_ => (Run.nilCheck rfl rfl)) ?_
        refine WG.rn [6, 7, 8] hs118 [0, 1] rfl rfl ?_
        refine WG.tk 9 rfl (by kernel_rfl) rfl rfl rfl hs118 (fun w_ hs_ => (Run.nilCheck rfl rfl)) ?_
        refine WG.rn [10, 11, 12, 13] hs118 [0] rfl rfl ?_
        refine WG.o1 14 rfl rfl ?_
        refine WL.cl Tryz.call237 rfl (c_impl_GridShift r18.Alt _ _ _ _ (ownScrR.ok (B := 549755813888) ho20 (hs118.ow L19) (by rw [hd21]; assumption)).Alt ?_ ?_ ?_ ?_) ?_
        · first | (first | assumption | rfl | omega) | (first | assumption | omega | (refine ⟨?_, ?_, ?_, ?_⟩ <;> omega) | (constructor <;> omega))
        · first | (first | assumption | rfl | omega) | (first | assumption | omega | (refine ⟨?_, ?_, ?_, ?_⟩ <;> omega) | (constructor <;> omega))
        · first | (first | assumption | rfl | omega) | (first | assumption | omega | (refine ⟨?_, ?_, ?_, ?_⟩ <;> omega) | (constructor <;> omega))
        · first | (first | assumption | rfl | omega) | (first | assumption | omega | (refine ⟨?_, ?_, ?_, ?_⟩ <;> omega) | (constructor <;> omega))
        rintro _ whs119 ⟨r120, L1_121, rfl, hs119, ho122, hd123⟩
        replace hs119 := hs118.callF hs119
        refine ⟨_, rfl, ?_⟩
        replace hs119 := St.back [_, _] hs119
        have hsf := hd123
        refine WL.nil ⟨(hs119.rm L1_121), ?_⟩
        refine WG.tk 15 rfl (by kernel_rfl) rfl rfl rfl (hs119.rm L1_121) (fun w_ hs_ => (Run.nilCheck rfl rfl)) ?_
        refine WG.oK rfl ?_
        refine WL.st tbk hs119 0 rfl rfl (fun _ hs124 => ?_)
        refine WL.nil ⟨(hs124.d1.rm L1_121), ?_⟩
        refine WH.dn ?_
        refine ibN ?_
        refine retK0 rfl ?_
        obtain ⟨L125, L126, L127, L128, hs133, ho129, ho130, ho131, ho132⟩ := ownScrR.open_ (hs124.fr L19) ho20
        have hs134 := ((hs133.fb b2).fb b_s)
        obtain ⟨L136, hs135, ho137⟩ := ownScrR.fl ((((hs134.fr L128).fr L127).fr L1_121).fr L125) ho129 ho122 ho131 ho132
        have hs138 := ((hs135.fb b2).fb b_s)
        refine ⟨⟨r18.W, r18.H, ⟨r18.Main.W, r18.Main.H, SlD.of ho129⟩, ⟨r120.W, r120.H, SlD.of ho122⟩, r18.OnAlt, r18.X, r18.Y, r18.Wrap, ⟨r18.A.Fg, r18.A.Bg, r18.A.Bold, r18.A.Under, r18.A.Turn⟩, r18.Top, r18.Bot, r18.NoWrap, r18.Hide, r18.SaveX, r18.SaveY, ⟨r18.SaveA.Fg, r18.SaveA.Bg, r18.SaveA.Bold, r18.SaveA.Under, r18.SaveA.Turn⟩, SlD.of ho131, r18.Limit, SlD.ofN ho132⟩, _, rfl, St.keepP (L1 := L136) ((hs138.fr L136).fb b_s), (by exact ho137), ?_⟩
        · rw [← hr2]; unfold csiD; rw [if_neg e65, if_neg e66, if_neg e67, if_neg e68, if_neg e71, if_neg e100, if_neg e7, if_neg e74, if_neg e75, if_neg e88, if_neg e64, if_pos e80]; show _ = putD r18.dat (gShift (shownD r18.dat) r18.X r18.Y (-argI l 0 1)); rw [show putD r18.dat (gShift (shownD r18.dat) r18.X r18.Y (-argI l 0 1)) = { r18.dat with Alt := gShift r18.Alt.dat r18.X r18.Y (-argI l 0 1) } from by rw [hfd]; unfold putD; rw [if_pos (show  r18.dat.OnAlt = true from by show  r18.OnAlt = true; rw [hx2])]]; exact ScrD.ext' rfl rfl rfl (hsf) rfl rfl rfl rfl rfl rfl rfl rfl rfl rfl rfl rfl rfl rfl rfl
      ·have e80 : ¬ b = 80 := by have h9 := h96; simpa using h9
       refine WC.seq (fun K139 hK139 => ?_)
       refine WC.r1 hs24 [] rfl ?_
       refine WC.cq rfl (fun h140 qh140 => ?_) (fun h140 qh140 => ?_)
       ·have e76 : b = 76 := by have h9 := h140; simpa using h9
        refine WC.skip ?_
        refine hK139 _ _ ?_
        refine WC.condT rfl h140 ?_
        refine WC.sq1 hs24 ?_
        refine WQ.r 1 [1] rfl ?_
        refine WQ.val rfl rfl rfl (fun w_ hs_ => (Run.nilCheck rfl rfl)) ?_
        refine WQ.r 3 [0, 1] rfl ?_
        refine WQ.val rfl rfl rfl (fun w_ hs_ => (Run.nilCheck rfl rfl)) ?_
        refine WQ.r 3 [0, 1] rfl ?_
        refine WQ.val rfl rfl rfl (fun w_ hs_ => (Run.nilCheck rfl rfl)) ?_
        refine WQ.r 2 [0] rfl ?_
        refine WQ.call rfl rfl rfl (fun w_ hs_ => (Run.call Tryz.call97 rfl rfl rfl)) (fun w_ hs_ => (c_impl_within _ _ _ _).mono fun e_ w_ h_ => ⟨h_.1, (hs_ : St _ _ _ _).call0 h_.2⟩) ?_
        refine WQ.nil (fun _ (hs142 : St _ _ _ _) => ?_)
        refine WC.cq rfl (fun h143 qh143 => ?_) (fun h143 qh143 => ?_)
        ·have hwi : within r18.dat.Y r18.dat.Top r18.dat.Bot = true := h143
         have hwj := within_iff.1 hwi
         have htl : 0 ≤ r18.Y ∧ r18.Y ≤ r18.Bot ∧ r18.Bot < (shownD r18.dat).H := by rw [hsh2.2]; simp only [ScrR.dat] at hwj; omega
         refine WC.seq (fun K144 hK144 => ?_)
         refine WC.rG 19 (hs142.d1.rm L19) hs142 hs142 (fun _ hs145 => ?_)
         refine WG.rn [0, 1] hs145 [1, 1] rfl rfl ?_
         refine WG.tk 2 rfl (by kernel_rfl) rfl rfl rfl hs145 (fun w_ hs_ => (Run.nilCheck rfl rfl)) ?_
         refine WG.rn [3, 4, 5] hs145 [0, 1] rfl rfl ?_
         refine WG.tk 6 rfl (by kernel_rfl) rfl rfl rfl hs145 (fun w_ hs_ => (Run.nilCheck rfl rfl)) ?_
         refine WG.rn [7, 8, 10, 11, 13, 16, 17] hs145 [0] rfl rfl ?_
         refine WG.o1 9 rfl rfl ?_
         refine WL.makeMap hs145 rfl rfl rfl rfl (fun b146 whs147 hs147 => ?_)
         refine WL.nil ⟨hs147.d1, ?_⟩
         refine WG.all [12, 14] (by kernel_rfl) rfl (WGs.cons (i := 12) rfl rfl ?_ (WGs.cons (i := 14) rfl rfl ?_ WGs.nil))
         ·refine WL.mapPut hs147 0 rfl Tryz.underlying230 Tryz.underlying4 rfl rfl rfl rfl rfl rfl rfl ?_ ?_ (fun whs148 hs148 => ?_)
          · trivial
          · rfl
          refine WL.nil ⟨hs148.d1, ?_⟩
          refine WG.o1 14 rfl rfl ?_
          refine WL.mapPut hs148 0 rfl Tryz.underlying230 Tryz.underlying4 rfl rfl rfl rfl rfl rfl rfl ?_ ?_ (fun whs149 hs149 => ?_)
          · trivial
          · rfl
          refine WL.nil ⟨hs149.d1, ?_⟩
          refine WG.rn [15] hs149.d1 [] rfl rfl ?_
          refine WG.o1 18 rfl rfl ?_
          refine WL.val rfl rfl rfl (Run.mapGet (v := i64 (-argI l 0 1)) Tryz.underlying230 Tryz.underlying4 rfl rfl rfl (hs149.own _ (nthL_mem (i := 0) rfl)).1 ?_ ?_) ?_
          · trivial
          · rw [show decide (b = 76) = true from decide_eq_true e76]; exact ⟨_, rfl⟩
          refine WL.nil ⟨hs149.d1, ?_⟩
          refine WG.oK rfl ?_
          have hF150 : St _ _ ((_, _) :: (L19 ++ _)) _ := ((hs149.fr L19).fb b_s)
          refine WL.cl Tryz.call210 rfl (c_impl_Scr_roll _ r18 _ _ _ _ _ (St.headP hF150) ho20 (St.ownP hF150) (St.nodupP hF150) ?_ ?_ ?_ ?_) ?_
          · first | (first | assumption | rfl | omega) | (first | assumption | omega | (refine ⟨?_, ?_, ?_, ?_⟩ <;> omega) | (constructor <;> omega))
          · first | (first | assumption | rfl | omega) | (first | assumption | omega | (refine ⟨?_, ?_, ?_, ?_⟩ <;> omega) | (constructor <;> omega))
          · first | (first | assumption | rfl | omega) | (first | assumption | omega | (refine ⟨?_, ?_, ?_, ?_⟩ <;> omega) | (constructor <;> omega))
          · first | (first | assumption | rfl | omega) | (first | assumption | omega | (refine ⟨?_, ?_, ?_, ?_⟩ <;> omega) | (constructor <;> omega))
          rintro _ whs151 ⟨r152, L153, rfl, hs151, ho154, hd155⟩
          replace hs151 := St.lendP hF150 hs151
          refine ⟨_, rfl, ?_⟩
          have hs156 := (((hs151.fb b2).fb b146).fb b_s)
          have hrl := hd155
          refine WL.nil ⟨(hs156.d1.d1.rm L153), ?_⟩
          refine WH.dn ?_
          refine hK144 _ _ ?_
          refine WC.rG 4 hs156.d1 hs156 hs156 (fun _ hs157 => ?_)
          refine WG.rn [0] hs157 [2] rfl rfl ?_
          refine WG.tk 2 rfl (by kernel_rfl) rfl rfl rfl hs157 (fun w_ hs_ => (Run.nilCheck rfl rfl)) ?_
          refine WG.rn [3] hs157 [] rfl rfl ?_
          refine WG.all [1, 4] (by kernel_rfl) rfl (WGs.cons (i := 1) rfl rfl ?_ (WGs.consK rfl ?_ WGs.nil))
          ·refine WL.r 1 hs157 [2] rfl ?_
           refine WL.nil ⟨hs157, ?_⟩
           refine WG.oK rfl ?_
           refine WL.st tbk hs157 0 rfl rfl (fun _ hs158 => ?_)
           refine WL.nil ⟨hs158.d1, ?_⟩
           refine WH.take 5 rfl (by kernel_rfl) rfl rfl rfl hs158.d1 (fun w_ hs_ => (Run.nilCheck rfl rfl)) ?_
           refine WH.rn [6] hs158.d1 [] rfl rfl ?_
           refine WH.o1 7 rfl ?_
           refine WL.st tbk hs158 0 rfl rfl (fun _ hs159 => ?_)
           refine WL.nil ⟨hs159.d1, ?_⟩
           refine WH.dn ?_
           refine ibN ?_
           refine retK0 rfl ?_
           obtain ⟨L160, L161, L162, L163, hs168, ho164, ho165, ho166, ho167⟩ := ownScrR.open_ (hs159.fr L153) ho154
           have hs169 := (((hs168.fb b2).fb b146).fb b_s)
           obtain ⟨L171, hs170, ho172⟩ := ownScrR.fl ((((hs169.fr L163).fr L162).fr L161).fr L160) ho164 ho165 ho166 ho167
           have hs173 := (((hs170.fb b2).fb b146).fb b_s)
           refine ⟨⟨r152.W, r152.H, ⟨r152.Main.W, r152.Main.H, SlD.of ho164⟩, ⟨r152.Alt.W, r152.Alt.H, SlD.of ho165⟩, r152.OnAlt, (0), r152.Y, false, ⟨r152.A.Fg, r152.A.Bg, r152.A.Bold, r152.A.Under, r152.A.Turn⟩, r152.Top, r152.Bot, r152.NoWrap, r152.Hide, r152.SaveX, r152.SaveY, ⟨r152.SaveA.Fg, r152.SaveA.Bg, r152.SaveA.Bold, r152.SaveA.Under, r152.SaveA.Turn⟩, SlD.of ho166, r152.Limit, SlD.ofN ho167⟩, _, rfl, St.keepP (L1 := L171) ((hs173.fr L171).fb b_s), (by exact ho172), ?_⟩
           · rw [← hr2]; unfold csiD; rw [if_neg e65, if_neg e66, if_neg e67, if_neg e68, if_neg e71, if_neg e100, if_neg e7, if_neg e74, if_neg e75, if_neg e88, if_neg e64, if_neg e80, if_pos e76]; unfold linesD; rw [if_pos hwi]; show _ = ({ rollD r18.dat r18.Y r18.Bot (-argI l 0 1) with X := 0, Wrap := false } : ScrD); rw [← hrl]; rfl
          ·refine WL.st tbk hs157 0 rfl rfl (fun _ hs174 => ?_)
           refine WL.nil ⟨hs174.d1, ?_⟩
           refine WH.rn [1] hs174.d1 [1] rfl rfl ?_
           refine WH.take 5 rfl (by kernel_rfl) rfl rfl rfl hs174.d1 (fun w_ hs_ => (Run.nilCheck rfl rfl)) ?_
           refine WH.rn [6] hs174.d1 [] rfl rfl ?_
           refine WH.o1 7 rfl ?_
           refine WL.st tbk hs174 0 rfl rfl (fun _ hs175 => ?_)
           refine WL.nil ⟨hs175.d1, ?_⟩
           refine WH.dn ?_
           refine ibN ?_
           refine retK0 rfl ?_
           obtain ⟨L176, L177, L178, L179, hs184, ho180, ho181, ho182, ho183⟩ := ownScrR.open_ (hs175.fr L153) ho154
           have hs185 := (((hs184.fb b2).fb b146).fb b_s)
           obtain ⟨L187, hs186, ho188⟩ := ownScrR.fl ((((hs185.fr L179).fr L178).fr L177).fr L176) ho180 ho181 ho182 ho183
           have hs189 := (((hs186.fb b2).fb b146).fb b_s)
           refine ⟨⟨r152.W, r152.H, ⟨r152.Main.W, r152.Main.H, SlD.of ho180⟩, ⟨r152.Alt.W, r152.Alt.H, SlD.of ho181⟩, r152.OnAlt, (0), r152.Y, false, ⟨r152.A.Fg, r152.A.Bg, r152.A.Bold, r152.A.Under, r152.A.Turn⟩, r152.Top, r152.Bot, r152.NoWrap, r152.Hide, r152.SaveX, r152.SaveY, ⟨r152.SaveA.Fg, r152.SaveA.Bg, r152.SaveA.Bold, r152.SaveA.Under, r152.SaveA.Turn⟩, SlD.of ho182, r152.Limit, SlD.ofN ho183⟩, _, rfl, St.keepP (L1 := L187) ((hs189.fr L187).fb b_s), (by exact ho188), ?_⟩
           · rw [← hr2]; unfold csiD; rw [if_neg e65, if_neg e66, if_neg e67, if_neg e68, if_neg e71, if_neg e100, if_neg e7, if_neg e74, if_neg e75, if_neg e88, if_neg e64, if_neg e80, if_pos e76]; unfold linesD; rw [if_pos hwi]; show _ = ({ rollD r18.dat r18.Y r18.Bot (-argI l 0 1) with X := 0, Wrap := false } : ScrD); rw [← hrl]; rfl
         ·refine WL.mapPut hs147 0 rfl Tryz.underlying230 Tryz.underlying4 rfl rfl rfl rfl rfl rfl rfl ?_ ?_ (fun whs190 hs190 => ?_)
          · trivial
          · rfl
          refine WL.nil ⟨hs190.d1, ?_⟩
          refine WG.o1 12 rfl rfl ?_
          refine WL.mapPut hs190 0 rfl Tryz.underlying230 Tryz.underlying4 rfl rfl rfl rfl rfl rfl rfl ?_ ?_ (fun whs191 hs191 => ?_)
          · trivial
          · rfl
          refine WL.nil ⟨hs191.d1, ?_⟩
          refine WG.rn [15] hs191.d1 [] rfl rfl ?_
          refine WG.o1 18 rfl rfl ?_
          refine WL.val rfl rfl rfl (Run.mapGet (v := i64 (-argI l 0 1)) Tryz.underlying230 Tryz.underlying4 rfl rfl rfl (hs191.own _ (nthL_mem (i := 0) rfl)).1 ?_ ?_) ?_
          · trivial
          · rw [show decide (b = 76) = true from decide_eq_true e76]; exact ⟨_, rfl⟩
          refine WL.nil ⟨hs191.d1, ?_⟩
          refine WG.oK rfl ?_
          have hF192 : St _ _ ((_, _) :: (L19 ++ _)) _ := ((hs191.fr L19).fb b_s)
          refine WL.cl Tryz.call210 rfl (c_impl_Scr_roll _ r18 _ _ _ _ _ (St.headP hF192) ho20 (St.ownP hF192) (St.nodupP hF192) ?_ ?_ ?_ ?_) ?_
          · first | (first | assumption | rfl | omega) | (first | assumption | omega | (refine ⟨?_, ?_, ?_, ?_⟩ <;> omega) | (constructor <;> omega))
          · first | (first | assumption | rfl | omega) | (first | assumption | omega | (refine ⟨?_, ?_, ?_, ?_⟩ <;> omega) | (constructor <;> omega))
          · first | (first | assumption | rfl | omega) | (first | assumption | omega | (refine ⟨?_, ?_, ?_, ?_⟩ <;> omega) | (constructor <;> omega))
          · first | (first | assumption | rfl | omega) | (first | assumption | omega | (refine ⟨?_, ?_, ?_, ?_⟩ <;> omega) | (constructor <;> omega))
          rintro _ whs193 ⟨r194, L195, rfl, hs193, ho196, hd197⟩
          replace hs193 := St.lendP hF192 hs193
          refine ⟨_, rfl, ?_⟩
          have hs198 := (((hs193.fb b2).fb b146).fb b_s)
          have hrl := hd197
          refine WL.nil ⟨(hs198.d1.d1.rm L195), ?_⟩
          refine WH.dn ?_
          refine hK144 _ _ ?_
          refine WC.rG 4 hs198.d1 hs198 hs198 (fun _ hs199 => ?_)
          refine WG.rn [0] hs199 [2] rfl rfl ?_
          refine WG.tk 2 rfl (by kernel_rfl) rfl rfl rfl hs199 (fun w_ hs_ => (Run.nilCheck rfl rfl)) ?_
          refine WG.rn [3] hs199 [] rfl rfl ?_
          refine WG.all [1, 4] (by kernel_rfl) rfl (WGs.cons (i := 1) rfl rfl ?_ (WGs.consK rfl ?_ WGs.nil))
          ·refine WL.r 1 hs199 [2] rfl ?_
           refine WL.nil ⟨hs199, ?_⟩
           refine WG.oK rfl ?_
           refine WL.st tbk hs199 0 rfl rfl (fun _ hs200 => ?_)
           refine WL.nil ⟨hs200.d1, ?_⟩
           refine WH.take 5 rfl (by kernel_rfl) rfl rfl rfl hs200.d1 (fun w_ hs_ => (Run.nilCheck rfl rfl)) ?_
           refine WH.rn [6] hs200.d1 [] rfl rfl ?_
           refine WH.o1 7 rfl ?_
           refine WL.st tbk hs200 0 rfl rfl (fun _ hs201 => ?_)
           refine WL.nil ⟨hs201.d1, ?_⟩
           refine WH.dn ?_
           refine ibN ?_
           refine retK0 rfl ?_
           obtain ⟨L202, L203, L204, L205, hs210, ho206, ho207, ho208, ho209⟩ := ownScrR.open_ (hs201.fr L195) ho196
           have hs211 := (((hs210.fb b2).fb b146).fb b_s)
           obtain ⟨L213, hs212, ho214⟩ := ownScrR.fl ((((hs211.fr L205).fr L204).fr L203).fr L202) ho206 ho207 ho208 ho209
           have hs215 := (((hs212.fb b2).fb b146).fb b_s)
           refine ⟨⟨r194.W, r194.H, ⟨r194.Main.W, r194.Main.H, SlD.of ho206⟩, ⟨r194.Alt.W, r194.Alt.H, SlD.of ho207⟩, r194.OnAlt, (0), r194.Y, false, ⟨r194.A.Fg, r194.A.Bg, r194.A.Bold, r194.A.Under, r194.A.Turn⟩, r194.Top, r194.Bot, r194.NoWrap, r194.Hide, r194.SaveX, r194.SaveY, ⟨r194.SaveA.Fg, r194.SaveA.Bg, r194.SaveA.Bold, r194.SaveA.Under, r194.SaveA.Turn⟩, SlD.of ho208, r194.Limit, SlD.ofN ho209⟩, _, rfl, St.keepP (L1 := L213) ((hs215.fr L213).fb b_s), (by exact ho214), ?_⟩
           · rw [← hr2]; unfold csiD; rw [if_neg e65, if_neg e66, if_neg e67, if_neg e68, if_neg e71, if_neg e100, if_neg e7, if_neg e74, if_neg e75, if_neg e88, if_neg e64, if_neg e80, if_pos e76]; unfold linesD; rw [if_pos hwi]; show _ = ({ rollD r18.dat r18.Y r18.Bot (-argI l 0 1) with X := 0, Wrap := false } : ScrD); rw [← hrl]; rfl
          ·refine WL.st tbk hs199 0 rfl rfl (fun _ hs216 => ?_)
           refine WL.nil ⟨hs216.d1, ?_⟩
           refine WH.rn [1] hs216.d1 [1] rfl rfl ?_
           refine WH.take 5 rfl (by kernel_rfl) rfl rfl rfl hs216.d1 (fun w_ hs_ => (Run.nilCheck rfl rfl)) ?_
           refine WH.rn [6] hs216.d1 [] rfl rfl ?_
           refine WH.o1 7 rfl ?_
           refine WL.st tbk hs216 0 rfl rfl (fun _ hs217 => ?_)
           refine WL.nil ⟨hs217.d1, ?_⟩
           refine WH.dn ?_
           refine ibN ?_
           refine retK0 rfl ?_
           obtain ⟨L218, L219, L220, L221, hs226, ho222, ho223, ho224, ho225⟩ := ownScrR.open_ (hs217.fr L195) ho196
           have hs227 := (((hs226.fb b2).fb b146).fb b_s)
           obtain ⟨L229, hs228, ho230⟩ := ownScrR.fl ((((hs227.fr L221).fr L220).fr L219).fr L218) ho222 ho223 ho224 ho225
           have hs231 := (((hs228.fb b2).fb b146).fb b_s)
           refine ⟨⟨r194.W, r194.H, ⟨r194.Main.W, r194.Main.H, SlD.of ho222⟩, ⟨r194.Alt.W, r194.Alt.H, SlD.of ho223⟩, r194.OnAlt, (0), r194.Y, false, ⟨r194.A.Fg, r194.A.Bg, r194.A.Bold, r194.A.Under, r194.A.Turn⟩, r194.Top, r194.Bot, r194.NoWrap, r194.Hide, r194.SaveX, r194.SaveY, ⟨r194.SaveA.Fg, r194.SaveA.Bg, r194.SaveA.Bold, r194.SaveA.Under, r194.SaveA.Turn⟩, SlD.of ho224, r194.Limit, SlD.ofN ho225⟩, _, rfl, St.keepP (L1 := L229) ((hs231.fr L229).fb b_s), (by exact ho230), ?_⟩
           · rw [← hr2]; unfold csiD; rw [if_neg e65, if_neg e66, if_neg e67, if_neg e68, if_neg e71, if_neg e100, if_neg e7, if_neg e74, if_neg e75, if_neg e88, if_neg e64, if_neg e80, if_pos e76]; unfold linesD; rw [if_pos hwi]; show _ = ({ rollD r18.dat r18.Y r18.Bot (-argI l 0 1) with X := 0, Wrap := false } : ScrD); rw [← hrl]; rfl
        ·have hwi : ¬ within r18.dat.Y r18.dat.Top r18.dat.Bot = true := by have h9 := h143; show ¬ within r18.Y r18.Top r18.Bot = true; rw [h9]; decide
         refine WC.skip ?_
         refine ibN ?_
         refine retK0 rfl ?_
         refine ⟨r18, _, rfl, St.keepP (L1 := L19) ((hs142.fr L19).fb b_s), ho20, ?_⟩
         · rw [← hr2]; unfold csiD; rw [if_neg e65, if_neg e66, if_neg e67, if_neg e68, if_neg e71, if_neg e100, if_neg e7, if_neg e74, if_neg e75, if_neg e88, if_neg e64, if_neg e80, if_pos e76]; unfold linesD; rw [if_neg hwi]
       ·have e76 : ¬ b = 76 := by have h9 := h140; simpa using h9
        refine WC.region ?_
        refine WL.r 2 hs24 [] rfl ?_
        refine WL.nil ?_
        refine hK139 _ _ ?_
        refine WC.cq rfl (fun h232 qh232 => ?_) (fun h232 qh232 => ?_)
        ·have e77 : b = 77 := by have h9 := h232; simpa using h9
         refine WC.sq1 hs24 ?_
         refine WQ.r 1 [1] rfl ?_
         refine WQ.val rfl rfl rfl (fun w_ hs_ => (Run.nilCheck rfl rfl)) ?_
         refine WQ.r 3 [0, 1] rfl ?_
         refine WQ.val rfl rfl rfl (fun w_ hs_ => (Run.nilCheck rfl rfl)) ?_
         refine WQ.r 3 [0, 1] rfl ?_
         refine WQ.val rfl rfl rfl (fun w_ hs_ => (Run.nilCheck rfl rfl)) ?_
         refine WQ.r 2 [0] rfl ?_
         refine WQ.call rfl rfl rfl (fun w_ hs_ => (Run.call Tryz.call97 rfl rfl rfl)) (fun w_ hs_ => (c_impl_within _ _ _ _).mono fun e_ w_ h_ => ⟨h_.1, (hs_ : St _ _ _ _).call0 h_.2⟩) ?_
         refine WQ.nil (fun _ (hs233 : St _ _ _ _) => ?_)
         refine WC.cq rfl (fun h234 qh234 => ?_) (fun h234 qh234 => ?_)
         ·have hwi : within r18.dat.Y r18.dat.Top r18.dat.Bot = true := h234
          have hwj := within_iff.1 hwi
          have htl : 0 ≤ r18.Y ∧ r18.Y ≤ r18.Bot ∧ r18.Bot < (shownD r18.dat).H := by rw [hsh2.2]; simp only [ScrR.dat] at hwj; omega
          refine WC.seq (fun K235 hK235 => ?_)
          refine WC.rG 19 (hs233.d1.rm L19) hs233 hs233 (fun _ hs236 => ?_)
          refine WG.rn [0, 1] hs236 [1, 1] rfl rfl ?_
          refine WG.tk 2 rfl (by kernel_rfl) rfl rfl rfl hs236 (fun w_ hs_ => (Run.nilCheck rfl rfl)) ?_
          refine WG.rn [3, 4, 5] hs236 [0, 1] rfl rfl ?_
          refine WG.tk 6 rfl (by kernel_rfl) rfl rfl rfl hs236 (fun w_ hs_ => (Run.nilCheck rfl rfl)) ?_
          refine WG.rn [7, 8, 10, 11, 13, 16, 17] hs236 [0] rfl rfl ?_
          refine WG.o1 9 rfl rfl ?_
          refine WL.makeMap hs236 rfl rfl rfl rfl (fun b237 whs238 hs238 => ?_)
          refine WL.nil ⟨hs238.d1, ?_⟩
          refine WG.all [12, 14] (by kernel_rfl) rfl (WGs.cons (i := 12) rfl rfl ?_ (WGs.cons (i := 14) rfl rfl ?_ WGs.nil))
          ·refine WL.mapPut hs238 0 rfl Tryz.underlying230 Tryz.underlying4 rfl rfl rfl rfl rfl rfl rfl ?_ ?_ (fun whs239 hs239 => ?_)
           · trivial
           · rfl
           refine WL.nil ⟨hs239.d1, ?_⟩
           refine WG.o1 14 rfl rfl ?_
           refine WL.mapPut hs239 0 rfl Tryz.underlying230 Tryz.underlying4 rfl rfl rfl rfl rfl rfl rfl ?_ ?_ (fun whs240 hs240 => ?_)
           · trivial
           · rfl
           refine WL.nil ⟨hs240.d1, ?_⟩
           refine WG.rn [15] hs240.d1 [] rfl rfl ?_
           refine WG.o1 18 rfl rfl ?_
           refine WL.val rfl rfl rfl (Run.mapGet (v := i64 (argI l 0 1)) Tryz.underlying230 Tryz.underlying4 rfl rfl rfl (hs240.own _ (nthL_mem (i := 0) rfl)).1 ?_ ?_) ?_
           · trivial
           · rw [show decide (b = 76) = false from decide_eq_false e76]; exact ⟨_, rfl⟩
           refine WL.nil ⟨hs240.d1, ?_⟩
           refine WG.oK rfl ?_
           have hF241 : St _ _ ((_, _) :: (L19 ++ _)) _ := ((hs240.fr L19).fb b_s)
           refine WL.cl Tryz.call210 rfl (c_impl_Scr_roll _ r18 _ _ _ _ _ (St.headP hF241) ho20 (St.ownP hF241) (St.nodupP hF241) ?_ ?_ ?_ ?_) ?_
           · first | (first | assumption | rfl | omega) | (first | assumption | omega | (refine ⟨?_, ?_, ?_, ?_⟩ <;> omega) | (constructor <;> omega))
           · first | (first | assumption | rfl | omega) | (first | assumption | omega | (refine ⟨?_, ?_, ?_, ?_⟩ <;> omega) | (constructor <;> omega))
           · first | (first | assumption | rfl | omega) | (first | assumption | omega | (refine ⟨?_, ?_, ?_, ?_⟩ <;> omega) | (constructor <;> omega))
           · first | (first | assumption | rfl | omega) | (first | assumption | omega | (refine ⟨?_, ?_, ?_, ?_⟩ <;> omega) | (constructor <;> omega))
           rintro _ whs242 ⟨r243, L244, rfl, hs242, ho245, hd246⟩
           replace hs242 := St.lendP hF241 hs242
           refine ⟨_, rfl, ?_⟩
           have hs247 := (((hs242.fb b2).fb b237).fb b_s)
           have hrl := hd246
           refine WL.nil ⟨(hs247.d1.d1.rm L244), ?_⟩
           refine WH.dn ?_
           refine hK235 _ _ ?_
           refine WC.rG 4 hs247.d1 hs247 hs247 (fun _ hs248 => ?_)
           refine WG.rn [0] hs248 [2] rfl rfl ?_
           refine WG.tk 2 rfl (by kernel_rfl) rfl rfl rfl hs248 (fun w_ hs_ => (Run.nilCheck rfl rfl)) ?_
           refine WG.rn [3] hs248 [] rfl rfl ?_
           refine WG.all [1, 4] (by kernel_rfl) rfl (WGs.cons (i := 1) rfl rfl ?_ (WGs.consK rfl ?_ WGs.nil))
           ·refine WL.r 1 hs248 [2] rfl ?_
            refine WL.nil ⟨hs248, ?_⟩
            refine WG.oK rfl ?_
            refine WL.st tbk hs248 0 rfl rfl (fun _ hs249 => ?_)
            refine WL.nil ⟨hs249.d1, ?_⟩
            refine WH.take 5 rfl (by kernel_rfl) rfl rfl rfl hs249.d1 (fun w_ hs_ => (Run.nilCheck rfl rfl)) ?_
            refine WH.rn [6] hs249.d1 [] rfl rfl ?_
            refine WH.o1 7 rfl ?_
            refine WL.st tbk hs249 0 rfl rfl (fun _ hs250 => ?_)
            refine WL.nil ⟨hs250.d1, ?_⟩
            refine WH.dn ?_
            refine ibN ?_
            refine retK0 rfl ?_
            obtain ⟨L251, L252, L253, L254, hs259, ho255, ho256, ho257, ho258⟩ := ownScrR.open_ (hs250.fr L244) ho245
            have hs260 := (((hs259.fb b2).fb b237).fb b_s)
            obtain ⟨L262, hs261, ho263⟩ := ownScrR.fl ((((hs260.fr L254).fr L253).fr L252).fr L251) ho255 ho256 ho257 ho258
            have hs264 := (((hs261.fb b2).fb b237).fb b_s)
            refine ⟨⟨r243.W, r243.H, ⟨r243.Main.W, r243.Main.H, SlD.of ho255⟩, ⟨r243.Alt.W, r243.Alt.H, SlD.of ho256⟩, r243.OnAlt, (0), r243.Y, false, ⟨r243.A.Fg, r243.A.Bg, r243.A.Bold, r243.A.Under, r243.A.Turn⟩, r243.Top, r243.Bot, r243.NoWrap, r243.Hide, r243.SaveX, r243.SaveY, ⟨r243.SaveA.Fg, r243.SaveA.Bg, r243.SaveA.Bold, r243.SaveA.Under, r243.SaveA.Turn⟩, SlD.of ho257, r243.Limit, SlD.ofN ho258⟩, _, rfl, St.keepP (L1 := L262) ((hs264.fr L262).fb b_s), (by exact ho263), ?_⟩
            · rw [← hr2]; unfold csiD; rw [if_neg e65, if_neg e66, if_neg e67, if_neg e68, if_neg e71, if_neg e100, if_neg e7, if_neg e74, if_neg e75, if_neg e88, if_neg e64, if_neg e80, if_neg e76, if_pos e77]; unfold linesD; rw [if_pos hwi]; show _ = ({ rollD r18.dat r18.Y r18.Bot (argI l 0 1) with X := 0, Wrap := false } : ScrD); rw [← hrl]; rfl
           ·refine WL.st tbk hs248 0 rfl rfl (fun _ hs265 => ?_)
            refine WL.nil ⟨hs265.d1, ?_⟩
            refine WH.rn [1] hs265.d1 [1] rfl rfl ?_
            refine WH.take 5 rfl (by kernel_rfl) rfl rfl rfl hs265.d1 (fun w_ hs_ => (Run.nilCheck rfl rfl)) ?_
            refine WH.rn [6] hs265.d1 [] rfl rfl ?_
            refine WH.o1 7 rfl ?_
            refine WL.st tbk hs265 0 rfl rfl (fun _ hs266 => ?_)
            refine WL.nil ⟨hs266.d1, ?_⟩
            refine WH.dn ?_
            refine ibN ?_
            refine retK0 rfl ?_
            obtain ⟨L267, L268, L269, L270, hs275, ho271, ho272, ho273, ho274⟩ := ownScrR.open_ (hs266.fr L244) ho245
            have hs276 := (((hs275.fb b2).fb b237).fb b_s)
            obtain ⟨L278, hs277, ho279⟩ := ownScrR.fl ((((hs276.fr L270).fr L269).fr L268).fr L267) ho271 ho272 ho273 ho274
            have hs280 := (((hs277.fb b2).fb b237).fb b_s)
            refine ⟨⟨r243.W, r243.H, ⟨r243.Main.W, r243.Main.H, SlD.of ho271⟩, ⟨r243.Alt.W, r243.Alt.H, SlD.of ho272⟩, r243.OnAlt, (0), r243.Y, false, ⟨r243.A.Fg, r243.A.Bg, r243.A.Bold, r243.A.Under, r243.A.Turn⟩, r243.Top, r243.Bot, r243.NoWrap, r243.Hide, r243.SaveX, r243.SaveY, ⟨r243.SaveA.Fg, r243.SaveA.Bg, r243.SaveA.Bold, r243.SaveA.Under, r243.SaveA.Turn⟩, SlD.of ho273, r243.Limit, SlD.ofN ho274⟩, _, rfl, St.keepP (L1 := L278) ((hs280.fr L278).fb b_s), (by exact ho279), ?_⟩
            · rw [← hr2]; unfold csiD; rw [if_neg e65, if_neg e66, if_neg e67, if_neg e68, if_neg e71, if_neg e100, if_neg e7, if_neg e74, if_neg e75, if_neg e88, if_neg e64, if_neg e80, if_neg e76, if_pos e77]; unfold linesD; rw [if_pos hwi]; show _ = ({ rollD r18.dat r18.Y r18.Bot (argI l 0 1) with X := 0, Wrap := false } : ScrD); rw [← hrl]; rfl
          ·refine WL.mapPut hs238 0 rfl Tryz.underlying230 Tryz.underlying4 rfl rfl rfl rfl rfl rfl rfl ?_ ?_ (fun whs281 hs281 => ?_)
           · trivial
           · rfl
           refine WL.nil ⟨hs281.d1, ?_⟩
           refine WG.o1 12 rfl rfl ?_
           refine WL.mapPut hs281 0 rfl Tryz.underlying230 Tryz.underlying4 rfl rfl rfl rfl rfl rfl rfl ?_ ?_ (fun whs282 hs282 => ?_)
           · trivial
           · rfl
           refine WL.nil ⟨hs282.d1, ?_⟩
           refine WG.rn [15] hs282.d1 [] rfl rfl ?_
           refine WG.o1 18 rfl rfl ?_
           refine WL.val rfl rfl rfl (Run.mapGet (v := i64 (argI l 0 1)) Tryz.underlying230 Tryz.underlying4 rfl rfl rfl (hs282.own _ (nthL_mem (i := 0) rfl)).1 ?_ ?_) ?_
           · trivial
           · rw [show decide (b = 76) = false from decide_eq_false e76]; exact ⟨_, rfl⟩
           refine WL.nil ⟨hs282.d1, ?_⟩
           refine WG.oK rfl ?_
           have hF283 : St _ _ ((_, _) :: (L19 ++ _)) _ := ((hs282.fr L19).fb b_s)
           refine WL.cl Tryz.call210 rfl (c_impl_Scr_roll _ r18 _ _ _ _ _ (St.headP hF283) ho20 (St.ownP hF283) (St.nodupP hF283) ?_ ?_ ?_ ?_) ?_
           · first | (first | assumption | rfl | omega) | (first | assumption | omega | (refine ⟨?_, ?_, ?_, ?_⟩ <;> omega) | (constructor <;> omega))
           · first | (first | assumption | rfl | omega) | (first | assumption | omega | (refine ⟨?_, ?_, ?_, ?_⟩ <;> omega) | (constructor <;> omega))
           · first | (first | assumption | rfl | omega) | (first | assumption | omega | (refine ⟨?_, ?_, ?_, ?_⟩ <;> omega) | (constructor <;> omega))
           · first | (first | assumption | rfl | omega) | (first | assumption | omega | (refine ⟨?_, ?_, ?_, ?_⟩ <;> omega) | (constructor <;> omega))
           rintro _ whs284 ⟨r285, L286, rfl, hs284, ho287, hd288⟩
           replace hs284 := St.lendP hF283 hs284
           refine ⟨_, rfl, ?_⟩
           have hs289 := (((hs284.fb b2).fb b237).fb b_s)
           have hrl := hd288
           refine WL.nil ⟨(hs289.d1.d1.rm L286), ?_⟩
           refine WH.dn ?_
           refine hK235 _ _ ?_
           refine WC.rG 4 hs289.d1 hs289 hs289 (fun _ hs290 => ?_)
           refine WG.rn [0] hs290 [2] rfl rfl ?_
           refine WG.tk 2 rfl (by kernel_rfl) rfl rfl rfl hs290 (fun w_ hs_ => (Run.nilCheck rfl rfl)) ?_
           refine WG.rn [3] hs290 [] rfl rfl ?_
           refine WG.all [1, 4] (by kernel_rfl) rfl (WGs.cons (i := 1) rfl rfl ?_ (WGs.consK rfl ?_ WGs.nil))
           ·refine WL.r 1 hs290 [2] rfl ?_
            refine WL.nil ⟨hs290, ?_⟩
            refine WG.oK rfl ?_
            refine WL.st tbk hs290 0 rfl rfl (fun _ hs291 => ?_)
            refine WL.nil ⟨hs291.d1, ?_⟩
            refine WH.take 5 rfl (by kernel_rfl) rfl rfl rfl hs291.d1 (fun w_ hs_ => (Run.nilCheck rfl rfl)) ?_
            refine WH.rn [6] hs291.d1 [] rfl rfl ?_
            refine WH.o1 7 rfl ?_
            refine WL.st tbk hs291 0 rfl rfl (fun _ hs292 => ?_)
            refine WL.nil ⟨hs292.d1, ?_⟩
            refine WH.dn ?_
            refine ibN ?_
            refine retK0 rfl ?_
            obtain ⟨L293, L294, L295, L296, hs301, ho297, ho298, ho299, ho300⟩ := ownScrR.open_ (hs292.fr L286) ho287
            have hs302 := (((hs301.fb b2).fb b237).fb b_s)
            obtain ⟨L304, hs303, ho305⟩ := ownScrR.fl ((((hs302.fr L296).fr L295).fr L294).fr L293) ho297 ho298 ho299 ho300
            have hs306 := (((hs303.fb b2).fb b237).fb b_s)
            refine ⟨⟨r285.W, r285.H, ⟨r285.Main.W, r285.Main.H, SlD.of ho297⟩, ⟨r285.Alt.W, r285.Alt.H, SlD.of ho298⟩, r285.OnAlt, (0), r285.Y, false, ⟨r285.A.Fg, r285.A.Bg, r285.A.Bold, r285.A.Under, r285.A.Turn⟩, r285.Top, r285.Bot, r285.NoWrap, r285.Hide, r285.SaveX, r285.SaveY, ⟨r285.SaveA.Fg, r285.SaveA.Bg, r285.SaveA.Bold, r285.SaveA.Under, r285.SaveA.Turn⟩, SlD.of ho299, r285.Limit, SlD.ofN ho300⟩, _, rfl, St.keepP (L1 := L304) ((hs306.fr L304).fb b_s), (by exact ho305), ?_⟩
            · rw [← hr2]; unfold csiD; rw [if_neg e65, if_neg e66, if_neg e67, if_neg e68, if_neg e71, if_neg e100, if_neg e7, if_neg e74, if_neg e75, if_neg e88, if_neg e64, if_neg e80, if_neg e76, if_pos e77]; unfold linesD; rw [if_pos hwi]; show _ = ({ rollD r18.dat r18.Y r18.Bot (argI l 0 1) with X := 0, Wrap := false } : ScrD); rw [← hrl]; rfl
           ·refine WL.st tbk hs290 0 rfl rfl (fun _ hs307 => ?_)
            refine WL.nil ⟨hs307.d1, ?_⟩
            refine WH.rn [1] hs307.d1 [1] rfl rfl ?_
            refine WH.take 5 rfl (by kernel_rfl) rfl rfl rfl hs307.d1 (fun w_ hs_ => (Run.nilCheck rfl rfl)) ?_
            refine WH.rn [6] hs307.d1 [] rfl rfl ?_
            refine WH.o1 7 rfl ?_
            refine WL.st tbk hs307 0 rfl rfl (fun _ hs308 => ?_)
            refine WL.nil ⟨hs308.d1, ?_⟩
            refine WH.dn ?_
            refine ibN ?_
            refine retK0 rfl ?_
            obtain ⟨L309, L310, L311, L312, hs317, ho313, ho314, ho315, ho316⟩ := ownScrR.open_ (hs308.fr L286) ho287
            have hs318 := (((hs317.fb b2).fb b237).fb b_s)
            obtain ⟨L320, hs319, ho321⟩ := ownScrR.fl ((((hs318.fr L312).fr L311).fr L310).fr L309) ho313 ho314 ho315 ho316
            have hs322 := (((hs319.fb b2).fb b237).fb b_s)
            refine ⟨⟨r285.W, r285.H, ⟨r285.Main.W, r285.Main.H, SlD.of ho313⟩, ⟨r285.Alt.W, r285.Alt.H, SlD.of ho314⟩, r285.OnAlt, (0), r285.Y, false, ⟨r285.A.Fg, r285.A.Bg, r285.A.Bold, r285.A.Under, r285.A.Turn⟩, r285.Top, r285.Bot, r285.NoWrap, r285.Hide, r285.SaveX, r285.SaveY, ⟨r285.SaveA.Fg, r285.SaveA.Bg, r285.SaveA.Bold, r285.SaveA.Under, r285.SaveA.Turn⟩, SlD.of ho315, r285.Limit, SlD.ofN ho316⟩, _, rfl, St.keepP (L1 := L320) ((hs322.fr L320).fb b_s), (by exact ho321), ?_⟩
            · rw [← hr2]; unfold csiD; rw [if_neg e65, if_neg e66, if_neg e67, if_neg e68, if_neg e71, if_neg e100, if_neg e7, if_neg e74, if_neg e75, if_neg e88, if_neg e64, if_neg e80, if_neg e76, if_pos e77]; unfold linesD; rw [if_pos hwi]; show _ = ({ rollD r18.dat r18.Y r18.Bot (argI l 0 1) with X := 0, Wrap := false } : ScrD); rw [← hrl]; rfl
         ·have hwi : ¬ within r18.dat.Y r18.dat.Top r18.dat.Bot = true := by have h9 := h234; show ¬ within r18.Y r18.Top r18.Bot = true; rw [h9]; decide
          refine WC.skip ?_
          refine ibN ?_
          refine retK0 rfl ?_
          refine ⟨r18, _, rfl, St.keepP (L1 := L19) ((hs233.fr L19).fb b_s), ho20, ?_⟩
          · rw [← hr2]; unfold csiD; rw [if_neg e65, if_neg e66, if_neg e67, if_neg e68, if_neg e71, if_neg e100, if_neg e7, if_neg e74, if_neg e75, if_neg e88, if_neg e64, if_neg e80, if_neg e76, if_pos e77]; unfold linesD; rw [if_neg hwi]
        ·have e77 : ¬ b = 77 := by have h9 := h232; simpa using h9
         refine WC.r1 hs24 [] rfl ?_
         refine WC.cq rfl (fun h323 qh323 => ?_) (fun h323 qh323 => ?_)
         ·have e83 : b = 83 := by have h9 := h323; simpa using h9
          refine WC.region ?_
          refine WL.r 2 hs24 [1] rfl ?_
          have hF324 : St _ _ ((_, _) :: (L19 ++ _)) _ := ((hs24.fr L19).fb b_s)
          refine WL.cl Tryz.call209 rfl (c_impl_Scr_rollUp _ r18 _ _ _ (St.headP hF324) ho20 (St.ownP hF324) (St.nodupP hF324) ?_ ?_ ?_) ?_
          · first | (first | assumption | rfl | omega) | (first | assumption | omega | (refine ⟨?_, ?_, ?_, ?_⟩ <;> omega) | (constructor <;> omega))
          · first | (first | assumption | rfl | omega) | (first | assumption | omega | (refine ⟨?_, ?_, ?_, ?_⟩ <;> omega) | (constructor <;> omega))
          · first | (first | assumption | rfl | omega) | (first | assumption | omega | (refine ⟨?_, ?_, ?_, ?_⟩ <;> omega) | (constructor <;> omega))
          rintro _ whs325 ⟨r326, L327, rfl, hs325, ho328, hd329⟩
          replace hs325 := St.lendP hF324 hs325
          refine ⟨_, rfl, ?_⟩
          have hs330 := ((hs325.fb b2).fb b_s)
          refine WL.nil ?_
          refine ibN ?_
          refine retK0 rfl ?_
          refine ⟨r326, _, rfl, St.keepP (L1 := L327) ((hs330.fr L327).fb b_s), ho328, ?_⟩
          · rw [← hr2]; unfold csiD; rw [if_neg e65, if_neg e66, if_neg e67, if_neg e68, if_neg e71, if_neg e100, if_neg e7, if_neg e74, if_neg e75, if_neg e88, if_neg e64, if_neg e80, if_neg e76, if_neg e77, if_pos e83]; exact hd329
         ·have e83 : ¬ b = 83 := by have h9 := h323; simpa using h9
          refine WC.r1 hs24 [] rfl ?_
          refine WC.cq rfl (fun h331 qh331 => ?_) (fun h331 qh331 => ?_)
          ·have e84 : b = 84 := by have h9 := h331; simpa using h9
           refine WC.rG 11 (hs24.d1.rm L19) hs24 hs24 (fun _ hs332 => ?_)
           refine WG.rn [0, 1] hs332 [1, 1] rfl rfl ?_
           refine WG.tk 2 rfl (by kernel_rfl) rfl rfl rfl hs332 (fun w_ hs_ => (Run.nilCheck rfl rfl)) ?_
           refine WG.rn [3, 4, 5] hs332 [0, 1] rfl rfl ?_
           refine WG.tk 6 rfl (by kernel_rfl) rfl rfl rfl hs332 (fun w_ hs_ => (Run.nilCheck rfl rfl)) ?_
           refine WG.rn [7, 8, 9, 10] hs332 [0] rfl rfl ?_
           refine WG.oK rfl ?_
           have hF333 : St _ _ ((_, _) :: (L19 ++ _)) _ := ((hs332.fr L19).fb b_s)
           refine WL.cl Tryz.call210 rfl (c_impl_Scr_roll _ r18 _ _ _ _ _ (St.headP hF333) ho20 (St.ownP hF333) (St.nodupP hF333) ?_ ?_ ?_ ?_) ?_
           · first | (first | assumption | rfl | omega) | (first | assumption | omega | (refine ⟨?_, ?_, ?_, ?_⟩ <;> omega) | (constructor <;> omega))
           · first | (first | assumption | rfl | omega) | (first | assumption | omega | (refine ⟨?_, ?_, ?_, ?_⟩ <;> omega) | (constructor <;> omega))
           · first | (first | assumption | rfl | omega) | (first | assumption | omega | (refine ⟨?_, ?_, ?_, ?_⟩ <;> omega) | (constructor <;> omega))
           · first | (first | assumption | rfl | omega) | (first | assumption | omega | (refine ⟨?_, ?_, ?_, ?_⟩ <;> omega) | (constructor <;> omega))
           rintro _ whs334 ⟨r335, L336, rfl, hs334, ho337, hd338⟩
           replace hs334 := St.lendP hF333 hs334
           refine ⟨_, rfl, ?_⟩
           have hs339 := ((hs334.fb b2).fb b_s)
           refine WL.nil ⟨(hs339.d1.rm L336), ?_⟩
           refine WH.dn ?_
           refine ibN ?_
           refine retK0 rfl ?_
           refine ⟨r335, _, rfl, St.keepP (L1 := L336) ((hs339.fr L336).fb b_s), ho337, ?_⟩
           · rw [← hr2]; unfold csiD; rw [if_neg e65, if_neg e66, if_neg e67, if_neg e68, if_neg e71, if_neg e100, if_neg e7, if_neg e74, if_neg e75, if_neg e88, if_neg e64, if_neg e80, if_neg e76, if_neg e77, if_neg e83, if_pos e84]; exact hd338
          ·have e84 : ¬ b = 84 := by have h9 := h331; simpa using h9
           refine WC.r1 hs24 [] rfl ?_
           refine WC.cq rfl (fun h340 qh340 => ?_) (fun h340 qh340 => ?_)
           ·have e109 : b = 109 := by have h9 := h340; simpa using h9
            refine WC.rG 9 hs24.d1 hs24 hs24 (fun _ hs341 => ?_)
            refine WG.rn [0, 1] hs341 [1, 1] rfl rfl ?_
            refine WG.tk 2 rfl (by kernel_rfl) rfl rfl rfl hs341 (fun w_ hs_ => (Run.nilCheck rfl rfl)) ?_
            refine WG.rn [3, 4, 5] hs341 [0] rfl rfl ?_
            refine WG.o1 6 rfl rfl ?_
            refine WL.cl Tryz.call238 rfl (c_impl_Sgr _ _ _ _ _ _ _ _ _ _ (SlF.st f_l hs341 s_l) ?_ ?_) ?_
            · first | (first | assumption | rfl | omega) | (first | assumption | omega | (refine ⟨?_, ?_, ?_, ?_⟩ <;> omega) | (constructor <;> omega))
            · first | (first | assumption | rfl | omega) | (first | assumption | omega | (refine ⟨?_, ?_, ?_, ?_⟩ <;> omega) | (constructor <;> omega))
            rintro _ whs342 ⟨r343, rfl, hs342, hr344⟩
            replace hs342 := hs341.callF hs342
            refine ⟨_, rfl, ?_⟩
            rw [List.nil_append] at hs342
            replace hs342 := St.perm hs342 (L' := [_, _] ++ _) pR
            have hsg : r343 = sgrRes r18.A l := hr344
            refine WL.nil ⟨hs342, ?_⟩
            refine WG.tk 7 rfl (by kernel_rfl) rfl rfl rfl hs342 (fun w_ hs_ => (Run.nilCheck rfl rfl)) ?_
            refine WG.rn [8] hs342 [] rfl rfl ?_
            refine WG.oK rfl ?_
            refine WL.st tbk hs342 0 rfl rfl (fun _ hs345 => ?_)
            refine WL.nil ⟨hs345.d1, ?_⟩
            refine WH.dn ?_
            refine ibN ?_
            refine retK0 rfl ?_
            obtain ⟨L346, L347, L348, L349, hs354, ho350, ho351, ho352, ho353⟩ := ownScrR.open_ (hs345.fr L19) ho20
            have hs355 := ((hs354.fb b2).fb b_s)
            obtain ⟨L357, hs356, ho358⟩ := ownScrR.fl ((((hs355.fr L349).fr L348).fr L347).fr L346) ho350 ho351 ho352 ho353
            have hs359 := ((hs356.fb b2).fb b_s)
            refine ⟨⟨r18.W, r18.H, ⟨r18.Main.W, r18.Main.H, SlD.of ho350⟩, ⟨r18.Alt.W, r18.Alt.H, SlD.of ho351⟩, r18.OnAlt, r18.X, r18.Y, r18.Wrap, ⟨r343.Fg, r343.Bg, r343.Bold, r343.Under, r343.Turn⟩, r18.Top, r18.Bot, r18.NoWrap, r18.Hide, r18.SaveX, r18.SaveY, ⟨r18.SaveA.Fg, r18.SaveA.Bg, r18.SaveA.Bold, r18.SaveA.Under, r18.SaveA.Turn⟩, SlD.of ho352, r18.Limit, SlD.ofN ho353⟩, _, rfl, St.keepP (L1 := L357) ((hs359.fr L357).fb b_s), (by exact ho358), ?_⟩
            · rw [← hr2]; unfold csiD; rw [if_neg e65, if_neg e66, if_neg e67, if_neg e68, if_neg e71, if_neg e100, if_neg e7, if_neg e74, if_neg e75, if_neg e88, if_neg e64, if_neg e80, if_neg e76, if_neg e77, if_neg e83, if_neg e84, if_pos e109]; show _ = ({ r18.dat with A := sgrRes r18.A l } : ScrD); rw [← hsg]; rfl
           ·have e109 : ¬ b = 109 := by have h9 := h340; simpa using h9
            refine WC.r1 hs24 [] rfl ?_
            refine WC.cq rfl (fun h360 qh360 => ?_) (fun h360 qh360 => ?_)
            ·have e114 : b = 114 := by have h9 := h360; simpa using h9
             refine WC.region ?_
             refine WL.r 3 hs24 [1] rfl ?_
             have hF361 : St _ _ ((_, _) :: (L19 ++ _)) _ := ((hs24.fr L19).fb b_s)
             refine WL.cl Tryz.call239 rfl (c_impl_Scr_region _ r18 _ _ _ _ _ _ _ (St.headP hF361) ho20 (St.ownP hF361) (SlF.st f_l hs24 s_l) (St.nodupP hF361) (St.sepTP hF361 f_l s_l) ?_ ?_ ?_ ?_) ?_
             · first | (first | assumption | rfl | omega) | (first | assumption | omega | (refine ⟨?_, ?_, ?_, ?_⟩ <;> omega) | (constructor <;> omega))
             · first | (first | assumption | rfl | omega) | (first | assumption | omega | (refine ⟨?_, ?_, ?_, ?_⟩ <;> omega) | (constructor <;> omega))
             · first | (first | assumption | rfl | omega) | (first | assumption | omega | (refine ⟨?_, ?_, ?_, ?_⟩ <;> omega) | (constructor <;> omega))
             · first | (first | assumption | rfl | omega) | (first | assumption | omega | (refine ⟨?_, ?_, ?_, ?_⟩ <;> omega) | (constructor <;> omega))
             rintro _ whs362 ⟨r363, L364, rfl, hs362, ho365, hd366⟩
             replace hs362 := St.lendP hF361 hs362
             refine ⟨_, rfl, ?_⟩
             have hs367 := ((hs362.fb b2).fb b_s)
             refine WL.nil ?_
             refine ibN ?_
             refine retK0 rfl ?_
             refine ⟨r363, _, rfl, St.keepP (L1 := L364) ((hs367.fr L364).fb b_s), ho365, ?_⟩
             · rw [← hr2]; unfold csiD; rw [if_neg e65, if_neg e66, if_neg e67, if_neg e68, if_neg e71, if_neg e100, if_neg e7, if_neg e74, if_neg e75, if_neg e88, if_neg e64, if_neg e80, if_neg e76, if_neg e77, if_neg e83, if_neg e84, if_neg e109, if_pos e114]; exact hd366
            ·have e114 : ¬ b = 114 := by have h9 := h360; simpa using h9
             refine WC.r1 hs24 [] rfl ?_
             refine WC.cq rfl (fun h368 qh368 => ?_) (fun h368 qh368 => ?_)
             ·have e103 : b = 103 := by have h9 := h368; simpa using h9
              refine WC.r1 hs24 [] rfl ?_
              refine WC.block ?_
              refine WC.r1 hs24 [] rfl ?_
              refine WC.cq rfl (fun h369 qh369 => ?_) (fun h369 qh369 => ?_)
              ·have ek0 : argI l 0 0 = 0 := by have h9 := h369; simpa using h9
               refine WC.rG 9 (hs24.d1.rm L19) (hs24.rm L19) hs24 (fun _ hs370 => ?_)
               refine WG.rn [0, 1] (hs370.rm L19) [1, 1] rfl rfl ?_
               refine WG.tk 2 rfl (by kernel_rfl) rfl rfl rfl (hs370.rm L19) (fun w_ hs_ => (Run.nilCheck rfl rfl)) ?_
               refine WG.rn [3, 4] (hs370.rm L19) [0] rfl rfl ?_
               refine WG.tk 5 rfl (by kernel_rfl) rfl rfl rfl (hs370.rm L19) (fun w_ hs_ => (Run.makeFunc rfl rfl)) ?_
               refine WG.o1 6 rfl rfl ?_
               obtain ⟨L372, L373, L374, L375, hs380, ho376, ho377, ho378, ho379⟩ := ownScrR.open_ (hs370.fr L19) ho20
               have hs381 := ((hs380.fb b2).fb b_s)
               refine WL.cl Tryz.call240 rfl (c_slices_DeleteFunc_int_int _ _ _ _ _ _ ho378 (hs381.ow L374) (fun w_ Lx_ hx_ m_ => c_impl_Scr_csi_1 b2 b_s r18 m_ w_ ((hx_.keep _ (lt_of_heap (hs381.own _ (nthL_mem (i := 1) rfl)).1) (St.sepOwn (hs381.fr L374) (nthL_mem (i := 1) rfl))).trans (hs381.own _ (nthL_mem (i := 1) rfl)).1) ((hx_.keep _ (lt_of_heap (hs381.own _ (nthL_mem (i := 0) rfl)).1) (St.sepOwn (hs381.fr L374) (nthL_mem (i := 0) rfl))).trans (hs381.own _ (nthL_mem (i := 0) rfl)).1) (St.neq hs381 (i := 1) (j := 0) rfl rfl (by decide))) ?_) ?_
               · first | (first | assumption | rfl | omega) | (first | assumption | omega | (refine ⟨?_, ?_, ?_, ?_⟩ <;> omega) | (constructor <;> omega))
               rintro _ whs371 ⟨A382, c383, n384, xs385, L1_386, rfl, hs371, ho387, hd388⟩
               replace hs371 := St.lend (hs381.fr L374) hs371
               refine ⟨_, rfl, ?_⟩
               replace hs371 := St.back [_, _] hs371
               have hdl := hd388
               refine WL.nil ⟨((((hs371.rm L1_386).rm L372).rm L373).rm L375), ?_⟩
               refine WG.tk 7 rfl (by kernel_rfl) rfl rfl rfl ((((hs371.rm L1_386).rm L372).rm L373).rm L375) (fun w_ hs_ => (Run.nilCheck rfl rfl)) ?_
               refine WG.rn [8] ((((hs371.rm L1_386).rm L372).rm L373).rm L375) [] rfl rfl ?_
               refine WG.oK rfl ?_
               refine WL.st tbk hs371 0 rfl rfl (fun _ hs389 => ?_)
               refine WL.nil ⟨((((hs389.d1.rm L1_386).rm L372).rm L373).rm L375), ?_⟩
               refine WH.dn ?_
               refine ibN ?_
               refine ibN ?_
               refine retK0 rfl ?_
               obtain ⟨L391, hs390, ho392⟩ := ownScrR.fl ((((hs389.fr L375).fr L1_386).fr L373).fr L372) ho376 ho377 ho387 ho379
               have hs393 := ((hs390.fb b2).fb b_s)
               refine ⟨⟨r18.W, r18.H, ⟨r18.Main.W, r18.Main.H, SlD.of ho376⟩, ⟨r18.Alt.W, r18.Alt.H, SlD.of ho377⟩, r18.OnAlt, r18.X, r18.Y, r18.Wrap, ⟨r18.A.Fg, r18.A.Bg, r18.A.Bold, r18.A.Under, r18.A.Turn⟩, r18.Top, r18.Bot, r18.NoWrap, r18.Hide, r18.SaveX, r18.SaveY, ⟨r18.SaveA.Fg, r18.SaveA.Bg, r18.SaveA.Bold, r18.SaveA.Under, r18.SaveA.Turn⟩, SlD.of ho387, r18.Limit, SlD.ofN ho379⟩, _, rfl, St.keepP (L1 := L391) ((hs393.fr L391).fb b_s), (by exact ho392), ?_⟩
               · rw [← hr2]; unfold csiD; rw [if_neg e65, if_neg e66, if_neg e67, if_neg e68, if_neg e71, if_neg e100, if_neg e7, if_neg e74, if_neg e75, if_neg e88, if_neg e64, if_neg e80, if_neg e76, if_neg e77, if_neg e83, if_neg e84, if_neg e109, if_neg e114, if_pos e103]; rw [ek0, tabsD_0]; show _ = ({ r18.dat with Tabs := r18.Tabs.xs.filter fun x => !decide (x = r18.X) } : ScrD); rw [← hdl]; rfl
              ·have ek0 : ¬ argI l 0 0 = 0 := by have h9 := h369; simpa using h9
               refine WC.r1 hs24 [] rfl ?_
               refine WC.cq rfl (fun h394 qh394 => ?_) (fun h394 qh394 => ?_)
               ·have ek3 : argI l 0 0 = 3 := by have h9 := h394; simpa using h9
                refine WC.region ?_
                refine WL.r 1 hs24 [1] rfl ?_
                refine WL.val rfl rfl rfl (Run.nilCheck rfl rfl) ?_
                refine WL.r 1 hs24 [] rfl ?_
                refine WL.st tbk hs24 0 rfl rfl (fun _ hs395 => ?_)
                refine WL.nil ?_
                refine ibN ?_
                refine ibN ?_
                refine retK0 rfl ?_
                obtain ⟨L396, L397, L398, L399, hs404, ho400, ho401, ho402, ho403⟩ := ownScrR.open_ (hs395.fr L19) ho20
                have hs405 := ((hs404.fb b2).fb b_s)
                obtain ⟨L408, hs407, ho409⟩ := ownScrR.fl ((((hs405.fr L399).fr ([] : Hp)).fr L397).fr L396) ho400 ho401 (OwnF.nil _ _) ho403
                have hs410 := ((hs407.fb b2).fb b_s)
                refine ⟨⟨r18.W, r18.H, ⟨r18.Main.W, r18.Main.H, SlD.of ho400⟩, ⟨r18.Alt.W, r18.Alt.H, SlD.of ho401⟩, r18.OnAlt, r18.X, r18.Y, r18.Wrap, ⟨r18.A.Fg, r18.A.Bg, r18.A.Bold, r18.A.Under, r18.A.Turn⟩, r18.Top, r18.Bot, r18.NoWrap, r18.Hide, r18.SaveX, r18.SaveY, ⟨r18.SaveA.Fg, r18.SaveA.Bg, r18.SaveA.Bold, r18.SaveA.Under, r18.SaveA.Turn⟩, ⟨none, 0, 0, []⟩, r18.Limit, SlD.ofN ho403⟩, _, rfl, St.keepP (L1 := L408) ((hs410.fr L408).fb b_s), (by exact ho409), ?_⟩
                · rw [← hr2]; unfold csiD; rw [if_neg e65, if_neg e66, if_neg e67, if_neg e68, if_neg e71, if_neg e100, if_neg e7, if_neg e74, if_neg e75, if_neg e88, if_neg e64, if_neg e80, if_neg e76, if_neg e77, if_neg e83, if_neg e84, if_neg e109, if_neg e114, if_pos e103]; rw [ek3, tabsD_3]; rfl
               ·have ek3 : ¬ argI l 0 0 = 3 := by have h9 := h394; simpa using h9
                refine WC.skip ?_
                refine ibN ?_
                refine ibN ?_
                refine retK0 rfl ?_
                refine ⟨r18, _, rfl, St.keepP (L1 := L19) ((hs24.fr L19).fb b_s), ho20, ?_⟩
                · rw [← hr2]; unfold csiD; rw [if_neg e65, if_neg e66, if_neg e67, if_neg e68, if_neg e71, if_neg e100, if_neg e7, if_neg e74, if_neg e75, if_neg e88, if_neg e64, if_neg e80, if_neg e76, if_neg e77, if_neg e83, if_neg e84, if_neg e109, if_neg e114, if_pos e103]; rw [tabsD_o ek0 ek3]
             ·have e103 : ¬ b = 103 := by have h9 := h368; simpa using h9
              refine WC.skip ?_
              refine ibN ?_
              refine retK0 rfl ?_
              refine ⟨r18, _, rfl, St.keepP (L1 := L19) ((hs24.fr L19).fb b_s), ho20, ?_⟩
              · rw [← hr2]; unfold csiD; rw [if_neg e65, if_neg e66, if_neg e67, if_neg e68, if_neg e71, if_neg e100, if_neg e7, if_neg e74, if_neg e75, if_neg e88, if_neg e64, if_neg e80, if_neg e76, if_neg e77, if_neg e83, if_neg e84, if_neg e109, if_neg e114, if_neg e103]
end Go.Proofs.YtjmegoiclgancaaGreat
namespace Go.Proofs.YtjmegoiclgancaaGreat
open Go Go.RowKit
set_option linter.unusedVariables false
set_option linter.unusedSimpArgs false
theorem c_impl_Scr_sequence (b_s : Nat) (s : ScrR) (L_s : Hp) (mark : Bool) (A_l : Option Addr) (n_l c_l : Nat) (l : List Int) (b : Int) (w : World) (hb_s : w.heap[b_s]? = some (Obj.cells (List.toArray (cScr s)) 33 (0, 0))) (o_s : ownScrR s L_s) (h_s : ∀ p, p ∈ L_s → w.heap[p.1]? = some p.2) (f_l : SlF encI w A_l n_l l) (hd_ : (b_s :: L_s.map (·.1)).Nodup) (s_l : 0 < n_l → (adr A_l).block ∉ (b_s :: L_s.map (·.1))) (hf : ScrFine s.dat) (hsm : smScr 1048576 s.dat) (hl : areArgs l = true) (hll : n_l ≤ 549755813888) :
    Calls Tryz.prog 103 #[.pointer (some ⟨b_s, 0, none⟩), .bool mark, .slice A_l n_l c_l, i64 b] w fun e w' => ∃ r L1, e = .returned (.tuple #[]) ∧ St w (b_s :: L_s.map (·.1)) ([(b_s, Obj.cells (List.toArray (cScr r)) 33 (0, 0))] ++ L1) w' ∧ ownScrR r L1 ∧ r.dat = seqD s.dat mark l b := by
 have hsmB : smScr 549755813888 s.dat := smScr_mono hsm (by decide)
 have hln := f_l.len
 refine enter 36 Tryz.func103 rfl Tryz.ntmps103 rfl rfl ?_
 have hs1 := St.takeP w b_s _ L_s hb_s h_s hd_
 refine WC.block ?_
 refine WC.r1 hs1 [] rfl ?_
 refine WC.cq rfl (fun h2 qh2 => ?_) (fun h2 qh2 => ?_)
 ·have hmk : mark = false := by have h9 := h2; simpa using h9
  refine WC.region ?_
  refine WL.r 3 hs1 [] rfl ?_
  have hF3 : St _ _ ((_, _) :: (L_s ++ _)) _ := ((hs1.fr L_s).fb b_s)
  refine WL.cl Tryz.call189 rfl (c_impl_Scr_csi _ s _ _ _ _ _ _ _ (St.headP hF3) o_s (St.ownP hF3) (SlF.st f_l hs1 s_l) (St.nodupP hF3) (St.sepTP hF3 f_l s_l) ?_ ?_ ?_ ?_) ?_
  · first | (first | assumption | omega) | (first | assumption | omega)
  · first | (first | assumption | omega) | (first | assumption | omega)
  · first | (first | assumption | omega) | (first | assumption | omega)
  · first | (first | assumption | omega) | (first | assumption | omega)
  rintro _ whs4 ⟨r5, L6, rfl, hs4, ho7, hd8⟩
  replace hs4 := St.lendP hF3 hs4
  refine ⟨_, rfl, ?_⟩
  refine WL.nil ?_
  refine ibN ?_
  refine retK0 rfl ?_
  refine ⟨r5, _, rfl, St.keepP (L1 := L6) ((hs4.fr L6).fb b_s), ho7, ?_⟩
  · unfold seqD; rw [if_pos hmk]; exact hd8
 ·have hmk : ¬ mark = false := by have h9 := h2; simpa using h9
  refine WC.sr ?_
  refine WL.r 3 hs1 [] rfl ?_
  refine WL.pO tbk 2 Acts.nil hs1 [] rfl rfl rfl rfl (fun g_ => trivial) ?_
  refine WL.r 1 hs1 [] rfl ?_
  refine WL.nil ?_
  refine WC.cq rfl (fun h9 qh9 => ?_) (fun h9 qh9 => ?_)
  ·have hbb : b = 104 ∨ b = 108 := by have h9 := h9; simp at h9; exact h9
   refine WC.r1 hs1 [] rfl ?_
   refine WC.block ?_
   have hM14 := (St.grp1 (L1 := L_s) [_] ((hs1.fr L_s).fb b_s))
   refine WC.lV [0, 3, 10, 17, 24, 25] rfl hM14 (fun k_ (a_ : Hp) f => ∃ (i : Nat) (r : ScrR) (L12 : Hp), k_ = n_l - i ∧ a_ = [(b_s, .cells (List.toArray (cScr r)) 33 (0, 0))] ++ L12 ∧ (i ≤ n_l) ∧ (r.dat = modesD s.dat (l.take i) (decide (b = 104))) ∧ ownScrR r L12 ∧ Sub [(26, .int .i64 i)] f) (((fun (i : Nat) => n_l - i) (0))) ?_ ?_
   ·refine ⟨0, s, L_s, rfl, rfl, ?_, ?_, o_s, ⟨rfl, trivial⟩⟩
    · exact Nat.zero_le _
    · rfl
   ·rintro _ _ f w ⟨i, r, L12, rfl, rfl, p0, p1, ho13, hG⟩ hF hs15
    refine WC.sub _ (hG.app hF) ?_
    clear hG hF
    replace hs15 := St.ungrp1 [_] hs15
    have hfr : ScrFine r.dat := by rw [p1]; exact hf.modes
    have hsmr : smScr 549755813888 r.dat := fine_smB hfr (by decide)
    refine WC.r1 hs15 [] rfl ?_
    refine WC.seq (fun K16 hK16 => ?_)
    refine WC.cq rfl (fun h17 qh17 => ?_) (fun h17 qh17 => ?_)
    ·refine WC.skip ?_
     refine hK16 _ _ ?_
     refine WC.seq (fun K18 hK18 => ?_)
     refine WC.block ?_
     refine WC.sr ?_
     refine WL.val rfl rfl rfl (Run.idxN Tryz.runUnderlying23 Tryz.sizeOf3 rfl rfl rfl ?_ ?_ ?_) ?_
     · exact SlF.some_ (SlF.st f_l hs15 s_l)
     · omega
     · omega
     refine WL.val rfl rfl rfl (Run.load Tryz.isAgg3 rfl rfl (SlF.one1 (SlF.st f_l hs15 s_l) ?_ rfl)) ?_
     · omega
     refine WL.r 1 hs15 [] rfl ?_
     refine WL.nil ?_
     refine WC.region ?_
     refine WL.r 4 hs15 [] rfl ?_
     have hF19 : St _ _ ((_, _) :: (L12 ++ _)) _ := ((hs15.fr L12).fb b_s)
     refine WL.cl Tryz.call190 rfl (c_impl_Scr_mode _ r _ _ _ _ (St.headP hF19) ho13 (St.ownP hF19) (St.nodupP hF19) ?_ ?_) ?_
     · first | (first | assumption | rfl | omega) | (first | assumption | omega)
     · first | (first | assumption | rfl | omega) | (first | assumption | omega)
     rintro _ whs20 ⟨r21, L22, rfl, hs20, ho23, hd24⟩
     replace hs20 := St.lendP hF19 hs20
     refine ⟨_, rfl, ?_⟩
     refine WL.nil ?_
     refine hK18 _ _ ?_
     refine WC.region ?_
     refine WL.r 2 hs20 [] rfl ?_
     refine WL.nil ?_
     refine tkN ?_
     have hF25 := (St.grp1 (L1 := L22) [_] ((hs20.fr L22).fb b_s))
     refine ⟨sbF rfl, _, hF25, _, ?_, i + 1, r21, L22, rfl, rfl, ?_, ?_, ho23, ⟨rfl, trivial⟩⟩
     · omega
     · omega
     · rw [hd24, p1]; exact (modesD_take (by omega)).symm
    ·refine WC.exit ?_
     refine tkE (tkE (ibE ?_))
     refine ibN ?_
     refine retK0 rfl ?_
     refine ⟨r, _, rfl, St.keepP (L1 := L12) ((hs15.fr L12).fb b_s), ho13, ?_⟩
     · unfold seqD; rw [if_neg hmk, if_pos hbb]; rw [p1, List.take_of_length_le (by omega)]; rfl
  ·have hbb : ¬ (b = 104 ∨ b = 108) := by have h9 := h9; simp at h9; omega
   refine WC.skip ?_
   refine ibN ?_
   refine retK0 rfl ?_
   refine ⟨s, _, rfl, St.keepP (L1 := L_s) ((hs1.fr L_s).fb b_s), o_s, ?_⟩
   · unfold seqD; rw [if_neg hmk, if_neg hbb]
end Go.Proofs.YtjmegoiclgancaaGreat
namespace Go.Proofs.YtjmegoiclgancaaGreat
open Go Go.RowKit
set_option linter.unusedVariables false
set_option linter.unusedSimpArgs false
theorem c_impl_ScrCsi_1 (b_s : Nat) (s : ScrR) (L_s : Hp) (b_mark : Nat) (mark : Bool) (b_args : Nat) (args : SlD Int) (b_b : Nat) (b : Int) (w : World) (hb_s : w.heap[b_s]? = some (Obj.cells (List.toArray (cScr s)) 33 (0, 0))) (o_s : ownScrR s L_s) (h_s : ∀ p, p ∈ L_s → w.heap[p.1]? = some p.2) (f_mark : SlF encT w (some ⟨b_mark, 0, none⟩) 1 [mark]) (s_mark : 0 < 1 → (adr (some ⟨b_mark, 0, none⟩)).block ∉ (b_s :: L_s.map (·.1))) (f_args : SlF encV w (some ⟨b_args, 0, none⟩) 1 [args]) (s_args : 0 < 1 → (adr (some ⟨b_args, 0, none⟩)).block ∉ (b_s :: L_s.map (·.1))) (g_args : SlF encI w args.A args.n args.xs) (t_args : 0 < args.n → (adr args.A).block ∉ (b_s :: L_s.map (·.1))) (f_b : SlF encI w (some ⟨b_b, 0, none⟩) 1 [b]) (s_b : 0 < 1 → (adr (some ⟨b_b, 0, none⟩)).block ∉ (b_s :: L_s.map (·.1))) (hd_ : (b_s :: L_s.map (·.1)).Nodup) (hf : ScrFine s.dat) (hsm : smScr 1048576 s.dat) (hl : areArgs args.xs = true) (hll : args.n ≤ 549755813888) :
    Calls Tryz.prog 102 #[.pointer (some ⟨b_s, 0, none⟩), .pointer (some ⟨b_mark, 0, none⟩), .pointer (some ⟨b_args, 0, none⟩), .pointer (some ⟨b_b, 0, none⟩)] w fun e w' => ∃ r L1, e = .returned (.tuple #[]) ∧ St w (b_s :: L_s.map (·.1)) ([(b_s, Obj.cells (List.toArray (cScr r)) 33 (0, 0))] ++ L1) w' ∧ ownScrR r L1 ∧ r.dat = seqD s.dat mark args.xs b := by
 have hsmB : smScr 549755813888 s.dat := smScr_mono hsm (by decide)
 refine enter 10 Tryz.func102 rfl Tryz.ntmps102 rfl rfl ?_
 have hs1 := St.takeP w b_s _ L_s hb_s h_s hd_
 refine WC.region ?_
 refine WL.r 1 hs1 [] rfl ?_
 refine WL.val rfl rfl rfl (Run.load Tryz.isAgg4 rfl rfl (SlF.var (SlF.st f_mark hs1 s_mark) rfl)) ?_
 refine WL.val rfl rfl rfl (Run.load Tryz.isAgg23 rfl rfl (SlF.var (SlF.st f_args hs1 s_args) rfl)) ?_
 refine WL.val rfl rfl rfl (Run.load Tryz.isAgg3 rfl rfl (SlF.var (SlF.st f_b hs1 s_b) rfl)) ?_
 have hF2 : St _ _ ((_, _) :: (L_s ++ _)) _ := ((hs1.fr L_s).fb b_s)
 refine WL.cl Tryz.call103 rfl (c_impl_Scr_sequence _ s _ _ _ _ _ _ _ _ (St.headP hF2) o_s (St.ownP hF2) (SlF.st g_args hs1 t_args) (St.nodupP hF2) (St.sepTP hF2 g_args t_args) ?_ ?_ ?_ ?_) ?_
 · first | (first | assumption | omega) | (first | assumption | omega)
 · first | (first | assumption | omega) | (first | assumption | omega)
 · first | (first | assumption | omega) | (first | assumption | omega)
 · first | (first | assumption | omega) | (first | assumption | omega)
 rintro _ whs3 ⟨r4, L5, rfl, hs3, ho6, hd7⟩
 replace hs3 := St.lendP hF2 hs3
 refine ⟨_, rfl, ?_⟩
 refine WL.nil ?_
 refine retK0 rfl ?_
 refine ⟨r4, _, rfl, St.keepP (L1 := L5) ((hs3.fr L5).fb b_s), ho6, ?_⟩
 · exact hd7
theorem c_impl_Scr_changed_csi (s : ScrR) (b_mark : Nat) (mark : Bool) (b_args : Nat) (args : SlD Int) (b_b : Nat) (b : Int) (w : World) (f_s : okScrR 549755813888 w s) (f_mark : SlF encT w (some ⟨b_mark, 0, none⟩) 1 [mark]) (f_args : SlF encV w (some ⟨b_args, 0, none⟩) 1 [args]) (g_args : SlF encI w args.A args.n args.xs) (f_b : SlF encI w (some ⟨b_b, 0, none⟩) 1 [b]) (hl : areArgs args.xs = true) (hll : args.n ≤ 549755813888) (hsm : smScr 1048576 s.dat) :
    Calls Tryz.prog 74 #[.agg (cScr s).toArray, .func (.func 102) #[] #[.pointer (some ⟨b_mark, 0, none⟩), .pointer (some ⟨b_args, 0, none⟩), .pointer (some ⟨b_b, 0, none⟩)]] w fun e w' => ∃ r L1, e = .returned (.agg (cScr r).toArray) ∧ St w [] L1 w' ∧ ownScrR r L1 ∧ r.dat = scrSeqRes s.dat mark args.xs b := by
 have nb_s_Main_Cells := f_s.Main.Cells_n
 have nl_s_Main_Cells := f_s.Main.Cells.len
 have nb_s_Alt_Cells := f_s.Alt.Cells_n
 have nl_s_Alt_Cells := f_s.Alt.Cells.len
 have nb_s_Tabs := f_s.Tabs_n
 have nl_s_Tabs := f_s.Tabs.len
 have nb_s_Back := f_s.Back_n
 have nl_s_Back := f_s.Back.sl.len
 have hsmB : smScr 549755813888 s.dat := by first | assumption | exact smScr_mono hsm (by decide)
 refine enter 15 Tryz.func74 rfl Tryz.ntmps74 rfl rfl ?_
 have hs1 := St.init w
 refine WC.sr ?_
 refine WL.bx hs1 rfl (fun b2 _ hs3 => ?_)
 refine WL.al hs3 Tryz.zeroValue33 rfl rfl (fun b4 _ hs5 => ?_)
 refine WL.nil ?_
 refine WC.seq (fun K6 hK6 => ?_)
 refine WC.sr ?_
 refine WL.r 1 hs5 [1] rfl ?_
 refine WL.cl Tryz.call29 rfl (c_impl_ScrOk s _ (okScrR.st0 f_s hs5)) ?_
 rintro _ whs7 ⟨rfl, hs7⟩
 replace hs7 := hs5.call0 hs7
 refine ⟨_, rfl, ?_⟩
 refine WL.r 1 hs7 [] rfl ?_
 refine WL.nil ?_
 refine WC.cq rfl (fun h8 qh8 => ?_) (fun h8 qh8 => ?_)
 ·have hk : scrOk s.dat = false := by have h9 := h8; simpa using h9
  refine WC.sr ?_
  refine WL.val rfl rfl rfl (Run.build rfl rfl rfl rfl (built_33)) ?_
  refine WL.st tbk hs7 0 rfl rfl (fun _ hs9 => ?_)
  refine WL.nil ?_
  refine WC.ret ?_
  refine tkR ?_
  clear hK6
  refine retV1 rfl (resV.cellA tbk hs9 0 rfl rfl rfl rfl) ?_
  obtain ⟨L15, hs14, ho16⟩ := ownScrR.fl ((((hs9.fr ([] : Hp)).fr ([] : Hp)).fr ([] : Hp)).fr ([] : Hp)) (OwnF.nil _ _) (OwnF.nil _ _) (OwnF.nil _ _) (OwnN.nil _ _ _)
  have hs17 := ((hs14.fb b2).fb b4)
  refine ⟨⟨0, 0, ⟨0, 0, ⟨none, 0, 0, []⟩⟩, ⟨0, 0, ⟨none, 0, 0, []⟩⟩, false, 0, 0, false, ⟨0, 0, false, false, false⟩, 0, 0, false, false, 0, 0, ⟨0, 0, false, false, false⟩, ⟨none, 0, 0, []⟩, 0, ⟨none, 0, 0, []⟩⟩, _, rfl, (St.keep1 (hs17.fr L15)), ?_, ?_⟩
  · exact (by exact ho16)
  · unfold scrSeqRes; rw [hk]; rfl
 ·have hk : scrOk s.dat = true := by have h9 := h8; simpa using h9
  have hf := ScrFine.of hk
  refine WC.skip ?_
  refine hK6 _ _ ?_
  refine WC.sr ?_
  refine WL.r 1 hs7 [1] rfl ?_
  refine WL.cl Tryz.call150 rfl (c_impl_copyScr s _ (okScrR.st0 f_s hs7) ?_) ?_
  · first | (first | assumption | rfl | omega) | (first | assumption | omega)
  rintro _ whs18 ⟨r19, L1_20, rfl, hs18, ho21, hd22⟩
  replace hs18 := hs7.callF hs18
  refine ⟨_, rfl, ?_⟩
  replace hs18 := St.back [_, _] hs18
  have hcp := hd22
  have hfc : ScrFine (ScrR.dat _) := hcp.symm ▸ hf
  have hsmc : smScr 1048576 (ScrR.dat _) := hcp.symm ▸ hsm
  refine WL.al hs18 Tryz.zeroValue33 rfl rfl (fun b23 _ hs24 => ?_)
  refine WL.st tbk hs24 0 rfl rfl (fun _ hs25 => ?_)
  refine WL.nil ?_
  refine WC.sr ?_
  refine WL.r 1 hs25 [] rfl ?_
  have hF26 : St _ _ ((_, _) :: (L1_20 ++ _)) _ := ((hs25.fr L1_20).fb b23)
  refine WL.call rfl rfl rfl (Run.callC Tryz.call102 rfl rfl rfl) (c_impl_ScrCsi_1 _ r19 _ _ _ _ args _ _ _ (St.headP hF26) ho21 (St.ownP hF26) (SlF.st0 f_mark hs25) (St.sepP hF26 f_mark) (SlF.st0 f_args hs25) (St.sepP hF26 f_args) (SlF.st0 g_args hs25) (St.sepP hF26 g_args) (SlF.st0 f_b hs25) (St.sepP hF26 f_b) (St.nodupP hF26) ?_ ?_ ?_ ?_) ?_
  · first | (first | assumption | rfl | omega) | (first | assumption | omega)
  · first | (first | assumption | rfl | omega) | (first | assumption | omega)
  · first | (first | assumption | rfl | omega) | (first | assumption | omega)
  · first | (first | assumption | rfl | omega) | (first | assumption | omega)
  rintro _ whs27 ⟨r28, L29, rfl, hs27, ho30, hd31⟩
  replace hs27 := St.lendP hF26 hs27
  refine ⟨_, rfl, ?_⟩
  have hs32 := (((hs27.fb b2).fb b4).fb b23)
  refine WL.nil ?_
  refine WC.sr ?_
  refine WL.r 1 hs32 [0] rfl ?_
  refine WL.st tbk hs32 1 rfl rfl (fun _ hs33 => ?_)
  refine WL.nil ?_
  refine WC.ret ?_
  refine retV1 rfl (resV.cellA tbk hs33 1 rfl rfl rfl rfl) ?_
  refine ⟨r28, _, rfl, (St.keep1 (hs33.fr L29)), ?_, ?_⟩
  · exact ho30
  · unfold scrSeqRes; rw [hk]; exact hd31.trans (by rw [hcp]; rfl)
theorem c_impl_ScrCsi (s : ScrR) (mark : Bool) (A_l : Option Addr) (n_l c_l : Nat) (l : List Int) (b : Int) (w : World) (f_s : okScrR 549755813888 w s) (f_l : SlF encI w A_l n_l l) (hsm : smScr 1048576 s.dat) (hll : n_l ≤ 549755813888) :
    Calls Tryz.prog 32 #[.agg (cScr s).toArray, .bool mark, .slice A_l n_l c_l, i64 b] w fun e w' => ∃ r L1, e = .returned (.agg (cScr r).toArray) ∧ St w [] L1 w' ∧ ownScrR r L1 ∧ r.dat = scrCsiRes s.dat mark l b := by
 have nb_s_Main_Cells := f_s.Main.Cells_n
 have nl_s_Main_Cells := f_s.Main.Cells.len
 have nb_s_Alt_Cells := f_s.Alt.Cells_n
 have nl_s_Alt_Cells := f_s.Alt.Cells.len
 have nb_s_Tabs := f_s.Tabs_n
 have nl_s_Tabs := f_s.Tabs.len
 have nb_s_Back := f_s.Back_n
 have nl_s_Back := f_s.Back.sl.len
 have hsmB : smScr 549755813888 s.dat := by first | assumption | exact smScr_mono hsm (by decide)
 refine enter 16 Tryz.func32 rfl Tryz.ntmps32 rfl rfl ?_
 have hs1 := St.init w
 refine WC.sr ?_
 refine WL.bx hs1 rfl (fun b2 _ hs3 => ?_)
 refine WL.bx hs3 rfl (fun b4 _ hs5 => ?_)
 refine WL.bx hs5 rfl (fun b6 _ hs7 => ?_)
 refine WL.bx hs7 rfl (fun b8 _ hs9 => ?_)
 refine WL.al hs9 Tryz.zeroValue33 rfl rfl (fun b10 _ hs11 => ?_)
 refine WL.nil ?_
 refine WC.seq (fun K12 hK12 => ?_)
 refine WC.sr ?_
 refine WL.r 1 hs11 [2] rfl ?_
 refine WL.cl Tryz.call101 rfl (c_impl_areArgs _ _ _ _ _ (SlF.st0 f_l hs11) ?_) ?_
 · first | (first | assumption | rfl | omega) | (first | assumption | omega)
 rintro _ whs13 ⟨rfl, hs13⟩
 replace hs13 := hs11.call0 hs13
 refine ⟨_, rfl, ?_⟩
 refine WL.r 1 hs13 [] rfl ?_
 refine WL.nil ?_
 refine WC.cq rfl (fun h14 qh14 => ?_) (fun h14 qh14 => ?_)
 ·have hl : areArgs l = false := by have h9 := h14; simpa using h9
  refine WC.sr ?_
  refine WL.val rfl rfl rfl (Run.build rfl rfl rfl rfl (built_33)) ?_
  refine WL.st tbk hs13 0 rfl rfl (fun _ hs15 => ?_)
  refine WL.nil ?_
  refine WC.ret ?_
  refine tkR ?_
  clear hK12
  refine retV1 rfl (resV.cellA tbk hs15 0 rfl rfl rfl rfl) ?_
  obtain ⟨L21, hs20, ho22⟩ := ownScrR.fl ((((hs15.fr ([] : Hp)).fr ([] : Hp)).fr ([] : Hp)).fr ([] : Hp)) (OwnF.nil _ _) (OwnF.nil _ _) (OwnF.nil _ _) (OwnN.nil _ _ _)
  have hs23 := (((((hs20.fb b2).fb b4).fb b6).fb b8).fb b10)
  refine ⟨⟨0, 0, ⟨0, 0, ⟨none, 0, 0, []⟩⟩, ⟨0, 0, ⟨none, 0, 0, []⟩⟩, false, 0, 0, false, ⟨0, 0, false, false, false⟩, 0, 0, false, false, 0, 0, ⟨0, 0, false, false, false⟩, ⟨none, 0, 0, []⟩, 0, ⟨none, 0, 0, []⟩⟩, _, rfl, (St.keep1 (hs23.fr L21)), ?_, ?_⟩
  · exact (by exact ho22)
  · rw [scrCsi_no hl]; rfl
 ·have hl : areArgs l = true := by have h9 := h14; simpa using h9
  refine WC.skip ?_
  refine hK12 _ _ ?_
  refine WC.sr ?_
  refine WL.r 1 hs13 [4] rfl ?_
  refine WL.val rfl rfl rfl (Run.makeFunc rfl rfl) ?_
  refine WL.cl Tryz.call74 rfl (c_impl_Scr_changed_csi s _ _ _ (⟨A_l, n_l, c_l, l⟩ : SlD Int) _ _ _ (okScrR.st0 f_s hs13) (SlF.own1 (hs13.own _ (nthL_mem (i := 3) rfl)).1) (SlF.own1 (hs13.own _ (nthL_mem (i := 2) rfl)).1) (SlF.st0 f_l hs13) (SlF.own1 (hs13.own _ (nthL_mem (i := 1) rfl)).1) ?_ ?_ ?_) ?_
  · first | (first | assumption | omega) | (first | assumption | omega)
  · first | (first | assumption | omega) | (first | assumption | omega)
  · first | (first | assumption | omega) | (first | assumption | omega)
  rintro _ whs24 ⟨r25, L1_26, rfl, hs24, ho27, hd28⟩
  replace hs24 := hs13.callF hs24
  refine ⟨_, rfl, ?_⟩
  replace hs24 := St.back [_, _, _, _, _] hs24
  refine WL.st tbk hs24 0 rfl rfl (fun _ hs29 => ?_)
  refine WL.nil ?_
  refine WC.ret ?_
  refine retV1 rfl (resV.cellA tbk hs29 0 rfl rfl rfl rfl) ?_
  refine ⟨r25, _, rfl, (St.keep1 (hs29.fr L1_26)), ?_, ?_⟩
  · exact ho27
  · rw [scrCsi_yes hl]; exact hd28
end Go.Proofs.YtjmegoiclgancaaGreat
namespace Go.Proofs.YtjmegoiclgancaaGreat
open Go Go.RowKit
set_option linter.unusedVariables false
set_option linter.unusedSimpArgs false
theorem clamp_eq {x h : Int} (h0 : 0 ≤ h) : clampI x h = if x < 0 then 0 else min x h := by unfold clampI; split <;> omega
theorem ScrFine.reg2 {s : ScrD} {l : List Int} (h : ScrFine s) (hl : areArgs l = true) (hr : argI l 0 1 - 1 < argI l 1 s.H - 1 ∧ argI l 1 s.H - 1 < s.H) : ScrFine { s with Top := argI l 0 1 - 1, Bot := argI l 1 s.H - 1 } := by
  have b := gridOk_bnd h.gM
  obtain ⟨d1, d2, _⟩ := h.dim
  have h1 := argI_pos (k := 0) hl (d := 1) (by omega)
  exact ⟨h.gM, h.gA, h.dim, h.pos, h.sav, h.wrp, h.aA, h.aS, ⟨by constructor <;> (simp only; omega), hr.2, fun he => by simp only at he; omega⟩, h.lim, h.tab, h.row⟩
theorem filt_in {p : Int → Bool} {l : List Int} {i : Nat} (h : i < l.length) (hp : p (iat l i) = true) : (l.take (i + 1)).filter p = (l.take i).filter p ++ [iat l i] := by
  rw [List.take_add_one, gat_get (F := encI) h, List.filter_append]
  congr 1
  show List.filter p [iat l i] = _
  rw [List.filter_cons, if_pos hp]; rfl
theorem filt_out {p : Int → Bool} {l : List Int} {i : Nat} (h : i < l.length) (hp : ¬ p (iat l i) = true) : (l.take (i + 1)).filter p = (l.take i).filter p := by
  rw [List.take_add_one, gat_get (F := encI) h, List.filter_append]
  show _ ++ List.filter p [iat l i] = _
  rw [List.filter_cons, if_neg hp]
  exact List.append_nil _
def tabP (s : ScrD) (k : Int) (x : Int) : Bool := (decide (k = 0) && !decide (x = s.X)) || (!decide (k = 0) && !decide (k = 3))
theorem tabsD_P {s : ScrD} {k : Int} : tabsD s k = { s with Tabs := s.Tabs.filter (tabP s k) } := rfl
theorem tabP_iff {s : ScrD} {k x : Int} : tabP s k x = true ↔ (k = 0 ∧ ¬ x = s.X) ∨ (¬ k = 0 ∧ ¬ k = 3) := by
  unfold tabP
  simp only [Bool.or_eq_true, Bool.and_eq_true, decide_eq_true_eq, Bool.not_eq_true', decide_eq_false_iff_not]
def modeTo (s : ScrD) (l : List Int) (b : Int) (i : Nat) : ScrD := if b = 104 ∨ b = 108 then modesD s (l.take i) (decide (b = 104)) else s
theorem modeTo_zero {s : ScrD} {l : List Int} {b : Int} : modeTo s l b 0 = s := by unfold modeTo; split <;> rfl
theorem modeTo_next {s : ScrD} {l : List Int} {b : Int} {i : Nat} (hb : b = 104 ∨ b = 108) (h : i < l.length) : modeTo s l b (i + 1) = modeD (modeTo s l b i) (iat l i) (decide (b = 104)) := by
  unfold modeTo; rw [if_pos hb, if_pos hb]; exact modesD_take h
theorem modeTo_same {s : ScrD} {l : List Int} {b : Int} {i : Nat} (hb : ¬ (b = 104 ∨ b = 108)) : modeTo s l b (i + 1) = modeTo s l b i := by
  unfold modeTo; rw [if_neg hb, if_neg hb]
theorem ScrFine.modeT {s : ScrD} {l : List Int} {b : Int} {i : Nat} (h : ScrFine s) : ScrFine (modeTo s l b i) := by
  show ScrFine (if _ then _ else _)
  split
  · exact h.modes
  · exact h
theorem modeTo_all {s : ScrD} {l : List Int} {b : Int} {i : Nat} (hi : l.length ≤ i) : modeTo s l b i = seqD s true l b := by
  unfold modeTo seqD
  rw [List.take_of_length_le hi, if_neg (show ¬ true = false by decide)]; rfl
theorem scrGo_eq {s : ScrD} {x y : Int} (h : ScrFine s) : scrGoRes s x y = moveD s x y := by unfold scrGoRes; rw [if_pos h.ok]
theorem gridRes_eq {w h : Int} (hs : isSize w h = true) : gridRes w h = gridNew w h := by unfold gridRes; rw [hs]; rfl
theorem csi_not {s : ScrD} {mark : Bool} {l : List Int} {b : Int} (h : ¬ (scrOk s = true ∧ areArgs l = true)) : scrCsiRes s mark l b = scr0 := by
  unfold scrCsiRes csiOk
  rw [if_neg]
  rw [Bool.and_eq_true]
  exact fun h9 => h ⟨h9.2, h9.1⟩
theorem csi_yes {s : ScrD} {mark : Bool} {l : List Int} {b : Int} (h : scrOk s = true) (hl : areArgs l = true) : scrCsiRes s mark l b = seqD s mark l b := by
  unfold scrCsiRes csiOk
  rw [if_pos (by rw [Bool.and_eq_true]; exact ⟨hl, h⟩)]
end Go.Proofs.YtjmegoiclgancaaGreat
namespace Go.Proofs.YtjmegoiclgancaaGreat
open Go Go.RowKit
set_option linter.unusedVariables false
set_option linter.unusedSimpArgs false
theorem fill_one {g : GridD} {x y w h : Int} {c : CellD} {j : Nat} (hw : w = g.W) (hh : h = g.H) (h0 : 0 ≤ x ∧ x < g.W) (h1 : 0 ≤ y) (hj : j = (y * g.W).toNat + x.toNat) (hl : j < g.Cells.length) : (⟨w, h, g.Cells.set j c⟩ : GridD) = gFill g x y 1 1 c := by
  have e0 : (y * g.W).toNat = y.toNat * g.W.toNat := Int.toNat_mul h1 (by omega)
  obtain ⟨d1, d2⟩ := at_div (w := g.W.toNat) (y := y.toNat) (x := x.toNat) (by omega)
  refine part_done (lo := j) (a := 1) hw hh (List.length_set) (fun k hk hn => ?_) (fun k hk => ?_)
  · unfold fillFn
    rw [if_neg]
    rintro ⟨h2, h3⟩
    apply hn
    have h4 := dm_eq (w := g.W.toNat) (k := k)
    have h6 : k / g.W.toNat = y.toNat := by omega
    rw [h6] at h4
    omega
  · show gat encCell (g.Cells.set j c) k = _
    rw [gat_set2 hl]
    unfold partF
    by_cases hk2 : k = j
    · rw [if_pos hk2, if_pos (by omega)]
      unfold fillFn
      rw [hk2, hj, e0, d1, d2, if_pos (by omega)]
    · rw [if_neg hk2, if_neg (by omega)]
def nxt (l : List Int) (x d : Int) : Int := (l.find? fun n => decide (x < n)).getD d
theorem nxt_drop {l : List Int} {x d : Int} {i : Nat} (h : i < l.length) : nxt (l.drop i) x d = if x < iat l i then iat l i else nxt (l.drop (i + 1)) x d := by
  unfold nxt
  rw [List.drop_eq_getElem_cons h, List.find?_cons, show iat l i = l[i] from gat_lt h]
  by_cases hx : x < l[i]
  · rw [decide_eq_true hx, if_pos hx]; rfl
  · rw [decide_eq_false hx, if_neg hx]
theorem nxt_end {l : List Int} {x d : Int} : nxt (l.drop l.length) x d = d := by rw [List.drop_length]; rfl
theorem nextTab_nxt {s : ScrD} : nextTab s = nxt s.Tabs s.X (s.W - 1) := by
  unfold nextTab nxt
  rcases findI_cases (p := fun n => decide (s.X < n)) (xs := s.Tabs) with ⟨e, h⟩ | ⟨i, hi, e, h1, h2⟩
  · rw [e, if_neg (by omega), List.find?_eq_none.2 (fun x hx => by rw [h x hx]; exact Bool.false_ne_true)]; rfl
  · have hf : (s.Tabs.find? fun n => decide (s.X < n)) = some s.Tabs[i] := List.find?_eq_some_iff_getElem.2 ⟨h1, i, hi, rfl, fun j hj => by have h3 := h2 j hj; simpa using h3⟩
    rw [e, if_pos (by omega), show ((i : Int)).toNat = i by omega, show iat s.Tabs i = s.Tabs[i] from gat_lt hi, hf]; rfl
theorem runeD_lt {s s1 : ScrD} {r : Int} (h1 : s1 = if s.Wrap = true then { downD s with X := 0 } else s) (hx : s1.X ≠ s1.W - 1) : runeD s r = { putD s1 (gFill (shownD s1) s1.X s1.Y 1 1 ⟨r, s1.A⟩) with X := s1.X + 1 } := by
  subst h1; exact if_neg hx
theorem runeD_eq {s s1 : ScrD} {r : Int} (h1 : s1 = if s.Wrap = true then { downD s with X := 0 } else s) (hx : s1.X = s1.W - 1) : runeD s r = wrapD (putD s1 (gFill (shownD s1) s1.X s1.Y 1 1 ⟨r, s1.A⟩)) (!s1.NoWrap) := by
  subst h1; exact if_pos hx
def scrActRes (s : ScrD) (a : ActD) : ScrD := if a.Kind = 1 then scrRuneRes s a.R else if a.Kind = 2 then scrCtlRes s a.R else if a.Kind = 3 then scrEscRes s a.R else if a.Kind = 4 then scrCsiRes s a.Mark a.Args a.R else scrCopyRes s
theorem scrCopyRes_tot {s : ScrD} : totScr (scrCopyRes s) ≤ 20220 := by
  unfold scrCopyRes
  split
  · rename_i h; exact scr_tot h
  · rw [scr0_tot]; omega
theorem scrRuneRes_tot {s : ScrD} {r : Int} : totScr (scrRuneRes s r) ≤ 20220 := by
  unfold scrRuneRes
  split
  · rename_i h
    split
    · rename_i hr; exact scr_tot ((ScrFine.of h).rune hr).ok
    · exact scr_tot h
  · rw [scr0_tot]; omega
theorem scrCtlRes_tot {s : ScrD} {b : Int} : totScr (scrCtlRes s b) ≤ 20220 := by
  unfold scrCtlRes
  split
  · rename_i h; exact scr_tot (ScrFine.of h).ctl.ok
  · rw [scr0_tot]; omega
theorem scrActRes_tot {s : ScrD} {a : ActD} : totScr (scrActRes s a) ≤ 20220 := by
  unfold scrActRes
  split
  · exact scrRuneRes_tot
  · split
    · exact scrCtlRes_tot
    · split
      · exact scrEscRes_tot
      · split
        · exact scrCsiRes_tot
        · exact scrCopyRes_tot
end Go.Proofs.YtjmegoiclgancaaGreat
namespace Go.Proofs.YtjmegoiclgancaaGreat
open Go Go.RowKit
set_option linter.unusedVariables false
set_option linter.unusedSimpArgs false
theorem WC.jPK {P : Program} {n : Nat} {x : Code} {K : Fr → World → Prop} {Q : Kont} {f F : Fr} {w0 w : World} {T : List Nat} {b : Nat} {o0 : Obj} {L0 R : Hp} (is : List Nat) (hF : rstr is f = some F) (hst : St w0 T ((b, o0) :: (L0 ++ R)) w) (X : Obj → Hp → Prop)
    (hx : WC P n x (thenK (fun f' w' => ∃ o L1, St w0 T ((b, o) :: (L1 ++ R)) w' ∧ X o L1 ∧ Sub F f') Q) f w) (hy : ∀ o L1 w', X o L1 → St w0 T ((b, o) :: (L1 ++ R)) w' → ∀ f', Sub F f' → K f' w') : WC P n x (thenK K Q) f w :=
  hx.mono fun e f' w' h => by
    cases e
    case normal =>
      obtain ⟨o, L1, h1, h2, h3⟩ := h
      exact hy o L1 w' h2 h1 f' h3
    all_goals exact h
theorem WC.jR {P : Program} {n : Nat} {c : Code} {Q : Kont} {f F : Fr} {w0 w : World} {T : List Nat} {R : Hp} (d : Nat) (is : List Nat) (hF : rstr is f = some F) (hst : St w0 T R w) (X : Obj → Hp → Prop)
    (h : WC P n c (fun e f' w' => e = .normal ∧ ∃ b o L1, St w0 T ((b, o) :: (L1 ++ R)) w' ∧ X o L1 ∧ Sub ((d, .pointer (some ⟨b, 0, none⟩)) :: F) f') f w)
    (k : ∀ b o L1 w', X o L1 → St w0 T ((b, o) :: (L1 ++ R)) w' → ∀ f', Sub ((d, .pointer (some ⟨b, 0, none⟩)) :: F) f' → Q .normal f' w') : WC P n c Q f w :=
  WC.join _ h fun f' w' ⟨b, o, L1, h1, h2, h3⟩ => k b o L1 w' h2 h1 f' h3
end Go.Proofs.YtjmegoiclgancaaGreat
namespace Go.Proofs.YtjmegoiclgancaaGreat
open Go Go.RowKit
set_option linter.unusedVariables false
set_option linter.unusedSimpArgs false
theorem built_75_0_1 (x0 : Int) (x1 : Value) (x2 : Value) (x3 : Value) (x4 : Value) (x5 : Value) : Tryz.prog.built 75 [(0, .int .i64 x0), (1, .agg [x1, x2, x3, x4, x5].toArray)] = some (List.toArray [.int .i64 x0, x1, x2, x3, x4, x5]) := by kernel_rfl
theorem c_impl_Scr_shown_mainR (b_s : Nat) (u_0 u_1 u_2 u_3 u_4 u_5 u_6 u_7 u_9 u_10 u_11 u_12 u_13 u_14 u_15 u_16 u_17 u_18 u_19 u_20 u_21 u_22 u_23 u_24 u_25 u_26 u_27 u_28 u_29 u_30 : Value) (x : Bool) (w : World) (hb : w.heap[b_s]? = some (Obj.cells (List.toArray [u_0, u_1, u_2, u_3, u_4, u_5, u_6, u_7, .bool x, u_9, u_10, u_11, u_12, u_13, u_14, u_15, u_16, u_17, u_18, u_19, u_20, u_21, u_22, u_23, u_24, u_25, u_26, u_27, u_28, u_29, u_30]) 33 (0, 0))) (hx : x = false) :
    Calls Tryz.prog 223 #[.pointer (some ⟨b_s, 0, none⟩)] w fun e w' => e = .returned (.pointer (some ⟨b_s, 2, none⟩)) ∧ St w [] [] w' := by
 refine enter 13 Tryz.func223 rfl Tryz.ntmps223 rfl rfl ?_
 have hs1 := St.take1 w b_s _ hb
 refine WC.r1 hs1 [] rfl ?_
 refine WC.seq (fun K2 hK2 => ?_)
 refine WC.sr ?_
 refine WL.r 1 hs1 [] rfl ?_
 refine WL.val rfl rfl rfl (Run.nilCheck rfl rfl) ?_
 refine WL.r 2 hs1 [0] rfl ?_
 refine WL.nil ?_
 refine WC.cq rfl (fun h3 qh3 => ?_) (fun h3 qh3 => ?_)
 ·exfalso; have h9 := h3; rw [hx] at h9; revert h9; decide
 ·refine WC.skip ?_
  refine hK2 _ _ ?_
  refine WC.sr ?_
  refine WL.r 1 hs1 [] rfl ?_
  refine WL.val rfl rfl rfl (Run.nilCheck rfl rfl) ?_
  refine WL.r 2 hs1 [] rfl ?_
  refine WL.nil ?_
  refine WC.ret ?_
  refine retV1 rfl (resV.tmp rfl) ?_
  refine ⟨rfl, St.untouch hs1 (fun k hk => ?_) (fun p hp_ => ?_)⟩
  · obtain rfl := List.mem_singleton.1 hk; exact ⟨_, List.mem_cons_self⟩
  · obtain rfl := List.mem_singleton.1 hp_; exact hb
theorem c_impl_Scr_shown_altR (b_s : Nat) (u_0 u_1 u_2 u_3 u_4 u_5 u_6 u_7 u_9 u_10 u_11 u_12 u_13 u_14 u_15 u_16 u_17 u_18 u_19 u_20 u_21 u_22 u_23 u_24 u_25 u_26 u_27 u_28 u_29 u_30 : Value) (x : Bool) (w : World) (hb : w.heap[b_s]? = some (Obj.cells (List.toArray [u_0, u_1, u_2, u_3, u_4, u_5, u_6, u_7, .bool x, u_9, u_10, u_11, u_12, u_13, u_14, u_15, u_16, u_17, u_18, u_19, u_20, u_21, u_22, u_23, u_24, u_25, u_26, u_27, u_28, u_29, u_30]) 33 (0, 0))) (hx : x = true) :
    Calls Tryz.prog 223 #[.pointer (some ⟨b_s, 0, none⟩)] w fun e w' => e = .returned (.pointer (some ⟨b_s, 5, none⟩)) ∧ St w [] [] w' := by
 refine enter 13 Tryz.func223 rfl Tryz.ntmps223 rfl rfl ?_
 have hs1 := St.take1 w b_s _ hb
 refine WC.r1 hs1 [] rfl ?_
 refine WC.seq (fun K2 hK2 => ?_)
 refine WC.sr ?_
 refine WL.r 1 hs1 [] rfl ?_
 refine WL.val rfl rfl rfl (Run.nilCheck rfl rfl) ?_
 refine WL.r 2 hs1 [0] rfl ?_
 refine WL.nil ?_
 refine WC.cq rfl (fun h3 qh3 => ?_) (fun h3 qh3 => ?_)
 ·refine WC.sr ?_
  refine WL.r 1 hs1 [] rfl ?_
  refine WL.val rfl rfl rfl (Run.nilCheck rfl rfl) ?_
  refine WL.r 2 hs1 [] rfl ?_
  refine WL.nil ?_
  refine WC.ret ?_
  refine tkR ?_
  clear hK2
  refine retV1 rfl (resV.tmp rfl) ?_
  refine ⟨rfl, St.untouch hs1 (fun k hk => ?_) (fun p hp_ => ?_)⟩
  · obtain rfl := List.mem_singleton.1 hk; exact ⟨_, List.mem_cons_self⟩
  · obtain rfl := List.mem_singleton.1 hp_; exact hb
 ·exfalso; have h9 := h3; rw [hx] at h9; revert h9; decide
theorem c_impl_Scr_rune (b_s : Nat) (s : ScrR) (L_s : Hp) (q : Int) (w : World) (hb_s : w.heap[b_s]? = some (Obj.cells (List.toArray (cScr s)) 33 (0, 0))) (o_s : ownScrR s L_s) (h_s : ∀ p, p ∈ L_s → w.heap[p.1]? = some p.2) (hd_ : (b_s :: L_s.map (·.1)).Nodup) (hf : ScrFine s.dat) (hsm : smScr 1048576 s.dat) :
    Calls Tryz.prog 172 #[.pointer (some ⟨b_s, 0, none⟩), i64 q] w fun e w' => ∃ r L1, e = .returned (.tuple #[]) ∧ St w (b_s :: L_s.map (·.1)) ([(b_s, Obj.cells (List.toArray (cScr r)) 33 (0, 0))] ++ L1) w' ∧ ownScrR r L1 ∧ r.dat = runeD s.dat q := by
 have hsmB : smScr 549755813888 s.dat := by first | assumption | exact smScr_mono hsm (by decide)
 refine enter 58 Tryz.func172 rfl Tryz.ntmps172 rfl rfl ?_
 have hs1 := St.takeP w b_s _ L_s hb_s h_s hd_
 refine WC.seq (fun K2 hK2 => ?_)
 refine WC.sr ?_
 refine WL.r 1 hs1 [] rfl ?_
 refine WL.val rfl rfl rfl (Run.nilCheck rfl rfl) ?_
 refine WL.r 2 hs1 [0] rfl ?_
 refine WL.nil ?_
 refine WC.jPK [0, 1, 4, 5, 6, 7] rfl ((hs1.fr L_s).fb b_s) (fun o_ L_ => ∃ r : ScrR, o_ = Obj.cells (List.toArray (cScr r)) 33 (0, 0) ∧ ownScrR r L_ ∧ r.dat = (if s.Wrap = true then { downD s.dat with X := 0 } else s.dat)) ?_ ?_
 ·refine WC.cq rfl (fun h3 qh3 => ?_) (fun h3 qh3 => ?_)
  ·have hwr : s.Wrap = true := h3
   refine WC.sr ?_
   refine WL.r 1 hs1 [] rfl ?_
   have hF4 : St _ _ ((_, _) :: (L_s ++ _)) _ := ((hs1.fr L_s).fb b_s)
   refine WL.cl Tryz.call151 rfl (c_impl_Scr_down _ s _ _ (St.headP hF4) o_s (St.ownP hF4) (St.nodupP hF4) ?_ ?_) ?_
   · first | (first | assumption | rfl | omega) | (first | assumption | omega)
   · first | (first | assumption | rfl | omega) | (first | assumption | omega)
   rintro _ whs5 ⟨r6, L7, rfl, hs5, ho8, hd9⟩
   replace hs5 := St.lendP hF4 hs5
   refine ⟨_, rfl, ?_⟩
   refine WL.nil ?_
   refine WC.region ?_
   refine WL.r 1 hs5 [] rfl ?_
   refine WL.val rfl rfl rfl (Run.nilCheck rfl rfl) ?_
   refine WL.r 1 hs5 [] rfl ?_
   refine WL.st tbk hs5 0 rfl rfl (fun _ hs10 => ?_)
   refine WL.nil ?_
   obtain ⟨L11, L12, L13, L14, hs19, ho15, ho16, ho17, ho18⟩ := ownScrR.open_ (hs10.fr L7) ho8
   have hs20 := (hs19.fb b_s)
   obtain ⟨L22, hs21, ho23⟩ := ownScrR.fl ((((hs20.fr L14).fr L13).fr L12).fr L11) ho15 ho16 ho17 ho18
   have hs24 := (hs21.fb b_s)
   refine tkN ⟨_, _, ((hs24.fr L22).fb b_s), ⟨⟨r6.W, r6.H, ⟨r6.Main.W, r6.Main.H, SlD.of ho15⟩, ⟨r6.Alt.W, r6.Alt.H, SlD.of ho16⟩, r6.OnAlt, (0), r6.Y, r6.Wrap, ⟨r6.A.Fg, r6.A.Bg, r6.A.Bold, r6.A.Under, r6.A.Turn⟩, r6.Top, r6.Bot, r6.NoWrap, r6.Hide, r6.SaveX, r6.SaveY, ⟨r6.SaveA.Fg, r6.SaveA.Bg, r6.SaveA.Bold, r6.SaveA.Under, r6.SaveA.Turn⟩, SlD.of ho17, r6.Limit, SlD.ofN ho18⟩, rfl, (by exact ho23), ?_⟩, sbF rfl⟩
   · rw [if_pos hwr]; show _ = ({ downD s.dat with X := 0 } : ScrD); rw [← hd9]; rfl
  ·have hwr : ¬ s.Wrap = true := by have h9 := h3; rw [h9]; decide
   refine WC.skip ?_
   refine tkN ⟨_, _, ((hs1.fr L_s).fb b_s), ⟨s, rfl, o_s, ?_⟩, sbF rfl⟩
   · rw [if_neg hwr]
 ·rintro _ L25 _ ⟨r26, rfl, ho27, hd28⟩ hs29 f_ hf_
  refine hK2 _ _ (WC.sub _ hf_ ?_)
  clear hf_
  have hfr : ScrFine r26.dat := by rw [hd28]; split; exact hf.down.x0 rfl; exact hf
  have hsmr : smScr 549755813888 r26.dat := fine_smB hfr (by decide)
  have hwh2 : (1 ≤ r26.W ∧ r26.W ≤ 120) ∧ (1 ≤ r26.H ∧ r26.H ≤ 120) ∧ 1 ≤ r26.W * r26.H ∧ r26.W * r26.H ≤ 4000 := isSize_bnd hfr.size
  have hxy2 : (0 ≤ r26.X ∧ r26.X < r26.W) ∧ 0 ≤ r26.Y ∧ r26.Y < r26.H := hfr.pos
  have hgs2 : gridOk (shownD r26.dat) = true := hfr.shown.1
  have hsh2 : (shownD r26.dat).W = r26.W ∧ (shownD r26.dat).H = r26.H := hfr.shown.2
  have hgl2 := grid_len hgs2
  have hvm : 0 ≤ r26.Y * r26.W := Int.mul_nonneg (by omega) (by omega)
  have hvn : (r26.Y + 1) * r26.W = r26.Y * r26.W + r26.W := by rw [Int.add_mul, Int.one_mul]
  have hvo : (r26.Y + 1) * r26.W ≤ r26.H * r26.W := Int.mul_le_mul_of_nonneg_right (by omega) (by omega)
  rw [Int.mul_comm r26.H r26.W] at hvo
  rcases Bool.eq_false_or_eq_true r26.OnAlt with hx | hx
  ·have hfd : shownD r26.dat = r26.Alt.dat := by unfold shownD; rw [if_pos (show r26.dat.OnAlt = true from by show r26.OnAlt = true; rw [hx])]; rfl
   have hpt : ∀ g9, putD r26.dat g9 = { r26.dat with Alt := g9 } := fun g9 => by unfold putD; rw [if_pos (show r26.dat.OnAlt = true from by show r26.OnAlt = true; rw [hx])]
   have hgw2 : r26.Alt.W = r26.W ∧ r26.Alt.H = r26.H := ⟨(congrArg GridD.W hfd).symm.trans hsh2.1, (congrArg GridD.H hfd).symm.trans hsh2.2⟩
   have hgl3 : (r26.Alt.Cells.xs.length : Int) = r26.W * r26.H := by have h9 := hgl2; rw [hsh2.1, hsh2.2, hfd] at h9; exact h9
   have hnl3 := ownScrR.len ‹ownScrR r26 _›
   have hcp3 := (ownScrR.ok (B := 549755813888) ho27 (hs29.ow L25) hsmr).Alt.Cells_c
   have e0m : r26.Y * r26.Alt.W = r26.Y * r26.W := by rw [hgw2.1]
   have e1m : (r26.Y + 1) * r26.Alt.W = (r26.Y + 1) * r26.W := by rw [hgw2.1]
   refine WC.seq (fun K30 hK30 => ?_)
   refine WC.rG 20 (hs29.rm L25) hs29 hs29 (fun _ hs31 => ?_)
   refine WG.rn [0, 4] hs31 [] rfl rfl ?_
   refine WG.tk 5 rfl (by kernel_rfl) rfl rfl rfl hs31 (fun w_ hs_ => (Run.nilCheck rfl rfl)) ?_
   refine WG.rn [6, 7, 9] hs31 [0] rfl rfl ?_
   refine WG.tk 10 rfl (by kernel_rfl) rfl rfl rfl hs31 (fun w_ hs_ => (Run.nilCheck rfl rfl)) ?_
   refine WG.rn [11, 12, 13, 14] hs31 [0] rfl rfl ?_
   refine WG.tk 15 rfl (by kernel_rfl) rfl rfl rfl hs31 (fun w_ hs_ => (Run.nilCheck rfl rfl)) ?_
   refine WG.rn [16, 17] hs31 [0] rfl rfl ?_
   refine WG.tk 18 rfl (by kernel_rfl) rfl rfl rfl hs31 (fun w_ hs_ => (Run.build rfl rfl rfl rfl (built_75_0_1 _ _ _ _ _ _))) ?_
   refine WG.o1 1 rfl rfl ?_
   refine WL.cl Tryz.call223 rfl (c_impl_Scr_shown_altR _ _ _ _ _ _ _ _ _ _ _ _ _ _ _ _ _ _ _ _ _ _ _ _ _ _ _ _ _ _ _ _ _ (hs31.own _ (nthL_mem (i := 0) rfl)).1 ?_) ?_
   · first | (first | assumption | rfl | omega) | (first | assumption | omega)
   rintro _ whs32 ⟨rfl, hs32⟩
   replace hs32 := hs31.call0 hs32
   refine ⟨_, rfl, ?_⟩
   refine WL.nil ⟨hs32, ?_⟩
   refine WG.tk 2 rfl (by kernel_rfl) rfl rfl rfl hs32 (fun w_ hs_ => (Run.nilCheck rfl rfl)) ?_
   refine WG.rn [3] hs32 [0] rfl rfl ?_
   refine WG.o1 8 rfl rfl ?_
   refine WL.cl Tryz.call224 rfl (c_impl_Grid_row r26.Alt _ _ (ownScrR.ok (B := 549755813888) ho27 (hs32.ow L25) hsmr).Alt ?_ ?_ ?_ ?_) ?_
   · first | (first | assumption | rfl | omega) | (first | assumption | omega)
   · first | (first | assumption | rfl | omega) | (first | assumption | omega)
   · first | (first | assumption | rfl | omega) | (first | assumption | omega)
   · first | (first | assumption | rfl | omega) | (first | assumption | omega)
   rintro _ whs33 ⟨rfl, hs33⟩
   replace hs33 := hs32.call0 hs33
   refine ⟨_, rfl, ?_⟩
   refine WL.nil ⟨hs33, ?_⟩
   refine WG.tk 19 rfl (by kernel_rfl) rfl rfl rfl hs33 (fun w_ hs_ => (Run.idxK (r26.X.toNat) Tryz.runUnderlying26 Tryz.sizeOf75 rfl rfl rfl ?_ ?_ ?_)) ?_
   · exact SlF.some_ (SlF.cutC (lo := (r26.Y * r26.Alt.W).toNat) (hi := ((r26.Y + 1) * r26.Alt.W).toNat) (ownScrR.ok (B := 549755813888) ho27 ((hs_ : St _ _ _ _).ow L25) hsmr).Alt.Cells (by refine ⟨?_, ?_, ?_⟩ <;> (omega)))
   · omega
   · omega
   refine WG.oK rfl ?_
   obtain ⟨L34, L35, L36, L37, hs42, ho38, ho39, ho40, ho41⟩ := ownScrR.open_ (hs33.fr L25) ho27
   have hs43 := (hs42.fb b_s)
   refine WL.storeC (x' := (⟨q, ⟨r26.A.Fg, r26.A.Bg, r26.A.Bold, r26.A.Under, r26.A.Turn⟩⟩ : CellD)) (lo := (r26.Y * r26.Alt.W).toNat) (hs43.fr L35) ho39 Tryz.sizeOf75 rfl rfl rfl rfl rfl rfl rfl rfl rfl ?_ rfl (fun L44 whs45 hs45 ho46 _ => ?_)
   · omega
   replace hs45 := St.back [_] hs45
   refine WL.nil ⟨((((hs45.rm L44).rm L34).rm L36).rm L37), ?_⟩
   refine WH.dn ?_
   refine hK30 _ _ ?_
   refine WC.sq1 hs45 ?_
   refine WQ.r 1 [] rfl ?_
   refine WQ.val rfl rfl rfl (fun w_ hs_ => (Run.nilCheck rfl rfl)) ?_
   refine WQ.r 3 [0] rfl ?_
   refine WQ.val rfl rfl rfl (fun w_ hs_ => (Run.nilCheck rfl rfl)) ?_
   refine WQ.r 4 [0] rfl ?_
   refine WQ.nil (fun _ (hs47 : St _ _ _ _) => ?_)
   refine WC.cq rfl (fun h48 qh48 => ?_) (fun h48 qh48 => ?_)
   ·have hlt : r26.dat.X ≠ r26.dat.W - 1 := by show r26.X ≠ r26.W - 1; have h9 := h48; simp at h9; omega
    refine WC.region ?_
    refine WL.r 1 hs47 [] rfl ?_
    refine WL.val rfl rfl rfl (Run.nilCheck rfl rfl) ?_
    refine WL.r 3 hs47 [0] rfl ?_
    refine WL.val rfl rfl rfl (Run.nilCheck rfl rfl) ?_
    refine WL.r 1 hs47 [] rfl ?_
    refine WL.st tbk hs47 0 rfl rfl (fun _ hs49 => ?_)
    refine WL.nil ?_
    refine retK0 rfl ?_
    obtain ⟨L51, hs50, ho52⟩ := ownScrR.fl ((((hs49.fr L37).fr L36).fr L44).fr L34) ho38 ho46 ho40 ho41
    have hs53 := (hs50.fb b_s)
    refine ⟨⟨r26.W, r26.H, ⟨r26.Main.W, r26.Main.H, SlD.of ho38⟩, ⟨r26.Alt.W, r26.Alt.H, SlD.of ho46⟩, r26.OnAlt, (r26.X + (1)), r26.Y, r26.Wrap, ⟨r26.A.Fg, r26.A.Bg, r26.A.Bold, r26.A.Under, r26.A.Turn⟩, r26.Top, r26.Bot, r26.NoWrap, r26.Hide, r26.SaveX, r26.SaveY, ⟨r26.SaveA.Fg, r26.SaveA.Bg, r26.SaveA.Bold, r26.SaveA.Under, r26.SaveA.Turn⟩, SlD.of ho40, r26.Limit, SlD.ofN ho41⟩, _, rfl, St.keepP (L1 := L51) ((hs53.fr L51).fb b_s), (by exact ho52), ?_⟩
    · first | (rw [runeD_lt hd28 hlt, hpt, hfd]; exact ScrD.ext' rfl rfl rfl (fill_one (g := r26.Alt.dat) rfl rfl (by show 0 ≤ r26.X ∧ r26.X < r26.Alt.W; omega) (by show 0 ≤ r26.Y; omega) rfl (by show (r26.Y * r26.Alt.W).toNat + r26.X.toNat < r26.Alt.Cells.xs.length; omega)) rfl rfl rfl rfl rfl rfl rfl rfl rfl rfl rfl rfl rfl rfl rfl) | (rw [runeD_eq hd28 hlt, hpt, hfd]; exact ScrD.ext' rfl rfl rfl (fill_one (g := r26.Alt.dat) rfl rfl (by show 0 ≤ r26.X ∧ r26.X < r26.Alt.W; omega) (by show 0 ≤ r26.Y; omega) rfl (by show (r26.Y * r26.Alt.W).toNat + r26.X.toNat < r26.Alt.Cells.xs.length; omega)) rfl rfl rfl rfl rfl rfl rfl rfl rfl rfl rfl rfl rfl rfl rfl)
   ·have hlt : r26.dat.X = r26.dat.W - 1 := by show r26.X = r26.W - 1; have h9 := h48; simp at h9; omega
    refine WC.region ?_
    refine WL.r 2 hs47 [] rfl ?_
    refine WL.val rfl rfl rfl (Run.nilCheck rfl rfl) ?_
    refine WL.r 3 hs47 [0] rfl ?_
    refine WL.val rfl rfl rfl (Run.nilCheck rfl rfl) ?_
    refine WL.r 1 hs47 [] rfl ?_
    refine WL.st tbk hs47 0 rfl rfl (fun _ hs54 => ?_)
    refine WL.nil ?_
    refine retK0 rfl ?_
    obtain ⟨L56, hs55, ho57⟩ := ownScrR.fl ((((hs54.fr L37).fr L36).fr L44).fr L34) ho38 ho46 ho40 ho41
    have hs58 := (hs55.fb b_s)
    refine ⟨⟨r26.W, r26.H, ⟨r26.Main.W, r26.Main.H, SlD.of ho38⟩, ⟨r26.Alt.W, r26.Alt.H, SlD.of ho46⟩, r26.OnAlt, r26.X, r26.Y, (!r26.NoWrap), ⟨r26.A.Fg, r26.A.Bg, r26.A.Bold, r26.A.Under, r26.A.Turn⟩, r26.Top, r26.Bot, r26.NoWrap, r26.Hide, r26.SaveX, r26.SaveY, ⟨r26.SaveA.Fg, r26.SaveA.Bg, r26.SaveA.Bold, r26.SaveA.Under, r26.SaveA.Turn⟩, SlD.of ho40, r26.Limit, SlD.ofN ho41⟩, _, rfl, St.keepP (L1 := L56) ((hs58.fr L56).fb b_s), (by exact ho57), ?_⟩
    · first | (rw [runeD_lt hd28 hlt, hpt, hfd]; exact ScrD.ext' rfl rfl rfl (fill_one (g := r26.Alt.dat) rfl rfl (by show 0 ≤ r26.X ∧ r26.X < r26.Alt.W; omega) (by show 0 ≤ r26.Y; omega) rfl (by show (r26.Y * r26.Alt.W).toNat + r26.X.toNat < r26.Alt.Cells.xs.length; omega)) rfl rfl rfl rfl rfl rfl rfl rfl rfl rfl rfl rfl rfl rfl rfl) | (rw [runeD_eq hd28 hlt, hpt, hfd]; exact ScrD.ext' rfl rfl rfl (fill_one (g := r26.Alt.dat) rfl rfl (by show 0 ≤ r26.X ∧ r26.X < r26.Alt.W; omega) (by show 0 ≤ r26.Y; omega) rfl (by show (r26.Y * r26.Alt.W).toNat + r26.X.toNat < r26.Alt.Cells.xs.length; omega)) rfl rfl rfl rfl rfl rfl rfl rfl rfl rfl rfl rfl rfl rfl rfl)
  ·have hfd : shownD r26.dat = r26.Main.dat := by unfold shownD; rw [if_neg (show ¬ r26.dat.OnAlt = true from by show ¬ r26.OnAlt = true; rw [hx]; decide)]; rfl
   have hpt : ∀ g9, putD r26.dat g9 = { r26.dat with Main := g9 } := fun g9 => by unfold putD; rw [if_neg (show ¬ r26.dat.OnAlt = true from by show ¬ r26.OnAlt = true; rw [hx]; decide)]
   have hgw2 : r26.Main.W = r26.W ∧ r26.Main.H = r26.H := ⟨(congrArg GridD.W hfd).symm.trans hsh2.1, (congrArg GridD.H hfd).symm.trans hsh2.2⟩
   have hgl3 : (r26.Main.Cells.xs.length : Int) = r26.W * r26.H := by have h9 := hgl2; rw [hsh2.1, hsh2.2, hfd] at h9; exact h9
   have hnl3 := ownScrR.len ‹ownScrR r26 _›
   have hcp3 := (ownScrR.ok (B := 549755813888) ho27 (hs29.ow L25) hsmr).Main.Cells_c
   have e0m : r26.Y * r26.Main.W = r26.Y * r26.W := by rw [hgw2.1]
   have e1m : (r26.Y + 1) * r26.Main.W = (r26.Y + 1) * r26.W := by rw [hgw2.1]
   refine WC.seq (fun K59 hK59 => ?_)
   refine WC.rG 20 (hs29.rm L25) hs29 hs29 (fun _ hs60 => ?_)
   refine WG.rn [0, 4] hs60 [] rfl rfl ?_
   refine WG.tk 5 rfl (by kernel_rfl) rfl rfl rfl hs60 (fun w_ hs_ => (Run.nilCheck rfl rfl)) ?_
   refine WG.rn [6, 7, 9] hs60 [0] rfl rfl ?_
   refine WG.tk 10 rfl (by kernel_rfl) rfl rfl rfl hs60 (fun w_ hs_ => (Run.nilCheck rfl rfl)) ?_
   refine WG.rn [11, 12, 13, 14] hs60 [0] rfl rfl ?_
   refine WG.tk 15 rfl (by kernel_rfl) rfl rfl rfl hs60 (fun w_ hs_ => (Run.nilCheck rfl rfl)) ?_
   refine WG.rn [16, 17] hs60 [0] rfl rfl ?_
   refine WG.tk 18 rfl (by kernel_rfl) rfl rfl rfl hs60 (fun w_ hs_ => (Run.build rfl rfl rfl rfl (built_75_0_1 _ _ _ _ _ _))) ?_
   refine WG.o1 1 rfl rfl ?_
   refine WL.cl Tryz.call223 rfl (c_impl_Scr_shown_mainR _ _ _ _ _ _ _ _ _ _ _ _ _ _ _ _ _ _ _ _ _ _ _ _ _ _ _ _ _ _ _ _ _ (hs60.own _ (nthL_mem (i := 0) rfl)).1 ?_) ?_
   · first | (first | assumption | rfl | omega) | (first | assumption | omega)
   rintro _ whs61 ⟨rfl, hs61⟩
   replace hs61 := hs60.call0 hs61
   refine ⟨_, rfl, ?_⟩
   refine WL.nil ⟨hs61, ?_⟩
   refine WG.tk 2 rfl (by kernel_rfl) rfl rfl rfl hs61 (fun w_ hs_ => (Run.nilCheck rfl rfl)) ?_
   refine WG.rn [3] hs61 [0] rfl rfl ?_
   refine WG.o1 8 rfl rfl ?_
   refine WL.cl Tryz.call224 rfl (c_impl_Grid_row r26.Main _ _ (ownScrR.ok (B := 549755813888) ho27 (hs61.ow L25) hsmr).Main ?_ ?_ ?_ ?_) ?_
   · first | (first | assumption | rfl | omega) | (first | assumption | omega)
   · first | (first | assumption | rfl | omega) | (first | assumption | omega)
   · first | (first | assumption | rfl | omega) | (first | assumption | omega)
   · first | (first | assumption | rfl | omega) | (first | assumption | omega)
   rintro _ whs62 ⟨rfl, hs62⟩
   replace hs62 := hs61.call0 hs62
   refine ⟨_, rfl, ?_⟩
   refine WL.nil ⟨hs62, ?_⟩
   refine WG.tk 19 rfl (by kernel_rfl) rfl rfl rfl hs62 (fun w_ hs_ => (Run.idxK (r26.X.toNat) Tryz.runUnderlying26 Tryz.sizeOf75 rfl rfl rfl ?_ ?_ ?_)) ?_
   · exact SlF.some_ (SlF.cutC (lo := (r26.Y * r26.Main.W).toNat) (hi := ((r26.Y + 1) * r26.Main.W).toNat) (ownScrR.ok (B := 549755813888) ho27 ((hs_ : St _ _ _ _).ow L25) hsmr).Main.Cells (by refine ⟨?_, ?_, ?_⟩ <;> (omega)))
   · omega
   · omega
   refine WG.oK rfl ?_
   obtain ⟨L63, L64, L65, L66, hs71, ho67, ho68, ho69, ho70⟩ := ownScrR.open_ (hs62.fr L25) ho27
   have hs72 := (hs71.fb b_s)
   refine WL.storeC (x' := (⟨q, ⟨r26.A.Fg, r26.A.Bg, r26.A.Bold, r26.A.Under, r26.A.Turn⟩⟩ : CellD)) (lo := (r26.Y * r26.Main.W).toNat) (hs72.fr L63) ho67 Tryz.sizeOf75 rfl rfl rfl rfl rfl rfl rfl rfl rfl ?_ rfl (fun L73 whs74 hs74 ho75 _ => ?_)
   · omega
   replace hs74 := St.back [_] hs74
   refine WL.nil ⟨((((hs74.rm L73).rm L64).rm L65).rm L66), ?_⟩
   refine WH.dn ?_
   refine hK59 _ _ ?_
   refine WC.sq1 hs74 ?_
   refine WQ.r 1 [] rfl ?_
   refine WQ.val rfl rfl rfl (fun w_ hs_ => (Run.nilCheck rfl rfl)) ?_
   refine WQ.r 3 [0] rfl ?_
   refine WQ.val rfl rfl rfl (fun w_ hs_ => (Run.nilCheck rfl rfl)) ?_
   refine WQ.r 4 [0] rfl ?_
   refine WQ.nil (fun _ (hs76 : St _ _ _ _) => ?_)
   refine WC.cq rfl (fun h77 qh77 => ?_) (fun h77 qh77 => ?_)
   ·have hlt : r26.dat.X ≠ r26.dat.W - 1 := by show r26.X ≠ r26.W - 1; have h9 := h77; simp at h9; omega
    refine WC.region ?_
    refine WL.r 1 hs76 [] rfl ?_
    refine WL.val rfl rfl rfl (Run.nilCheck rfl rfl) ?_
    refine WL.r 3 hs76 [0] rfl ?_
    refine WL.val rfl rfl rfl (Run.nilCheck rfl rfl) ?_
    refine WL.r 1 hs76 [] rfl ?_
    refine WL.st tbk hs76 0 rfl rfl (fun _ hs78 => ?_)
    refine WL.nil ?_
    refine retK0 rfl ?_
    obtain ⟨L80, hs79, ho81⟩ := ownScrR.fl ((((hs78.fr L66).fr L65).fr L64).fr L73) ho75 ho68 ho69 ho70
    have hs82 := (hs79.fb b_s)
    refine ⟨⟨r26.W, r26.H, ⟨r26.Main.W, r26.Main.H, SlD.of ho75⟩, ⟨r26.Alt.W, r26.Alt.H, SlD.of ho68⟩, r26.OnAlt, (r26.X + (1)), r26.Y, r26.Wrap, ⟨r26.A.Fg, r26.A.Bg, r26.A.Bold, r26.A.Under, r26.A.Turn⟩, r26.Top, r26.Bot, r26.NoWrap, r26.Hide, r26.SaveX, r26.SaveY, ⟨r26.SaveA.Fg, r26.SaveA.Bg, r26.SaveA.Bold, r26.SaveA.Under, r26.SaveA.Turn⟩, SlD.of ho69, r26.Limit, SlD.ofN ho70⟩, _, rfl, St.keepP (L1 := L80) ((hs82.fr L80).fb b_s), (by exact ho81), ?_⟩
    · first | (rw [runeD_lt hd28 hlt, hpt, hfd]; exact ScrD.ext' rfl rfl (fill_one (g := r26.Main.dat) rfl rfl (by show 0 ≤ r26.X ∧ r26.X < r26.Main.W; omega) (by show 0 ≤ r26.Y; omega) rfl (by show (r26.Y * r26.Main.W).toNat + r26.X.toNat < r26.Main.Cells.xs.length; omega)) rfl rfl rfl rfl rfl rfl rfl rfl rfl rfl rfl rfl rfl rfl rfl rfl) | (rw [runeD_eq hd28 hlt, hpt, hfd]; exact ScrD.ext' rfl rfl (fill_one (g := r26.Main.dat) rfl rfl (by show 0 ≤ r26.X ∧ r26.X < r26.Main.W; omega) (by show 0 ≤ r26.Y; omega) rfl (by show (r26.Y * r26.Main.W).toNat + r26.X.toNat < r26.Main.Cells.xs.length; omega)) rfl rfl rfl rfl rfl rfl rfl rfl rfl rfl rfl rfl rfl rfl rfl rfl)
   ·have hlt : r26.dat.X = r26.dat.W - 1 := by show r26.X = r26.W - 1; have h9 := h77; simp at h9; omega
    refine WC.region ?_
    refine WL.r 2 hs76 [] rfl ?_
    refine WL.val rfl rfl rfl (Run.nilCheck rfl rfl) ?_
    refine WL.r 3 hs76 [0] rfl ?_
    refine WL.val rfl rfl rfl (Run.nilCheck rfl rfl) ?_
    refine WL.r 1 hs76 [] rfl ?_
    refine WL.st tbk hs76 0 rfl rfl (fun _ hs83 => ?_)
    refine WL.nil ?_
    refine retK0 rfl ?_
    obtain ⟨L85, hs84, ho86⟩ := ownScrR.fl ((((hs83.fr L66).fr L65).fr L64).fr L73) ho75 ho68 ho69 ho70
    have hs87 := (hs84.fb b_s)
    refine ⟨⟨r26.W, r26.H, ⟨r26.Main.W, r26.Main.H, SlD.of ho75⟩, ⟨r26.Alt.W, r26.Alt.H, SlD.of ho68⟩, r26.OnAlt, r26.X, r26.Y, (!r26.NoWrap), ⟨r26.A.Fg, r26.A.Bg, r26.A.Bold, r26.A.Under, r26.A.Turn⟩, r26.Top, r26.Bot, r26.NoWrap, r26.Hide, r26.SaveX, r26.SaveY, ⟨r26.SaveA.Fg, r26.SaveA.Bg, r26.SaveA.Bold, r26.SaveA.Under, r26.SaveA.Turn⟩, SlD.of ho69, r26.Limit, SlD.ofN ho70⟩, _, rfl, St.keepP (L1 := L85) ((hs87.fr L85).fb b_s), (by exact ho86), ?_⟩
    · first | (rw [runeD_lt hd28 hlt, hpt, hfd]; exact ScrD.ext' rfl rfl (fill_one (g := r26.Main.dat) rfl rfl (by show 0 ≤ r26.X ∧ r26.X < r26.Main.W; omega) (by show 0 ≤ r26.Y; omega) rfl (by show (r26.Y * r26.Main.W).toNat + r26.X.toNat < r26.Main.Cells.xs.length; omega)) rfl rfl rfl rfl rfl rfl rfl rfl rfl rfl rfl rfl rfl rfl rfl rfl) | (rw [runeD_eq hd28 hlt, hpt, hfd]; exact ScrD.ext' rfl rfl (fill_one (g := r26.Main.dat) rfl rfl (by show 0 ≤ r26.X ∧ r26.X < r26.Main.W; omega) (by show 0 ≤ r26.Y; omega) rfl (by show (r26.Y * r26.Main.W).toNat + r26.X.toNat < r26.Main.Cells.xs.length; omega)) rfl rfl rfl rfl rfl rfl rfl rfl rfl rfl rfl rfl rfl rfl rfl rfl)
end Go.Proofs.YtjmegoiclgancaaGreat
namespace Go.Proofs.YtjmegoiclgancaaGreat
open Go Go.RowKit
set_option linter.unusedVariables false
set_option linter.unusedSimpArgs false
theorem c_impl_Scr_ctl_1 (b_p b_s : Nat) (s : ScrR) (m : Int) (w : World) (hp : w.heap[b_p]? = some (Obj.cells (List.toArray [.pointer (some ⟨b_s, 0, none⟩)]) 115 (0, 0))) (hq : w.heap[b_s]? = some (Obj.cells (List.toArray (cScr s)) 33 (0, 0))) (hne : b_p ≠ b_s) :
    Calls Tryz.prog 227 #[i64 m, .pointer (some ⟨b_p, 0, none⟩)] w fun e w' => e = .returned (.bool (decide (s.X < m))) ∧ St w [] [] w' := by
 refine enter 10 Tryz.func227 rfl Tryz.ntmps227 rfl rfl ?_
 have hs1 := St.take w [(b_p, Obj.cells (List.toArray [.pointer (some ⟨b_s, 0, none⟩)]) 115 (0, 0)), (b_s, Obj.cells (List.toArray (cScr s)) 33 (0, 0))] (fun p hp_ => by rcases List.mem_cons.1 hp_ with rfl | hp_; exact hp; obtain rfl := List.mem_singleton.1 hp_; exact hq) (by simp [hne])
 refine WC.r1 hs1 [] rfl ?_
 refine WC.sr ?_
 refine WL.r 2 hs1 [0] rfl ?_
 refine WL.val rfl rfl rfl (Run.nilCheck rfl rfl) ?_
 refine WL.r 4 hs1 [1] rfl ?_
 refine WL.nil ?_
 refine WC.ret ?_
 refine retV1 rfl (resV.tmp rfl) ?_
 refine ⟨rfl, St.untouch hs1 (fun k hk => ?_) (fun p hp_ => ?_)⟩
 · rcases List.mem_cons.1 hk with rfl | hk
   · exact ⟨_, List.mem_cons_self⟩
   · obtain rfl := List.mem_singleton.1 hk
     exact ⟨_, List.mem_cons_of_mem _ List.mem_cons_self⟩
 · rcases List.mem_cons.1 hp_ with rfl | hp_
   · exact hp
   · obtain rfl := List.mem_singleton.1 hp_
     exact hq
theorem c_slices_IndexFunc_int_int_ctl (A_s : Option Addr) (n_s c_s : Nat) (s : List Int) (p : Int → Bool) (cv : Value) (w : World) (f_s : SlF encI w A_s n_s s) (hcl : ∀ w1 : World, St w [] [] w1 → ∀ m : Int, Calls Tryz.prog 227 #[i64 m, cv] w1 fun e w2 => e = .returned (.bool (p m)) ∧ St w1 [] [] w2) (hn : n_s ≤ 1048576) :
    Calls Tryz.prog 226 #[.slice A_s n_s c_s, .func (.func 227) #[] #[cv]] w fun e w' => e = .returned (i64 (findI p s)) ∧ St w [] [] w' := by
 refine enter 19 Tryz.func226 rfl Tryz.ntmps226 rfl rfl ?_
 have hs1 := St.init w
 refine WC.r1 hs1 [] rfl ?_
 refine WC.seq (fun K2 hK2 => ?_)
 refine WC.r1 hs1 [] rfl ?_
 refine WC.block ?_
 refine WC.lS [0, 1, 7] rfl hs1 (fun k_ f w' => ∃ (i : Nat), k_ = n_s - i ∧ (i ≤ n_s) ∧ (∀ j, j < i → p (iat s j) = false) ∧ Sub [(8, .int .i64 i)] f) ((fun (i : Nat) => n_s - i) (0)) ?_ ?_
 ·refine ⟨0, rfl, ?_, ?_, ⟨rfl, trivial⟩⟩
  · exact Nat.zero_le _
  · exact fun j hj => absurd hj (by omega)
 ·clear hs1
  rintro _ f w ⟨i, rfl, p0, p1, hG⟩ hF hs3
  refine WC.sub _ (hG.app hF) ?_
  clear hG hF
  refine WC.r1 hs3 [] rfl ?_
  refine WC.seq (fun K4 hK4 => ?_)
  refine WC.cond rfl (fun h5 => ?_) (fun h5 => ?_)
  ·have qh5 := h5
   try simp only [decide_eq_true_eq, decide_eq_false_iff_not] at qh5
   refine WC.skip ?_
   refine hK4 _ _ ?_
   refine WC.seq (fun K6 hK6 => ?_)
   refine WC.block ?_
   refine WC.r1 hs3 [] rfl ?_
   refine WC.sr ?_
   refine WL.r 3 hs3 [] rfl ?_
   refine WL.val rfl rfl rfl (Run.idxN Tryz.runUnderlying23 Tryz.sizeOf3 rfl rfl rfl ?_ ?_ ?_) ?_
   · exact SlF.some_ (SlF.st0 f_s hs3)
   · omega
   · omega
   refine WL.val rfl rfl rfl (Run.load Tryz.isAgg3 rfl rfl (SlF.one1 (SlF.st0 f_s hs3) ?_ rfl)) ?_
   · omega
   refine WL.call rfl rfl rfl (Run.callC Tryz.call227 rfl rfl rfl) (hcl _ hs3 _) ?_
   rintro _ whs7 ⟨rfl, hs7⟩
   replace hs7 := hs3.call0 hs7
   refine ⟨_, rfl, ?_⟩
   refine WL.nil ?_
   refine WC.cond rfl (fun h8 => ?_) (fun h8 => ?_)
   ·have qh8 := h8
    try simp only [decide_eq_true_eq, decide_eq_false_iff_not] at qh8
    refine WC.r1 hs7 [] rfl ?_
    refine WC.ret ?_
    refine ibR (tkR (tkR (ibR (tkR ?_))))
    clear hK6 hK2
    refine retV1 rfl (resV.tmp rfl) ?_
    refine ⟨congrArg Ending.returned ?_, hs7.nil⟩
    rw [findI_some (F := encI) (by rw [f_s.len]; omega) p1 h8]
   ·have qh8 := h8
    try simp only [decide_eq_true_eq, decide_eq_false_iff_not] at qh8
    refine WC.skip ?_
    refine hK6 _ _ ?_
    refine WC.region ?_
    refine WL.r 2 hs7 [] rfl ?_
    refine WL.nil ?_
    refine tkN ?_
    refine ⟨sbF rfl, hs7, _, ?_, i + 1, rfl, ?_, ?_, ⟨rfl, trivial⟩⟩
    · omega
    · omega
    · intro j hj; rcases Nat.lt_or_ge j i with h_ | h_
      · exact p1 j h_
      · obtain rfl : j = i := by omega
        exact h8
  ·have qh5 := h5
   try simp only [decide_eq_true_eq, decide_eq_false_iff_not] at qh5
   refine WC.exit ?_
   refine hK2 _ _ ?_
   refine WC.r1 hs3 [] rfl ?_
   refine WC.ret ?_
   refine retV1 rfl (resV.tmp rfl) ?_
   refine ⟨congrArg Ending.returned ?_, hs3.nil⟩
   rw [findI_none (F := encI) (fun j hj => p1 j (by rw [f_s.len] at hj; omega))]
theorem c_impl_Scr_ctl (b_s : Nat) (s : ScrR) (L_s : Hp) (b : Int) (w : World) (hb_s : w.heap[b_s]? = some (Obj.cells (List.toArray (cScr s)) 33 (0, 0))) (o_s : ownScrR s L_s) (h_s : ∀ p, p ∈ L_s → w.heap[p.1]? = some p.2) (hd_ : (b_s :: L_s.map (·.1)).Nodup) (hf : ScrFine s.dat) (hsm : smScr 1048576 s.dat) :
    Calls Tryz.prog 174 #[.pointer (some ⟨b_s, 0, none⟩), i64 b] w fun e w' => ∃ r L1, e = .returned (.tuple #[]) ∧ St w (b_s :: L_s.map (·.1)) ([(b_s, Obj.cells (List.toArray (cScr r)) 33 (0, 0))] ++ L1) w' ∧ ownScrR r L1 ∧ r.dat = ctlD s.dat b := by
 have hsmB : smScr 549755813888 s.dat := by first | assumption | exact smScr_mono hsm (by decide)
 have hok9 := hf.ok
 obtain ⟨hb1, hb2, hb3, hb4, hb5, hb6⟩ := scrOk_bnd hok9
 obtain ⟨hm, hma⟩ := scrOk_main hok9
 simp only [ScrR.dat, GridR.dat, List.length_map] at hb1 hb2 hb3 hb4 hb5 hb6
 have hwh : (1 ≤ s.W ∧ s.W ≤ 120) ∧ 1 ≤ s.H ∧ s.H ≤ 120 := ⟨(isSize_bnd hf.size).1, (isSize_bnd hf.size).2.1⟩
 have hxy := hf.pos
 simp only [ScrR.dat, GridR.dat] at hxy
 obtain ⟨_, _, hTl, _⟩ := ownScrR.len o_s
 have hTs : s.Tabs.xs.length ≤ 1048576 := hsm.2.2.1
 refine enter 63 Tryz.func174 rfl Tryz.ntmps174 rfl rfl ?_
 have hs1 := St.takeP w b_s _ L_s hb_s h_s hd_
 refine WC.sr ?_
 refine WL.bx hs1 rfl (fun b2 _ hs3 => ?_)
 refine WL.nil ?_
 refine WC.r1 hs3 [] rfl ?_
 refine WC.block ?_
 refine WC.r1 hs3 [] rfl ?_
 refine WC.cq rfl (fun h4 qh4 => ?_) (fun h4 qh4 => ?_)
 ·have e8 : b = 8 := by have h9 := h4; simpa using h9
  refine WC.rG 10 ((hs3.fb b_s).d1.rm L_s) hs3 hs3 (fun _ hs5 => ?_)
  refine WG.rn [0, 1] hs5 [0, 0] rfl rfl ?_
  refine WG.tk 2 rfl (by kernel_rfl) rfl rfl rfl hs5 (fun w_ hs_ => (Run.nilCheck rfl rfl)) ?_
  refine WG.rn [3, 4, 5, 6] hs5 [1, 0] rfl rfl ?_
  refine WG.tk 7 rfl (by kernel_rfl) rfl rfl rfl hs5 (fun w_ hs_ => (Run.nilCheck rfl rfl)) ?_
  refine WG.rn [8, 9] hs5 [1] rfl rfl ?_
  refine WG.oK rfl ?_
  have hF6 : St _ _ ((_, _) :: (L_s ++ _)) _ := ((hs5.fr L_s).fb b_s)
  refine WL.cl Tryz.call225 rfl (c_impl_Scr_move _ s _ _ _ _ (St.headP hF6) o_s (St.ownP hF6) (St.nodupP hF6) ?_) ?_
  · first | (first | assumption | rfl | omega) | (first | assumption | omega)
  rintro _ whs7 ⟨r8, L9, rfl, hs7, ho10, hd11⟩
  replace hs7 := St.lendP hF6 hs7
  refine ⟨_, rfl, ?_⟩
  have hs12 := ((hs7.fb b2).fb b_s)
  refine WL.nil ⟨(hs12.d1.rm L9), ?_⟩
  refine WH.dn ?_
  refine ibN ?_
  refine retK0 rfl ?_
  refine ⟨r8, _, rfl, St.keepP (L1 := L9) ((hs12.fr L9).fb b_s), ho10, ?_⟩
  · unfold ctlD; rw [if_pos e8]; exact hd11
 ·have e8 : ¬ b = 8 := by have h9 := h4; simpa using h9
  refine WC.r1 hs3 [] rfl ?_
  refine WC.cq rfl (fun h13 qh13 => ?_) (fun h13 qh13 => ?_)
  ·have e9 : b = 9 := by have h9 := h13; simpa using h9
   refine WC.sr ?_
   refine WL.r 1 hs3 [0] rfl ?_
   refine WL.val rfl rfl rfl (Run.nilCheck rfl rfl) ?_
   refine WL.r 4 hs3 [1] rfl ?_
   refine WL.nil ?_
   refine WC.seq (fun K14 hK14 => ?_)
   refine WC.sr ?_
   refine WL.r 1 hs3 [0] rfl ?_
   refine WL.val rfl rfl rfl (Run.nilCheck rfl rfl) ?_
   refine WL.r 2 hs3 [1] rfl ?_
   refine WL.val rfl rfl rfl (Run.makeFunc rfl rfl) ?_
   refine WL.cl Tryz.call226 rfl (c_slices_IndexFunc_int_int_ctl _ _ _ _ _ _ _ (ownScrR.ok (B := 549755813888) o_s (hs3.ow L_s) (by assumption)).Tabs (fun w_ hx_ m_ => c_impl_Scr_ctl_1 b2 b_s s m_ w_ ((hx_.keep _ (lt_of_heap (hs3.own _ (nthL_mem (i := 0) rfl)).1) (by simp)).trans (hs3.own _ (nthL_mem (i := 0) rfl)).1) ((hx_.keep _ (lt_of_heap (hs3.own _ (nthL_mem (i := 1) rfl)).1) (by simp)).trans (hs3.own _ (nthL_mem (i := 1) rfl)).1) (St.neq hs3 (i := 0) (j := 1) rfl rfl (by decide))) ?_) ?_
   · first | (first | assumption | rfl | omega) | (first | assumption | omega)
   rintro _ whs15 ⟨rfl, hs15⟩
   replace hs15 := hs3.call0 hs15
   refine ⟨_, rfl, ?_⟩
   refine WL.r 1 hs15 [] rfl ?_
   refine WL.nil ?_
   refine WC.r1 hs15 [] rfl ?_
   refine WC.cq rfl (fun h16 qh16 => ?_) (fun h16 qh16 => ?_)
   ·have hk0 : 0 ≤ findI (fun n => decide (s.X < n)) s.Tabs.xs := by have h9 := h16; simpa using h9
    have hkn := findI_bnd (p := fun n => decide (s.X < n)) (s := s.Tabs.xs) (by omega)
    have hnt : nextTab s.dat = iat s.Tabs.xs (findI (fun n => decide (s.X < n)) s.Tabs.xs).toNat := by unfold nextTab; exact if_pos hk0
    refine WC.region ?_
    refine WL.r 1 hs15 [0] rfl ?_
    refine WL.val rfl rfl rfl (Run.nilCheck rfl rfl) ?_
    refine WL.r 3 hs15 [1] rfl ?_
    refine WL.val rfl rfl rfl (Run.idxK ((findI (fun n => decide (s.X < n)) s.Tabs.xs).toNat) Tryz.runUnderlying23 Tryz.sizeOf3 rfl rfl rfl ?_ ?_ ?_) ?_
    · exact SlF.some_ (ownScrR.ok (B := 549755813888) o_s (hs15.ow L_s) (by assumption)).Tabs
    · omega
    · omega
    refine WL.val rfl rfl rfl (Run.load Tryz.isAgg3 rfl rfl (SlF.one1 (ownScrR.ok (B := 549755813888) o_s (hs15.ow L_s) (by assumption)).Tabs ?_ rfl)) ?_
    · omega
    refine WL.r 1 hs15 [] rfl ?_
    refine WL.nil ?_
    refine hK14 _ _ ?_
    refine WC.rG 6 ((hs15.fb b_s).d1.rm L_s) hs15 hs15 (fun _ hs17 => ?_)
    refine WG.rn [0, 1, 2] hs17 [0, 0] rfl rfl ?_
    refine WG.tk 3 rfl (by kernel_rfl) rfl rfl rfl hs17 (fun w_ hs_ => (Run.nilCheck rfl rfl)) ?_
    refine WG.rn [4, 5] hs17 [1] rfl rfl ?_
    refine WG.oK rfl ?_
    have hF18 : St _ _ ((_, _) :: (L_s ++ _)) _ := ((hs17.fr L_s).fb b_s)
    refine WL.cl Tryz.call225 rfl (c_impl_Scr_move _ s _ _ _ _ (St.headP hF18) o_s (St.ownP hF18) (St.nodupP hF18) ?_) ?_
    · first | (first | assumption | rfl | omega) | (first | assumption | omega)
    rintro _ whs19 ⟨r20, L21, rfl, hs19, ho22, hd23⟩
    replace hs19 := St.lendP hF18 hs19
    refine ⟨_, rfl, ?_⟩
    have hs24 := ((hs19.fb b2).fb b_s)
    refine WL.nil ⟨(hs24.d1.rm L21), ?_⟩
    refine WH.dn ?_
    refine ibN ?_
    refine retK0 rfl ?_
    refine ⟨r20, _, rfl, St.keepP (L1 := L21) ((hs24.fr L21).fb b_s), ho22, ?_⟩
    · unfold ctlD; rw [if_neg e8, if_pos e9]; rw [hnt]; exact hd23
   ·have hnt : nextTab s.dat = s.W - 1 := by unfold nextTab; exact if_neg (show ¬ 0 ≤ findI (fun n => decide (s.X < n)) s.Tabs.xs by have h9 := h16; simp at h9; omega)
    refine WC.skip ?_
    refine hK14 _ _ ?_
    refine WC.rG 6 ((hs15.fb b_s).d1.rm L_s) hs15 hs15 (fun _ hs25 => ?_)
    refine WG.rn [0, 1, 2] hs25 [0, 0] rfl rfl ?_
    refine WG.tk 3 rfl (by kernel_rfl) rfl rfl rfl hs25 (fun w_ hs_ => (Run.nilCheck rfl rfl)) ?_
    refine WG.rn [4, 5] hs25 [1] rfl rfl ?_
    refine WG.oK rfl ?_
    have hF26 : St _ _ ((_, _) :: (L_s ++ _)) _ := ((hs25.fr L_s).fb b_s)
    refine WL.cl Tryz.call225 rfl (c_impl_Scr_move _ s _ _ _ _ (St.headP hF26) o_s (St.ownP hF26) (St.nodupP hF26) ?_) ?_
    · first | (first | assumption | rfl | omega) | (first | assumption | omega)
    rintro _ whs27 ⟨r28, L29, rfl, hs27, ho30, hd31⟩
    replace hs27 := St.lendP hF26 hs27
    refine ⟨_, rfl, ?_⟩
    have hs32 := ((hs27.fb b2).fb b_s)
    refine WL.nil ⟨(hs32.d1.rm L29), ?_⟩
    refine WH.dn ?_
    refine ibN ?_
    refine retK0 rfl ?_
    refine ⟨r28, _, rfl, St.keepP (L1 := L29) ((hs32.fr L29).fb b_s), ho30, ?_⟩
    · unfold ctlD; rw [if_neg e8, if_pos e9]; rw [hnt]; exact hd31
  ·have e9 : ¬ b = 9 := by have h9 := h13; simpa using h9
   refine WC.seq (fun K33 hK33 => ?_)
   refine WC.r1 hs3 [] rfl ?_
   refine WC.cq rfl (fun h34 qh34 => ?_) (fun h34 qh34 => ?_)
   ·have e10 : b = 10 := by have h9 := h34; simpa using h9
    refine WC.skip ?_
    refine hK33 _ _ ?_
    refine WC.condT rfl h34 ?_
    refine WC.region ?_
    refine WL.r 1 hs3 [0] rfl ?_
    have hF36 : St _ _ ((_, _) :: (L_s ++ _)) _ := ((hs3.fr L_s).fb b_s)
    refine WL.cl Tryz.call151 rfl (c_impl_Scr_down _ s _ _ (St.headP hF36) o_s (St.ownP hF36) (St.nodupP hF36) ?_ ?_) ?_
    · first | (first | assumption | rfl | omega) | (first | assumption | omega)
    · first | (first | assumption | rfl | omega) | (first | assumption | omega)
    rintro _ whs37 ⟨r38, L39, rfl, hs37, ho40, hd41⟩
    replace hs37 := St.lendP hF36 hs37
    refine ⟨_, rfl, ?_⟩
    have hs42 := ((hs37.fb b2).fb b_s)
    refine WL.nil ?_
    refine ibN ?_
    refine retK0 rfl ?_
    refine ⟨r38, _, rfl, St.keepP (L1 := L39) ((hs42.fr L39).fb b_s), ho40, ?_⟩
    · unfold ctlD; rw [if_neg e8, if_neg e9, if_pos (show b = 10 ∨ b = 11 ∨ b = 12 by omega)]; exact hd41
   ·have e10 : ¬ b = 10 := by have h9 := h34; simpa using h9
    refine WC.r1 hs3 [] rfl ?_
    refine WC.cq rfl (fun h43 qh43 => ?_) (fun h43 qh43 => ?_)
    ·have e11 : b = 11 := by have h9 := h43; simpa using h9
     refine WC.skip ?_
     refine hK33 _ _ ?_
     refine WC.condT rfl h43 ?_
     refine WC.region ?_
     refine WL.r 1 hs3 [0] rfl ?_
     have hF45 : St _ _ ((_, _) :: (L_s ++ _)) _ := ((hs3.fr L_s).fb b_s)
     refine WL.cl Tryz.call151 rfl (c_impl_Scr_down _ s _ _ (St.headP hF45) o_s (St.ownP hF45) (St.nodupP hF45) ?_ ?_) ?_
     · first | (first | assumption | rfl | omega) | (first | assumption | omega)
     · first | (first | assumption | rfl | omega) | (first | assumption | omega)
     rintro _ whs46 ⟨r47, L48, rfl, hs46, ho49, hd50⟩
     replace hs46 := St.lendP hF45 hs46
     refine ⟨_, rfl, ?_⟩
     have hs51 := ((hs46.fb b2).fb b_s)
     refine WL.nil ?_
     refine ibN ?_
     refine retK0 rfl ?_
     refine ⟨r47, _, rfl, St.keepP (L1 := L48) ((hs51.fr L48).fb b_s), ho49, ?_⟩
     · unfold ctlD; rw [if_neg e8, if_neg e9, if_pos (show b = 10 ∨ b = 11 ∨ b = 12 by omega)]; exact hd50
    ·have e11 : ¬ b = 11 := by have h9 := h43; simpa using h9
     refine WC.region ?_
     refine WL.r 2 hs3 [] rfl ?_
     refine WL.nil ?_
     refine hK33 _ _ ?_
     refine WC.cq rfl (fun h52 qh52 => ?_) (fun h52 qh52 => ?_)
     ·have e12 : b = 12 := by have h9 := h52; simpa using h9
      refine WC.region ?_
      refine WL.r 1 hs3 [0] rfl ?_
      have hF53 : St _ _ ((_, _) :: (L_s ++ _)) _ := ((hs3.fr L_s).fb b_s)
      refine WL.cl Tryz.call151 rfl (c_impl_Scr_down _ s _ _ (St.headP hF53) o_s (St.ownP hF53) (St.nodupP hF53) ?_ ?_) ?_
      · first | (first | assumption | rfl | omega) | (first | assumption | omega)
      · first | (first | assumption | rfl | omega) | (first | assumption | omega)
      rintro _ whs54 ⟨r55, L56, rfl, hs54, ho57, hd58⟩
      replace hs54 := St.lendP hF53 hs54
      refine ⟨_, rfl, ?_⟩
      have hs59 := ((hs54.fb b2).fb b_s)
      refine WL.nil ?_
      refine ibN ?_
      refine retK0 rfl ?_
      refine ⟨r55, _, rfl, St.keepP (L1 := L56) ((hs59.fr L56).fb b_s), ho57, ?_⟩
      · unfold ctlD; rw [if_neg e8, if_neg e9, if_pos (show b = 10 ∨ b = 11 ∨ b = 12 by omega)]; exact hd58
     ·have e12 : ¬ b = 12 := by have h9 := h52; simpa using h9
      refine WC.r1 hs3 [] rfl ?_
      refine WC.cq rfl (fun h60 qh60 => ?_) (fun h60 qh60 => ?_)
      ·have e13 : b = 13 := by have h9 := h60; simpa using h9
       refine WC.rG 5 ((hs3.fb b_s).d1.rm L_s) hs3 hs3 (fun _ hs61 => ?_)
       refine WG.rn [0, 1] hs61 [0, 0] rfl rfl ?_
       refine WG.tk 2 rfl (by kernel_rfl) rfl rfl rfl hs61 (fun w_ hs_ => (Run.nilCheck rfl rfl)) ?_
       refine WG.rn [3, 4] hs61 [1] rfl rfl ?_
       refine WG.oK rfl ?_
       have hF62 : St _ _ ((_, _) :: (L_s ++ _)) _ := ((hs61.fr L_s).fb b_s)
       refine WL.cl Tryz.call225 rfl (c_impl_Scr_move _ s _ _ _ _ (St.headP hF62) o_s (St.ownP hF62) (St.nodupP hF62) ?_) ?_
       · first | (first | assumption | rfl | omega) | (first | assumption | omega)
       rintro _ whs63 ⟨r64, L65, rfl, hs63, ho66, hd67⟩
       replace hs63 := St.lendP hF62 hs63
       refine ⟨_, rfl, ?_⟩
       have hs68 := ((hs63.fb b2).fb b_s)
       refine WL.nil ⟨(hs68.d1.rm L65), ?_⟩
       refine WH.dn ?_
       refine ibN ?_
       refine retK0 rfl ?_
       refine ⟨r64, _, rfl, St.keepP (L1 := L65) ((hs68.fr L65).fb b_s), ho66, ?_⟩
       · unfold ctlD; rw [if_neg e8, if_neg e9, if_neg (show ¬ (b = 10 ∨ b = 11 ∨ b = 12) by omega), if_pos e13]; exact hd67
      ·have e13 : ¬ b = 13 := by have h9 := h60; simpa using h9
       refine WC.skip ?_
       refine ibN ?_
       refine retK0 rfl ?_
       refine ⟨s, _, rfl, St.keepP (L1 := L_s) ((hs3.fr L_s).fb b_s), o_s, ?_⟩
       · unfold ctlD; rw [if_neg e8, if_neg e9, if_neg (show ¬ (b = 10 ∨ b = 11 ∨ b = 12) by omega), if_neg e13]
end Go.Proofs.YtjmegoiclgancaaGreat
namespace Go.Proofs.YtjmegoiclgancaaGreat
open Go Go.RowKit
set_option linter.unusedVariables false
set_option linter.unusedSimpArgs false
theorem c_impl_Scr_esc (b_s : Nat) (s : ScrR) (L_s : Hp) (b : Int) (w : World) (hb_s : w.heap[b_s]? = some (Obj.cells (List.toArray (cScr s)) 33 (0, 0))) (o_s : ownScrR s L_s) (h_s : ∀ p, p ∈ L_s → w.heap[p.1]? = some p.2) (hd_ : (b_s :: L_s.map (·.1)).Nodup) (hf : ScrFine s.dat) (hsm : smScr 1048576 s.dat) :
    Calls Tryz.prog 76 #[.pointer (some ⟨b_s, 0, none⟩), i64 b] w fun e w' => ∃ r L1, e = .returned (.tuple #[]) ∧ St w (b_s :: L_s.map (·.1)) ([(b_s, Obj.cells (List.toArray (cScr r)) 33 (0, 0))] ++ L1) w' ∧ ownScrR r L1 ∧ r.dat = escD s.dat b := by
 have hsmB : smScr 549755813888 s.dat := by first | assumption | exact smScr_mono hsm (by decide)
 have hok9 := hf.ok
 obtain ⟨hb1, hb2, hb3, hb4, hb5, hb6⟩ := scrOk_bnd hok9
 obtain ⟨hm, hma⟩ := scrOk_main hok9
 simp only [ScrR.dat, GridR.dat, List.length_map] at hb1 hb2 hb3 hb4 hb5 hb6
 obtain ⟨_, _, hTl, _⟩ := ownScrR.len o_s
 have hTs : s.Tabs.xs.length ≤ 1048576 := hsm.2.2.1
 refine enter 89 Tryz.func76 rfl Tryz.ntmps76 rfl rfl ?_
 have hs1 := St.takeP w b_s _ L_s hb_s h_s hd_
 refine WC.r1 hs1 [] rfl ?_
 refine WC.block ?_
 refine WC.r1 hs1 [] rfl ?_
 refine WC.cq rfl (fun h2 qh2 => ?_) (fun h2 qh2 => ?_)
 ·have e68 : b = 68 := by have h9 := h2; simpa using h9
  refine WC.region ?_
  refine WL.r 1 hs1 [] rfl ?_
  have hF3 : St _ _ ((_, _) :: (L_s ++ _)) _ := ((hs1.fr L_s).fb b_s)
  refine WL.cl Tryz.call151 rfl (c_impl_Scr_down _ s _ _ (St.headP hF3) o_s (St.ownP hF3) (St.nodupP hF3) ?_ ?_) ?_
  · first | (first | assumption | rfl | omega) | (first | assumption | omega | exact lowb_le)
  · first | (first | assumption | rfl | omega) | (first | assumption | omega | exact lowb_le)
  rintro _ whs4 ⟨r5, L6, rfl, hs4, ho7, hd8⟩
  replace hs4 := St.lendP hF3 hs4
  refine ⟨_, rfl, ?_⟩
  refine WL.nil ?_
  refine ibN ?_
  refine retK0 rfl ?_
  refine ⟨r5, _, rfl, St.keepP (L1 := L6) ((hs4.fr L6).fb b_s), ho7, ?_⟩
  · unfold escD; rw [if_pos e68]; exact hd8
 ·have e68 : ¬ b = 68 := by have h9 := h2; simpa using h9
  refine WC.r1 hs1 [] rfl ?_
  refine WC.cq rfl (fun h9 qh9 => ?_) (fun h9 qh9 => ?_)
  ·have e77 : b = 77 := by have h9 := h9; simpa using h9
   refine WC.region ?_
   refine WL.r 1 hs1 [] rfl ?_
   have hF10 : St _ _ ((_, _) :: (L_s ++ _)) _ := ((hs1.fr L_s).fb b_s)
   refine WL.cl Tryz.call152 rfl (c_impl_Scr_up _ s _ _ (St.headP hF10) o_s (St.ownP hF10) (St.nodupP hF10) ?_ ?_) ?_
   · first | (first | assumption | rfl | omega) | (first | assumption | omega | exact lowb_le)
   · first | (first | assumption | rfl | omega) | (first | assumption | omega | exact lowb_le)
   rintro _ whs11 ⟨r12, L13, rfl, hs11, ho14, hd15⟩
   replace hs11 := St.lendP hF10 hs11
   refine ⟨_, rfl, ?_⟩
   refine WL.nil ?_
   refine ibN ?_
   refine retK0 rfl ?_
   refine ⟨r12, _, rfl, St.keepP (L1 := L13) ((hs11.fr L13).fb b_s), ho14, ?_⟩
   · unfold escD; rw [if_neg e68, if_pos e77]; exact hd15
  ·have e77 : ¬ b = 77 := by have h9 := h9; simpa using h9
   refine WC.r1 hs1 [] rfl ?_
   refine WC.cq rfl (fun h16 qh16 => ?_) (fun h16 qh16 => ?_)
   ·have e69 : b = 69 := by have h9 := h16; simpa using h9
    refine WC.sr ?_
    refine WL.r 1 hs1 [] rfl ?_
    have hF17 : St _ _ ((_, _) :: (L_s ++ _)) _ := ((hs1.fr L_s).fb b_s)
    refine WL.cl Tryz.call151 rfl (c_impl_Scr_down _ s _ _ (St.headP hF17) o_s (St.ownP hF17) (St.nodupP hF17) ?_ ?_) ?_
    · first | (first | assumption | rfl | omega) | (first | assumption | omega | exact lowb_le)
    · first | (first | assumption | rfl | omega) | (first | assumption | omega | exact lowb_le)
    rintro _ whs18 ⟨r19, L20, rfl, hs18, ho21, hd22⟩
    replace hs18 := St.lendP hF17 hs18
    refine ⟨_, rfl, ?_⟩
    refine WL.nil ?_
    refine WC.region ?_
    refine WL.r 1 hs18 [] rfl ?_
    refine WL.val rfl rfl rfl (Run.nilCheck rfl rfl) ?_
    refine WL.r 1 hs18 [] rfl ?_
    refine WL.st tbk hs18 0 rfl rfl (fun _ hs23 => ?_)
    refine WL.nil ?_
    refine ibN ?_
    refine retK0 rfl ?_
    obtain ⟨L24, L25, L26, L27, hs32, ho28, ho29, ho30, ho31⟩ := ownScrR.open_ (hs23.fr L20) ho21
    have hs33 := (hs32.fb b_s)
    obtain ⟨L35, hs34, ho36⟩ := ownScrR.fl ((((hs33.fr L27).fr L26).fr L25).fr L24) ho28 ho29 ho30 ho31
    have hs37 := (hs34.fb b_s)
    refine ⟨⟨r19.W, r19.H, ⟨r19.Main.W, r19.Main.H, SlD.of ho28⟩, ⟨r19.Alt.W, r19.Alt.H, SlD.of ho29⟩, r19.OnAlt, (0), r19.Y, r19.Wrap, ⟨r19.A.Fg, r19.A.Bg, r19.A.Bold, r19.A.Under, r19.A.Turn⟩, r19.Top, r19.Bot, r19.NoWrap, r19.Hide, r19.SaveX, r19.SaveY, ⟨r19.SaveA.Fg, r19.SaveA.Bg, r19.SaveA.Bold, r19.SaveA.Under, r19.SaveA.Turn⟩, SlD.of ho30, r19.Limit, SlD.ofN ho31⟩, _, rfl, St.keepP (L1 := L35) ((hs37.fr L35).fb b_s), (by exact ho36), ?_⟩
    · unfold escD; rw [if_neg e68, if_neg e77, if_pos e69]; show _ = ({ downD s.dat with X := 0 } : ScrD); rw [← hd22]; rfl
   ·have e69 : ¬ b = 69 := by have h9 := h16; simpa using h9
    refine WC.r1 hs1 [] rfl ?_
    refine WC.cq rfl (fun h38 qh38 => ?_) (fun h38 qh38 => ?_)
    ·have e55 : b = 55 := by have h9 := h38; simpa using h9
     refine WC.region ?_
     refine WL.r 1 hs1 [] rfl ?_
     have hF39 : St _ _ ((_, _) :: (L_s ++ _)) _ := ((hs1.fr L_s).fb b_s)
     refine WL.cl Tryz.call153 rfl (c_impl_Scr_save _ s _ _ (St.headP hF39) o_s (St.ownP hF39) (St.nodupP hF39) ?_) ?_
     · first | (first | assumption | rfl | omega) | (first | assumption | omega | exact lowb_le)
     rintro _ whs40 ⟨r41, L42, rfl, hs40, ho43, hd44⟩
     replace hs40 := St.lendP hF39 hs40
     refine ⟨_, rfl, ?_⟩
     refine WL.nil ?_
     refine ibN ?_
     refine retK0 rfl ?_
     refine ⟨r41, _, rfl, St.keepP (L1 := L42) ((hs40.fr L42).fb b_s), ho43, ?_⟩
     · unfold escD; rw [if_neg e68, if_neg e77, if_neg e69, if_pos e55]; exact hd44
    ·have e55 : ¬ b = 55 := by have h9 := h38; simpa using h9
     refine WC.r1 hs1 [] rfl ?_
     refine WC.cq rfl (fun h45 qh45 => ?_) (fun h45 qh45 => ?_)
     ·have e56 : b = 56 := by have h9 := h45; simpa using h9
      refine WC.region ?_
      refine WL.r 1 hs1 [] rfl ?_
      have hF46 : St _ _ ((_, _) :: (L_s ++ _)) _ := ((hs1.fr L_s).fb b_s)
      refine WL.cl Tryz.call154 rfl (c_impl_Scr_restore _ s _ _ (St.headP hF46) o_s (St.ownP hF46) (St.nodupP hF46) ?_) ?_
      · first | (first | assumption | rfl | omega) | (first | assumption | omega | exact lowb_le)
      rintro _ whs47 ⟨r48, L49, rfl, hs47, ho50, hd51⟩
      replace hs47 := St.lendP hF46 hs47
      refine ⟨_, rfl, ?_⟩
      refine WL.nil ?_
      refine ibN ?_
      refine retK0 rfl ?_
      refine ⟨r48, _, rfl, St.keepP (L1 := L49) ((hs47.fr L49).fb b_s), ho50, ?_⟩
      · unfold escD; rw [if_neg e68, if_neg e77, if_neg e69, if_neg e55, if_pos e56]; exact hd51
     ·have e56 : ¬ b = 56 := by have h9 := h45; simpa using h9
      refine WC.r1 hs1 [] rfl ?_
      refine WC.cq rfl (fun h52 qh52 => ?_) (fun h52 qh52 => ?_)
      ·have e72 : b = 72 := by have h9 := h52; simpa using h9
       have hasc : s.Tabs.xs.Pairwise (· ≤ ·) := asc_le hf.tab
       refine WC.sq1 hs1 ?_
       refine WQ.r 1 [] rfl ?_
       refine WQ.val rfl rfl rfl (fun w_ hs_ => (Run.nilCheck rfl rfl)) ?_
       refine WQ.r 3 [0] rfl ?_
       refine WQ.val rfl rfl rfl (fun w_ hs_ => (Run.nilCheck rfl rfl)) ?_
       refine WQ.r 2 [0] rfl ?_
       refine WQ.call rfl rfl rfl (fun w_ hs_ => (Run.call Tryz.call155 rfl rfl rfl)) (fun w_ hs_ => (c_slices_BinarySearch_int_int _ _ _ _ _ _ (ownScrR.ok (B := 549755813888) o_s ((hs_ : St _ _ _ _).ow L_s) (by assumption)).Tabs ?_ ?_).mono fun e_ w_ h_ => ⟨h_.1, (hs_ : St _ _ _ _).call0 h_.2⟩) ?_
       · first | assumption | rfl | omega
       · first | assumption | rfl | omega
       refine WQ.r 5 [] rfl ?_
       refine WQ.nil (fun _ (hs53 : St _ _ _ _) => ?_)
       refine WC.r1 hs53 [] rfl ?_
       refine WC.cq rfl (fun h54 qh54 => ?_) (fun h54 qh54 => ?_)
       ·have hni : s.dat.X ∉ s.dat.Tabs := by show ¬ s.X ∈ s.Tabs.xs; have h9 := h54; simpa using h9
        refine WC.rG 14 (hs53.d1.rm L_s) (hs53.rm L_s) hs53 (fun _ hs55 => ?_)
        refine WG.rn [0, 1] (hs55.rm L_s) [] rfl rfl ?_
        refine WG.tk 2 rfl (by kernel_rfl) rfl rfl rfl (hs55.rm L_s) (fun w_ hs_ => (Run.nilCheck rfl rfl)) ?_
        refine WG.rn [3, 4, 5, 6] (hs55.rm L_s) [0] rfl rfl ?_
        refine WG.tk 7 rfl (by kernel_rfl) rfl rfl rfl (hs55.rm L_s) (fun w_ hs_ => (Run.nilCheck rfl rfl)) ?_
        refine WG.rn [8, 9] (hs55.rm L_s) [0] rfl rfl ?_
        refine WG.o1 10 rfl rfl ?_
        refine WL.buildSlice hs55 Tryz.runUnderlying23 Tryz.sizeOf3 Tryz.zeroValue3 rfl rfl rfl rfl rfl rfl rfl rfl rfl rfl (fun b56 whs57 hs57 => ?_)
        refine WL.nil ⟨(hs57.d1.rm L_s), ?_⟩
        refine WG.o1 11 rfl rfl ?_
        obtain ⟨L59, L60, L61, L62, hs67, ho63, ho64, ho65, ho66⟩ := ownScrR.open_ (hs57.fr L_s) o_s
        have hs68 := ((hs67.fb b_s).fb b56)
        refine WL.cl Tryz.call156 rfl (c_slices_Insert_int_int _ _ _ _ _ _ _ ho65 (hs68.ow L61) (hs68.own _ (nthL_mem (i := 0) rfl)).1 (St.sepOwn (hs68.fr L61) (nthL_mem (i := 0) rfl)) ?_ ?_) ?_
        · first | (first | assumption | rfl | omega) | (first | assumption | omega | exact lowb_le)
        · first | (first | assumption | rfl | omega) | (first | assumption | omega | exact lowb_le)
        rintro _ whs58 ⟨A69, c70, L1_71, rfl, hs58, ho72⟩
        replace hs58 := St.lend (hs68.fr L61) hs58
        refine ⟨_, rfl, ?_⟩
        replace hs58 := St.back [_, _] hs58
        refine WL.nil ⟨((((hs58.d1.rm L1_71).rm L59).rm L60).rm L62), ?_⟩
        refine WG.tk 12 rfl (by kernel_rfl) rfl rfl rfl ((((hs58.d1.rm L1_71).rm L59).rm L60).rm L62) (fun w_ hs_ => (Run.nilCheck rfl rfl)) ?_
        refine WG.rn [13] ((((hs58.d1.rm L1_71).rm L59).rm L60).rm L62) [] rfl rfl ?_
        refine WG.oK rfl ?_
        refine WL.st tbk hs58 1 rfl rfl (fun _ hs73 => ?_)
        refine WL.nil ⟨((((hs73.d1.d1.rm L1_71).rm L59).rm L60).rm L62), ?_⟩
        refine WH.dn ?_
        refine ibN ?_
        refine retK0 rfl ?_
        obtain ⟨L75, hs74, ho76⟩ := ownScrR.fl ((((hs73.fr L62).fr L1_71).fr L60).fr L59) ho63 ho64 ho72 ho66
        have hs77 := ((hs74.fb b_s).fb b56)
        refine ⟨⟨s.W, s.H, ⟨s.Main.W, s.Main.H, SlD.of ho63⟩, ⟨s.Alt.W, s.Alt.H, SlD.of ho64⟩, s.OnAlt, s.X, s.Y, s.Wrap, ⟨s.A.Fg, s.A.Bg, s.A.Bold, s.A.Under, s.A.Turn⟩, s.Top, s.Bot, s.NoWrap, s.Hide, s.SaveX, s.SaveY, ⟨s.SaveA.Fg, s.SaveA.Bg, s.SaveA.Bold, s.SaveA.Under, s.SaveA.Turn⟩, SlD.of ho72, s.Limit, SlD.ofN ho66⟩, _, rfl, St.keepP (L1 := L75) ((hs77.fr L75).fb b_s), (by exact ho76), ?_⟩
        · unfold escD; rw [if_neg e68, if_neg e77, if_neg e69, if_neg e55, if_neg e56, if_pos e72]; refine Eq.trans ?_ (show ({ s.dat with Tabs := insL s.dat.Tabs (lowb s.dat.Tabs s.dat.X) s.dat.X } : ScrD) = tabD s.dat from by rw [tabL_ins hf hni]; rfl); rfl
       ·have hin : s.dat.X ∈ s.dat.Tabs := by show s.X ∈ s.Tabs.xs; have h9 := h54; simpa using h9
        refine WC.skip ?_
        refine ibN ?_
        refine retK0 rfl ?_
        refine ⟨s, _, rfl, St.keepP (L1 := L_s) ((hs53.fr L_s).fb b_s), o_s, ?_⟩
        · unfold escD; rw [if_neg e68, if_neg e77, if_neg e69, if_neg e55, if_neg e56, if_pos e72]; refine Eq.trans ?_ (show ({ s.dat with Tabs := s.dat.Tabs } : ScrD) = tabD s.dat from by unfold tabD; rw [← tabL_has hf hin]); rfl
      ·have e72 : ¬ b = 72 := by have h9 := h52; simpa using h9
       refine WC.r1 hs1 [] rfl ?_
       refine WC.cq rfl (fun h78 qh78 => ?_) (fun h78 qh78 => ?_)
       ·have e99 : b = 99 := by have h9 := h78; simpa using h9
        refine WC.sr ?_
        refine WL.r 1 hs1 [] rfl ?_
        refine WL.val rfl rfl rfl (Run.nilCheck rfl rfl) ?_
        refine WL.r 3 hs1 [0] rfl ?_
        refine WL.nil ?_
        refine WC.seq (fun K79 hK79 => ?_)
        refine WC.rG 18 hs1.d1 hs1 hs1 (fun _ hs80 => ?_)
        refine WG.rn [0, 1] hs80 [] rfl rfl ?_
        refine WG.tk 2 rfl (by kernel_rfl) rfl rfl rfl hs80 (fun w_ hs_ => (Run.nilCheck rfl rfl)) ?_
        refine WG.rn [3, 4, 5] hs80 [0] rfl rfl ?_
        refine WG.tk 6 rfl (by kernel_rfl) rfl rfl rfl hs80 (fun w_ hs_ => (Run.nilCheck rfl rfl)) ?_
        refine WG.rn [7, 8, 9] hs80 [0] rfl rfl ?_
        refine WG.tk 10 rfl (by kernel_rfl) rfl rfl rfl hs80 (fun w_ hs_ => (Run.nilCheck rfl rfl)) ?_
        refine WG.rn [11, 12] hs80 [0] rfl rfl ?_
        refine WG.o1 13 rfl rfl ?_
        refine WL.cl Tryz.call157 rfl (c_impl_ScrNew _ _ _ _) ?_
        rintro _ whs81 ⟨r0_82, L0_83, rfl, hs81, ho84, hd0_85⟩
        replace hs81 := hs80.callF hs81
        refine ⟨_, rfl, ?_⟩
        replace hs81 := St.back [_] hs81
        refine WL.nil ⟨(hs81.rm L0_83), ?_⟩
        refine WG.rn [14, 15, 16] (hs81.rm L0_83) [] rfl rfl ?_
        refine WG.tk 17 rfl (by kernel_rfl) rfl rfl rfl (hs81.rm L0_83) (fun w_ hs_ => (Run.nilCheck rfl rfl)) ?_
        refine WG.oK rfl ?_
        refine WL.st tbk hs81 0 rfl rfl (fun _ hs86 => ?_)
        refine WL.nil ⟨(hs86.d1.rm L0_83), ?_⟩
        refine WH.dn ?_
        refine hK79 _ _ ?_
        refine WC.region ?_
        refine WL.r 2 hs86 [] rfl ?_
        refine WL.val rfl rfl rfl (Run.nilCheck rfl rfl) ?_
        refine WL.r 1 hs86 [] rfl ?_
        refine WL.st tbk hs86 0 rfl rfl (fun _ hs87 => ?_)
        refine WL.nil ?_
        refine ibN ?_
        refine retK0 rfl ?_
        obtain ⟨L88, L89, L90, L91, hs96, ho92, ho93, ho94, ho95⟩ := ownScrR.open_ (hs87.fr L0_83) ho84
        have hs97 := (hs96.fb b_s)
        obtain ⟨L98, L99, L100, L101, hs106, ho102, ho103, ho104, ho105⟩ := ownScrR.open_ (hs97.fr L_s) o_s
        have hs107 := (hs106.fb b_s)
        obtain ⟨L109, hs108, ho110⟩ := ownScrR.fl ((((hs107.fr L101).fr L90).fr L89).fr L88) ho92 ho93 ho94 ho105
        have hs111 := (hs108.fb b_s)
        refine ⟨⟨r0_82.W, r0_82.H, ⟨r0_82.Main.W, r0_82.Main.H, SlD.of ho92⟩, ⟨r0_82.Alt.W, r0_82.Alt.H, SlD.of ho93⟩, r0_82.OnAlt, r0_82.X, r0_82.Y, r0_82.Wrap, ⟨r0_82.A.Fg, r0_82.A.Bg, r0_82.A.Bold, r0_82.A.Under, r0_82.A.Turn⟩, r0_82.Top, r0_82.Bot, r0_82.NoWrap, r0_82.Hide, r0_82.SaveX, r0_82.SaveY, ⟨r0_82.SaveA.Fg, r0_82.SaveA.Bg, r0_82.SaveA.Bold, r0_82.SaveA.Under, r0_82.SaveA.Turn⟩, SlD.of ho94, r0_82.Limit, SlD.ofN ho105⟩, _, rfl, St.keepP (L1 := L109) ((hs111.fr L109).fb b_s), (by exact ho110), ?_⟩
        · unfold escD; rw [if_neg e68, if_neg e77, if_neg e69, if_neg e55, if_neg e56, if_neg e72, if_pos e99]; have hm9 : scrRes s.W s.H s.Limit = scrNew s.W s.H s.Limit := by { unfold scrRes scrMay; rw [if_pos]; rw [Bool.and_eq_true, within_iff]; exact ⟨hf.size, hf.lim.1⟩ }; refine Eq.trans ?_ (show ({ scrRes s.W s.H s.Limit with Back := s.dat.Back } : ScrD) = resetD s.dat from by rw [hm9]; rfl); rw [← hd0_85]; rfl
       ·have e99 : ¬ b = 99 := by have h9 := h78; simpa using h9
        refine WC.skip ?_
        refine ibN ?_
        refine retK0 rfl ?_
        refine ⟨s, _, rfl, St.keepP (L1 := L_s) ((hs1.fr L_s).fb b_s), o_s, ?_⟩
        · unfold escD; rw [if_neg e68, if_neg e77, if_neg e69, if_neg e55, if_neg e56, if_neg e72, if_neg e99]
end Go.Proofs.YtjmegoiclgancaaGreat
namespace Go.Proofs.YtjmegoiclgancaaGreat
open Go Go.RowKit
set_option linter.unusedVariables false
set_option linter.unusedSimpArgs false
theorem c_impl_ScrEsc_1 (b_s : Nat) (s : ScrR) (L_s : Hp) (b_b : Nat) (b : Int) (w : World) (hb_s : w.heap[b_s]? = some (Obj.cells (List.toArray (cScr s)) 33 (0, 0))) (o_s : ownScrR s L_s) (h_s : ∀ p, p ∈ L_s → w.heap[p.1]? = some p.2) (f_b : SlF encI w (some ⟨b_b, 0, none⟩) 1 [b]) (s_b : 0 < 1 → (adr (some ⟨b_b, 0, none⟩)).block ∉ (b_s :: L_s.map (·.1))) (hd_ : (b_s :: L_s.map (·.1)).Nodup) (hok : scrOk s.dat = true) (hsm : smScr 1048576 s.dat) :
    Calls Tryz.prog 75 #[.pointer (some ⟨b_s, 0, none⟩), .pointer (some ⟨b_b, 0, none⟩)] w fun e w' => ∃ r L1, e = .returned (.tuple #[]) ∧ St w (b_s :: L_s.map (·.1)) ([(b_s, Obj.cells (List.toArray (cScr r)) 33 (0, 0))] ++ L1) w' ∧ ownScrR r L1 ∧ r.dat = escD s.dat b := by
 have hsmB : smScr 549755813888 s.dat := smScr_mono hsm (by decide)
 refine enter 6 Tryz.func75 rfl Tryz.ntmps75 rfl rfl ?_
 have hs1 := St.takeP w b_s _ L_s hb_s h_s hd_
 refine WC.region ?_
 refine WL.r 1 hs1 [] rfl ?_
 refine WL.val rfl rfl rfl (Run.load Tryz.isAgg3 rfl rfl (SlF.var (SlF.st f_b hs1 s_b) rfl)) ?_
 have hF2 : St _ _ ((_, _) :: (L_s ++ _)) _ := ((hs1.fr L_s).fb b_s)
 refine WL.cl Tryz.call76 rfl (c_impl_Scr_esc _ s _ _ _ (St.headP hF2) o_s (St.ownP hF2) (St.nodupP hF2) ?_ ?_) ?_
 · first | (first | assumption | rfl | omega) | (first | assumption | exact ScrFine.of hok)
 · first | (first | assumption | rfl | omega) | (first | assumption | exact ScrFine.of hok)
 rintro _ whs3 ⟨r4, L5, rfl, hs3, ho6, hd7⟩
 replace hs3 := St.lendP hF2 hs3
 refine ⟨_, rfl, ?_⟩
 refine WL.nil ?_
 refine retK0 rfl ?_
 refine ⟨r4, _, rfl, St.keepP (L1 := L5) ((hs3.fr L5).fb b_s), ho6, ?_⟩
 · exact hd7
theorem c_impl_Scr_changed_esc (s : ScrR) (b_b : Nat) (b : Int) (w : World) (f_s : okScrR 549755813888 w s) (f_b : SlF encI w (some ⟨b_b, 0, none⟩) 1 [b]) (hsm : smScr 1048576 s.dat) :
    Calls Tryz.prog 74 #[.agg (cScr s).toArray, .func (.func 75) #[] #[.pointer (some ⟨b_b, 0, none⟩)]] w fun e w' => ∃ r L1, e = .returned (.agg (cScr r).toArray) ∧ St w [] L1 w' ∧ ownScrR r L1 ∧ r.dat = scrEscRes s.dat b := by
 have nb_s_Main_Cells := f_s.Main.Cells_n
 have nl_s_Main_Cells := f_s.Main.Cells.len
 have nb_s_Alt_Cells := f_s.Alt.Cells_n
 have nl_s_Alt_Cells := f_s.Alt.Cells.len
 have nb_s_Tabs := f_s.Tabs_n
 have nl_s_Tabs := f_s.Tabs.len
 have nb_s_Back := f_s.Back_n
 have nl_s_Back := f_s.Back.sl.len
 have hsmB : smScr 549755813888 s.dat := by first | assumption | exact smScr_mono hsm (by decide)
 refine enter 15 Tryz.func74 rfl Tryz.ntmps74 rfl rfl ?_
 have hs1 := St.init w
 refine WC.sr ?_
 refine WL.bx hs1 rfl (fun b2 _ hs3 => ?_)
 refine WL.al hs3 Tryz.zeroValue33 rfl rfl (fun b4 _ hs5 => ?_)
 refine WL.nil ?_
 refine WC.seq (fun K6 hK6 => ?_)
 refine WC.sr ?_
 refine WL.r 1 hs5 [1] rfl ?_
 refine WL.cl Tryz.call29 rfl (c_impl_ScrOk s _ (okScrR.st0 f_s hs5)) ?_
 rintro _ whs7 ⟨rfl, hs7⟩
 replace hs7 := hs5.call0 hs7
 refine ⟨_, rfl, ?_⟩
 refine WL.r 1 hs7 [] rfl ?_
 refine WL.nil ?_
 refine WC.cq rfl (fun h8 qh8 => ?_) (fun h8 qh8 => ?_)
 ·have hk : scrOk s.dat = false := by have h9 := h8; simpa using h9
  refine WC.sr ?_
  refine WL.val rfl rfl rfl (Run.build rfl rfl rfl rfl (built_33)) ?_
  refine WL.st tbk hs7 0 rfl rfl (fun _ hs9 => ?_)
  refine WL.nil ?_
  refine WC.ret ?_
  refine tkR ?_
  clear hK6
  refine retV1 rfl (resV.cellA tbk hs9 0 rfl rfl rfl rfl) ?_
  obtain ⟨L15, hs14, ho16⟩ := ownScrR.fl ((((hs9.fr ([] : Hp)).fr ([] : Hp)).fr ([] : Hp)).fr ([] : Hp)) (OwnF.nil _ _) (OwnF.nil _ _) (OwnF.nil _ _) (OwnN.nil _ _ _)
  have hs17 := ((hs14.fb b2).fb b4)
  refine ⟨⟨0, 0, ⟨0, 0, ⟨none, 0, 0, []⟩⟩, ⟨0, 0, ⟨none, 0, 0, []⟩⟩, false, 0, 0, false, ⟨0, 0, false, false, false⟩, 0, 0, false, false, 0, 0, ⟨0, 0, false, false, false⟩, ⟨none, 0, 0, []⟩, 0, ⟨none, 0, 0, []⟩⟩, _, rfl, (St.keep1 (hs17.fr L15)), ?_, ?_⟩
  · exact (by exact ho16)
  · unfold scrEscRes; rw [hk]; rfl
 ·have hk : scrOk s.dat = true := by have h9 := h8; simpa using h9
  have hf := ScrFine.of hk
  refine WC.skip ?_
  refine hK6 _ _ ?_
  refine WC.sr ?_
  refine WL.r 1 hs7 [1] rfl ?_
  refine WL.cl Tryz.call150 rfl (c_impl_copyScr s _ (okScrR.st0 f_s hs7) ?_) ?_
  · first | (first | assumption | rfl | omega) | (first | assumption | omega)
  rintro _ whs18 ⟨r19, L1_20, rfl, hs18, ho21, hd22⟩
  replace hs18 := hs7.callF hs18
  refine ⟨_, rfl, ?_⟩
  replace hs18 := St.back [_, _] hs18
  have hcp := hd22
  have hokc : scrOk (ScrR.dat _) = true := (congrArg scrOk hcp).trans hk
  have hsmc : smScr 1048576 (ScrR.dat _) := hcp.symm ▸ hsm
  refine WL.al hs18 Tryz.zeroValue33 rfl rfl (fun b23 _ hs24 => ?_)
  refine WL.st tbk hs24 0 rfl rfl (fun _ hs25 => ?_)
  refine WL.nil ?_
  refine WC.sr ?_
  refine WL.r 1 hs25 [] rfl ?_
  have hF26 : St _ _ ((_, _) :: (L1_20 ++ _)) _ := ((hs25.fr L1_20).fb b23)
  refine WL.call rfl rfl rfl (Run.callC Tryz.call75 rfl rfl rfl) (c_impl_ScrEsc_1 _ r19 _ _ _ _ (St.headP hF26) ho21 (St.ownP hF26) (SlF.st0 f_b hs25) (St.sepP hF26 f_b) (St.nodupP hF26) ?_ ?_) ?_
  · first | (first | assumption | rfl | omega) | (first | assumption | omega)
  · first | (first | assumption | rfl | omega) | (first | assumption | omega)
  rintro _ whs27 ⟨r28, L29, rfl, hs27, ho30, hd31⟩
  replace hs27 := St.lendP hF26 hs27
  refine ⟨_, rfl, ?_⟩
  have hs32 := (((hs27.fb b2).fb b4).fb b23)
  refine WL.nil ?_
  refine WC.sr ?_
  refine WL.r 1 hs32 [0] rfl ?_
  refine WL.st tbk hs32 1 rfl rfl (fun _ hs33 => ?_)
  refine WL.nil ?_
  refine WC.ret ?_
  refine retV1 rfl (resV.cellA tbk hs33 1 rfl rfl rfl rfl) ?_
  refine ⟨r28, _, rfl, (St.keep1 (hs33.fr L29)), ?_, ?_⟩
  · exact ho30
  · unfold scrEscRes; rw [hk]; exact hd31.trans (by rw [hcp]; rfl)
theorem c_impl_ScrEsc (s : ScrR) (b : Int) (w : World) (f_s : okScrR 549755813888 w s) (hsm : smScr 1048576 s.dat) :
    Calls Tryz.prog 22 #[.agg (cScr s).toArray, i64 b] w fun e w' => ∃ r L1, e = .returned (.agg (cScr r).toArray) ∧ St w [] L1 w' ∧ ownScrR r L1 ∧ r.dat = scrEscRes s.dat b := by
 have nb_s_Main_Cells := f_s.Main.Cells_n
 have nl_s_Main_Cells := f_s.Main.Cells.len
 have nb_s_Alt_Cells := f_s.Alt.Cells_n
 have nl_s_Alt_Cells := f_s.Alt.Cells.len
 have nb_s_Tabs := f_s.Tabs_n
 have nl_s_Tabs := f_s.Tabs.len
 have nb_s_Back := f_s.Back_n
 have nl_s_Back := f_s.Back.sl.len
 refine enter 8 Tryz.func22 rfl Tryz.ntmps22 rfl rfl ?_
 have hs1 := St.init w
 refine WC.sr ?_
 refine WL.bx hs1 rfl (fun b2 _ hs3 => ?_)
 refine WL.bx hs3 rfl (fun b4 _ hs5 => ?_)
 refine WL.al hs5 Tryz.zeroValue33 rfl rfl (fun b6 _ hs7 => ?_)
 refine WL.nil ?_
 refine WC.sr ?_
 refine WL.r 1 hs7 [2] rfl ?_
 refine WL.val rfl rfl rfl (Run.makeFunc rfl rfl) ?_
 refine WL.cl Tryz.call74 rfl (c_impl_Scr_changed_esc s _ _ _ (okScrR.st0 f_s hs7) (SlF.own1 (hs7.own _ (nthL_mem (i := 1) rfl)).1) ?_) ?_
 · first | assumption | rfl | omega
 rintro _ whs8 ⟨r9, L1_10, rfl, hs8, ho11, hd12⟩
 replace hs8 := hs7.callF hs8
 refine ⟨_, rfl, ?_⟩
 replace hs8 := St.back [_, _, _] hs8
 refine WL.st tbk hs8 0 rfl rfl (fun _ hs13 => ?_)
 refine WL.nil ?_
 refine WC.ret ?_
 refine retV1 rfl (resV.cellA tbk hs13 0 rfl rfl rfl rfl) ?_
 refine ⟨r9, _, rfl, (St.keep1 (hs13.fr L1_10)), ?_, ?_⟩
 · exact ho11
 · exact hd12
end Go.Proofs.YtjmegoiclgancaaGreat
