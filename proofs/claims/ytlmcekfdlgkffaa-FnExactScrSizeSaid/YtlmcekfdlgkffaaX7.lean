/- Walks of Go functions, printed by a program (wip/gen). -/
import Derived.Test.YtlmcekfdlgkffaaX6
namespace Go.Proofs.Ytlmcekfdlgkffaa
open Go Go.RowKit
set_option linter.unusedVariables false
set_option linter.unusedSimpArgs false
theorem c_impl_ScrSize_1 (b_s : Nat) (s : ScrR) (L_s : Hp) (b_w_ : Nat) (w_ : Int) (b_h_ : Nat) (h_ : Int) (w : World) (hb_s : w.heap[b_s]? = some (Obj.cells (List.toArray [i64 s.W, i64 s.H, i64 s.Main.W, i64 s.Main.H, .slice s.Main.Cells.A s.Main.Cells.n s.Main.Cells.c, i64 s.Alt.W, i64 s.Alt.H, .slice s.Alt.Cells.A s.Alt.Cells.n s.Alt.Cells.c, .bool s.OnAlt, i64 s.X, i64 s.Y, .bool s.Wrap, i64 s.A.Fg, i64 s.A.Bg, .bool s.A.Bold, .bool s.A.Under, .bool s.A.Turn, i64 s.Top, i64 s.Bot, .bool s.NoWrap, .bool s.Hide, i64 s.SaveX, i64 s.SaveY, i64 s.SaveA.Fg, i64 s.SaveA.Bg, .bool s.SaveA.Bold, .bool s.SaveA.Under, .bool s.SaveA.Turn, .slice s.Tabs.A s.Tabs.n s.Tabs.c, i64 s.Limit, .slice s.Back.A s.Back.n s.Back.c]) 33 (0, 0))) (o_s : ownScrR s L_s) (h_s : ∀ p, p ∈ L_s → w.heap[p.1]? = some p.2) (f_w_ : SlF encI w (some ⟨b_w_, 0, none⟩) 1 [w_]) (s_w_ : 0 < 1 → (adr (some ⟨b_w_, 0, none⟩)).block ∉ (b_s :: L_s.map (·.1))) (f_h_ : SlF encI w (some ⟨b_h_, 0, none⟩) 1 [h_]) (s_h_ : 0 < 1 → (adr (some ⟨b_h_, 0, none⟩)).block ∉ (b_s :: L_s.map (·.1))) (hd_ : (b_s :: L_s.map (·.1)).Nodup) (hok : scrOk s.dat = true) (hs : isSize w_ h_ = true) (hsm : smScr 1048576 s.dat) :
    Calls Try.prog 91 #[.pointer (some ⟨b_s, 0, none⟩), .pointer (some ⟨b_w_, 0, none⟩), .pointer (some ⟨b_h_, 0, none⟩)] w fun e w' => ∃ r L1, e = .returned (.tuple #[]) ∧ St w (b_s :: L_s.map (·.1)) ([(b_s, Obj.cells (List.toArray [i64 r.W, i64 r.H, i64 r.Main.W, i64 r.Main.H, .slice r.Main.Cells.A r.Main.Cells.n r.Main.Cells.c, i64 r.Alt.W, i64 r.Alt.H, .slice r.Alt.Cells.A r.Alt.Cells.n r.Alt.Cells.c, .bool r.OnAlt, i64 r.X, i64 r.Y, .bool r.Wrap, i64 r.A.Fg, i64 r.A.Bg, .bool r.A.Bold, .bool r.A.Under, .bool r.A.Turn, i64 r.Top, i64 r.Bot, .bool r.NoWrap, .bool r.Hide, i64 r.SaveX, i64 r.SaveY, i64 r.SaveA.Fg, i64 r.SaveA.Bg, .bool r.SaveA.Bold, .bool r.SaveA.Under, .bool r.SaveA.Turn, .slice r.Tabs.A r.Tabs.n r.Tabs.c, i64 r.Limit, .slice r.Back.A r.Back.n r.Back.c]) 33 (0, 0))] ++ L1) w' ∧ ownScrR r L1 ∧ r.dat = scrSizeOf s.dat w_ h_ := by
 have hsmB : smScr 549755813888 s.dat := smScr_mono hsm (by decide)
 refine enter (vs := [.pointer (some ⟨b_s, 0, none⟩), .pointer (some ⟨b_w_, 0, none⟩), .pointer (some ⟨b_h_, 0, none⟩)]) 8 Try.func91 rfl Try.ntmps91 rfl rfl ?_
 have hs1 := St.takeP w b_s _ L_s hb_s h_s hd_
 refine WC.region ?_
 refine WL.run tbk 1 hs1 [] rfl trivial ?_
 refine WL.val rfl rfl rfl (Run.load Try.isAgg3 rfl rfl (SlF.var (SlF.st f_w_ hs1 s_w_) rfl)) ?_
 refine WL.val rfl rfl rfl (Run.load Try.isAgg3 rfl rfl (SlF.var (SlF.st f_h_ hs1 s_h_) rfl)) ?_
 have hF2 : St _ _ ((_, _) :: (L_s ++ _)) _ := (St.perm (St.perm hs1 (L' := L_s ++ _) (perm_front (A := [_]) (List.Perm.refl _))) (L' := [_] ++ _) (perm_front (A := L_s) (List.Perm.refl _)))
 refine WL.call rfl rfl rfl (Run.call Try.call92 rfl rfl rfl) (c_impl_Scr_size _ s _ _ _ _ (St.headP hF2) o_s (St.ownP hF2) (St.nodupP hF2) ?_ ?_ ?_) ?_
 · first | (first | assumption | rfl | omega) | (assumption)
 · first | (first | assumption | rfl | omega) | (assumption)
 · first | (first | assumption | rfl | omega) | (assumption)
 rintro _ whs3 ⟨r4, L5, rfl, hs3, ho6, hd7⟩
 replace hs3 := St.lendP hF2 hs3
 refine ⟨_, rfl, ?_⟩
 refine WL.nil ?_
 refine retK0 rfl ?_
 refine ⟨r4, _, rfl, St.keepP (L1 := L5) (St.perm (St.perm hs3 (L' := L5 ++ _) (perm_front (A := [_]) (List.Perm.refl _))) (L' := [_] ++ _) (perm_front (A := L5) (List.Perm.refl _))), ho6, ?_⟩
 · exact hd7
theorem c_impl_Scr_changed_size (s : ScrR) (b_w_ : Nat) (w_ : Int) (b_h_ : Nat) (h_ : Int) (w : World) (f_s : okScrR 549755813888 w s) (f_w_ : SlF encI w (some ⟨b_w_, 0, none⟩) 1 [w_]) (f_h_ : SlF encI w (some ⟨b_h_, 0, none⟩) 1 [h_]) (hok : scrOk s.dat = true) (hs : isSize w_ h_ = true) (hsm : smScr 1048576 s.dat) :
    Calls Try.prog 90 #[.agg #[i64 s.W, i64 s.H, i64 s.Main.W, i64 s.Main.H, .slice s.Main.Cells.A s.Main.Cells.n s.Main.Cells.c, i64 s.Alt.W, i64 s.Alt.H, .slice s.Alt.Cells.A s.Alt.Cells.n s.Alt.Cells.c, .bool s.OnAlt, i64 s.X, i64 s.Y, .bool s.Wrap, i64 s.A.Fg, i64 s.A.Bg, .bool s.A.Bold, .bool s.A.Under, .bool s.A.Turn, i64 s.Top, i64 s.Bot, .bool s.NoWrap, .bool s.Hide, i64 s.SaveX, i64 s.SaveY, i64 s.SaveA.Fg, i64 s.SaveA.Bg, .bool s.SaveA.Bold, .bool s.SaveA.Under, .bool s.SaveA.Turn, .slice s.Tabs.A s.Tabs.n s.Tabs.c, i64 s.Limit, .slice s.Back.A s.Back.n s.Back.c], .func (.func 91) #[] #[.pointer (some ⟨b_w_, 0, none⟩), .pointer (some ⟨b_h_, 0, none⟩)]] w fun e w' => ∃ r L1, e = .returned (.agg #[i64 r.W, i64 r.H, i64 r.Main.W, i64 r.Main.H, .slice r.Main.Cells.A r.Main.Cells.n r.Main.Cells.c, i64 r.Alt.W, i64 r.Alt.H, .slice r.Alt.Cells.A r.Alt.Cells.n r.Alt.Cells.c, .bool r.OnAlt, i64 r.X, i64 r.Y, .bool r.Wrap, i64 r.A.Fg, i64 r.A.Bg, .bool r.A.Bold, .bool r.A.Under, .bool r.A.Turn, i64 r.Top, i64 r.Bot, .bool r.NoWrap, .bool r.Hide, i64 r.SaveX, i64 r.SaveY, i64 r.SaveA.Fg, i64 r.SaveA.Bg, .bool r.SaveA.Bold, .bool r.SaveA.Under, .bool r.SaveA.Turn, .slice r.Tabs.A r.Tabs.n r.Tabs.c, i64 r.Limit, .slice r.Back.A r.Back.n r.Back.c]) ∧ St w [] L1 w' ∧ ownScrR r L1 ∧ r.dat = scrSizeOf s.dat w_ h_ := by
 have nb_s_Main_Cells := f_s.Main.Cells_n
 have nl_s_Main_Cells := f_s.Main.Cells.len
 have nb_s_Alt_Cells := f_s.Alt.Cells_n
 have nl_s_Alt_Cells := f_s.Alt.Cells.len
 have nb_s_Tabs := f_s.Tabs_n
 have nl_s_Tabs := f_s.Tabs.len
 have nb_s_Back := f_s.Back_n
 have nl_s_Back := f_s.Back.sl.len
 have hsmB : smScr 549755813888 s.dat := smScr_mono hsm (by decide)
 refine enter (vs := [.agg #[i64 s.W, i64 s.H, i64 s.Main.W, i64 s.Main.H, .slice s.Main.Cells.A s.Main.Cells.n s.Main.Cells.c, i64 s.Alt.W, i64 s.Alt.H, .slice s.Alt.Cells.A s.Alt.Cells.n s.Alt.Cells.c, .bool s.OnAlt, i64 s.X, i64 s.Y, .bool s.Wrap, i64 s.A.Fg, i64 s.A.Bg, .bool s.A.Bold, .bool s.A.Under, .bool s.A.Turn, i64 s.Top, i64 s.Bot, .bool s.NoWrap, .bool s.Hide, i64 s.SaveX, i64 s.SaveY, i64 s.SaveA.Fg, i64 s.SaveA.Bg, .bool s.SaveA.Bold, .bool s.SaveA.Under, .bool s.SaveA.Turn, .slice s.Tabs.A s.Tabs.n s.Tabs.c, i64 s.Limit, .slice s.Back.A s.Back.n s.Back.c], .func (.func 91) #[] #[.pointer (some ⟨b_w_, 0, none⟩), .pointer (some ⟨b_h_, 0, none⟩)]]) 15 Try.func90 rfl Try.ntmps90 rfl rfl ?_
 have hs1 := St.init w
 refine WC.sr ?_
 refine WL.bx hs1 rfl (fun b2 _ hs3 => ?_)
 refine WL.al hs3 Try.zeroValue33 rfl rfl (fun b4 _ hs5 => ?_)
 refine WL.nil ?_
 refine WC.seq (fun K6 hK6 => ?_)
 refine WC.sr ?_
 refine WL.run tbk 1 hs5 [1] rfl ⟨rfl, trivial⟩ ?_
 refine WL.call rfl rfl rfl (Run.call Try.call47 rfl rfl rfl) (c_impl_ScrOk s _ (okScrR.st0 f_s hs5)) ?_
 rintro _ whs7 ⟨rfl, hs7⟩
 replace hs7 := hs5.call0 hs7
 refine ⟨_, rfl, ?_⟩
 refine WL.run tbk 1 hs7 [] rfl trivial ?_
 refine WL.nil ?_
 refine WC.cond rfl (fun h8 => ?_) (fun h8 => ?_)
 ·have qh8 := h8
  try simp only [bf, within_iff, within_not] at qh8
  exfalso; have h9 := h8; simp [hok] at h9
 ·have qh8 := h8
  try simp only [bf, within_iff, within_not] at qh8
  refine WC.skip ?_
  refine hK6 _ _ ?_
  refine WC.sr ?_
  refine WL.run tbk 1 hs7 [1] rfl ⟨rfl, trivial⟩ ?_
  refine WL.call rfl rfl rfl (Run.call Try.call149 rfl rfl rfl) (c_impl_copyScr s _ (okScrR.st0 f_s hs7) ?_) ?_
  · first | (first | assumption | rfl | omega) | (first | (assumption) | (rw [hok]; assumption))
  rintro _ whs9 ⟨r10, L1_11, rfl, hs9, ho12, hd13⟩
  replace hs9 := hs7.callF hs9
  refine ⟨_, rfl, ?_⟩
  replace hs9 := St.back [_, _] hs9
  have hcp := hd13
  refine WL.al hs9 Try.zeroValue33 rfl rfl (fun b14 _ hs15 => ?_)
  refine WL.st tbk hs15 0 rfl rfl (fun _ hs16 => ?_)
  refine WL.nil ?_
  refine WC.sr ?_
  refine WL.run tbk 1 hs16 [] rfl trivial ?_
  have hF17 : St _ _ ((_, _) :: (L1_11 ++ _)) _ := (St.perm (St.perm hs16 (L' := L1_11 ++ _) (perm_front (A := [_, _, _]) (List.Perm.refl _))) (L' := [_] ++ _) (perm_front (A := L1_11) (List.Perm.refl _)))
  refine WL.call rfl rfl rfl (Run.callC Try.call91 rfl rfl rfl) (c_impl_ScrSize_1 _ r10 _ _ _ _ _ _ (St.headP hF17) ho12 (St.ownP hF17) (SlF.st0 f_w_ hs16) (St.sepP hF17 f_w_) (SlF.st0 f_h_ hs16) (St.sepP hF17 f_h_) (St.nodupP hF17) ?_ ?_ ?_) ?_
  · first | (first | assumption | rfl | omega) | (first | (assumption) | (rw [hd13]; assumption))
  · first | (first | assumption | rfl | omega) | (first | (assumption) | (rw [hd13]; assumption))
  · first | (first | assumption | rfl | omega) | (first | (assumption) | (rw [hd13]; assumption))
  rintro _ whs18 ⟨r19, L20, rfl, hs18, ho21, hd22⟩
  replace hs18 := St.lendP hF17 hs18
  refine ⟨_, rfl, ?_⟩
  have hs23 := (St.perm (St.perm (St.perm hs18 (L' := [_] ++ _) (perm_front (A := [_]) (perm_front (A := L20) (perm_front (A := [_]) (List.Perm.refl _))))) (L' := [_] ++ _) (perm_front (A := [_, _]) (perm_front (A := L20) (List.Perm.refl _)))) (L' := [_] ++ _) (perm_front (A := [_, _]) (List.Perm.refl _)))
  refine WL.nil ?_
  refine WC.sr ?_
  refine WL.run tbk 1 hs23 [0] rfl ⟨rfl, trivial⟩ ?_
  refine WL.st tbk hs23 1 rfl rfl (fun _ hs24 => ?_)
  refine WL.nil ?_
  refine WC.ret ?_
  refine retV1 rfl (resV.cellA tbk hs24 1 rfl rfl rfl rfl) ?_
  refine ⟨r19, _, rfl, (St.keep1 (St.perm hs24 (L' := L20 ++ _) (perm_front (A := [_, _, _]) (List.Perm.refl _)))), ?_, ?_⟩
  · exact ho21
  · rw [hd22, hcp]
theorem c_impl_ScrSize (s : ScrR) (w_ : Int) (h_ : Int) (w : World) (f_s : okScrR 549755813888 w s) (hsm : smScr 1048576 s.dat) :
    Calls Try.prog 42 #[.agg #[i64 s.W, i64 s.H, i64 s.Main.W, i64 s.Main.H, .slice s.Main.Cells.A s.Main.Cells.n s.Main.Cells.c, i64 s.Alt.W, i64 s.Alt.H, .slice s.Alt.Cells.A s.Alt.Cells.n s.Alt.Cells.c, .bool s.OnAlt, i64 s.X, i64 s.Y, .bool s.Wrap, i64 s.A.Fg, i64 s.A.Bg, .bool s.A.Bold, .bool s.A.Under, .bool s.A.Turn, i64 s.Top, i64 s.Bot, .bool s.NoWrap, .bool s.Hide, i64 s.SaveX, i64 s.SaveY, i64 s.SaveA.Fg, i64 s.SaveA.Bg, .bool s.SaveA.Bold, .bool s.SaveA.Under, .bool s.SaveA.Turn, .slice s.Tabs.A s.Tabs.n s.Tabs.c, i64 s.Limit, .slice s.Back.A s.Back.n s.Back.c], i64 w_, i64 h_] w fun e w' => ∃ r0 L0, e = .returned (.tuple #[.agg #[i64 r0.W, i64 r0.H, i64 r0.Main.W, i64 r0.Main.H, .slice r0.Main.Cells.A r0.Main.Cells.n r0.Main.Cells.c, i64 r0.Alt.W, i64 r0.Alt.H, .slice r0.Alt.Cells.A r0.Alt.Cells.n r0.Alt.Cells.c, .bool r0.OnAlt, i64 r0.X, i64 r0.Y, .bool r0.Wrap, i64 r0.A.Fg, i64 r0.A.Bg, .bool r0.A.Bold, .bool r0.A.Under, .bool r0.A.Turn, i64 r0.Top, i64 r0.Bot, .bool r0.NoWrap, .bool r0.Hide, i64 r0.SaveX, i64 r0.SaveY, i64 r0.SaveA.Fg, i64 r0.SaveA.Bg, .bool r0.SaveA.Bold, .bool r0.SaveA.Under, .bool r0.SaveA.Turn, .slice r0.Tabs.A r0.Tabs.n r0.Tabs.c, i64 r0.Limit, .slice r0.Back.A r0.Back.n r0.Back.c], .bool (scrSizeOk s.dat w_ h_)]) ∧ St w [] (L0) w' ∧ ownScrR r0 L0 ∧ r0.dat = scrSizeRes s.dat w_ h_ := by
 have nb_s_Main_Cells := f_s.Main.Cells_n
 have nl_s_Main_Cells := f_s.Main.Cells.len
 have nb_s_Alt_Cells := f_s.Alt.Cells_n
 have nl_s_Alt_Cells := f_s.Alt.Cells.len
 have nb_s_Tabs := f_s.Tabs_n
 have nl_s_Tabs := f_s.Tabs.len
 have nb_s_Back := f_s.Back_n
 have nl_s_Back := f_s.Back.sl.len
 refine enter (vs := [.agg #[i64 s.W, i64 s.H, i64 s.Main.W, i64 s.Main.H, .slice s.Main.Cells.A s.Main.Cells.n s.Main.Cells.c, i64 s.Alt.W, i64 s.Alt.H, .slice s.Alt.Cells.A s.Alt.Cells.n s.Alt.Cells.c, .bool s.OnAlt, i64 s.X, i64 s.Y, .bool s.Wrap, i64 s.A.Fg, i64 s.A.Bg, .bool s.A.Bold, .bool s.A.Under, .bool s.A.Turn, i64 s.Top, i64 s.Bot, .bool s.NoWrap, .bool s.Hide, i64 s.SaveX, i64 s.SaveY, i64 s.SaveA.Fg, i64 s.SaveA.Bg, .bool s.SaveA.Bold, .bool s.SaveA.Under, .bool s.SaveA.Turn, .slice s.Tabs.A s.Tabs.n s.Tabs.c, i64 s.Limit, .slice s.Back.A s.Back.n s.Back.c], i64 w_, i64 h_]) 21 Try.func42 rfl Try.ntmps42 rfl rfl ?_
 have hs1 := St.init w
 refine WC.sr ?_
 refine WL.bx hs1 rfl (fun b2 _ hs3 => ?_)
 refine WL.bx hs3 rfl (fun b4 _ hs5 => ?_)
 refine WL.bx hs5 rfl (fun b6 _ hs7 => ?_)
 refine WL.al hs7 Try.zeroValue33 rfl rfl (fun b8 _ hs9 => ?_)
 refine WL.run tbk 1 hs9 [] rfl trivial ?_
 refine WL.nil ?_
 refine WC.seq (fun K10 hK10 => ?_)
 refine WC.sr ?_
 refine WL.run tbk 1 hs9 [3] rfl ⟨rfl, trivial⟩ ?_
 refine WL.call rfl rfl rfl (Run.call Try.call47 rfl rfl rfl) (c_impl_ScrOk s _ (okScrR.st0 f_s hs9)) ?_
 rintro _ whs11 ⟨rfl, hs11⟩
 replace hs11 := hs9.call0 hs11
 refine ⟨_, rfl, ?_⟩
 refine WL.run tbk 2 hs11 [] rfl trivial ?_
 apply WL.gO 4 Acts.nil hs11 rfl
 ·intro g12 J13
  have qg12 := g12
  try simp only [bf, within_iff, within_not] at qg12
  refine WL.runA tbk 2 (Acts.nil.cons (j := 3) rfl g12) hs11 [2, 1] rfl ⟨rfl, rfl, trivial⟩ ?_
  refine WL.call (wantF rfl g12) rfl rfl (Run.call Try.call89 rfl rfl rfl) (c_impl_isSize _ _ _) ?_
  rintro _ whs14 ⟨rfl, hs14⟩
  replace hs14 := hs11.call0 hs14
  refine ⟨_, rfl, ?_⟩
  refine WL.runA tbk 1 (Acts.nil.cons (j := 3) rfl g12) hs14 [] rfl trivial ?_
  exact WL.eO 4 Acts.nil J13 hs14 g12 rfl rfl
 ·intro _ hs15
  refine WL.nil ?_
  refine WC.cond rfl (fun h16 => ?_) (fun h16 => ?_)
  ·have qh16 := h16
   try simp only [bf, within_iff, within_not] at qh16
   have hk : scrSizeOk s.dat w_ h_ = false := by unfold scrSizeOk; have h9 := h16; revert h9; cases scrOk s.dat <;> cases isSize w_ h_ <;> simp
   refine WC.sr ?_
   refine WL.val rfl rfl rfl (Run.build rfl rfl rfl rfl (built_33)) ?_
   refine WL.st tbk hs15 0 rfl rfl (fun _ hs17 => ?_)
   refine WL.run tbk 1 hs17 [] rfl trivial ?_
   refine WL.nil ?_
   refine WC.ret ?_
   refine tkR ?_
   clear hK10
   refine retV2 rfl (resV.cellA tbk hs17 0 rfl rfl rfl rfl) (resV.tmp rfl) ?_
   have hv : scrSizeRes s.dat w_ h_ = scr0 := by unfold scrSizeRes; rw [hk]; rfl
   rw [hk]
   obtain ⟨L23, hs22, ho24⟩ := ownScrR.fold ⟨0, 0, ⟨0, 0, ⟨_, _, _, _⟩⟩, ⟨0, 0, ⟨_, _, _, _⟩⟩, false, 0, 0, false, ⟨0, 0, false, false, false⟩, 0, 0, false, false, 0, 0, ⟨0, 0, false, false, false⟩, ⟨_, _, _, _⟩, 0, ⟨_, _, _, _⟩⟩ (St.perm (St.perm (St.perm (St.perm hs17 (L' := ([] : Hp) ++ _) (perm_front (A := [_, _, _, _]) (List.Perm.refl _))) (L' := ([] : Hp) ++ _) (perm_front (A := ([] : Hp)) (perm_front (A := [_, _, _, _]) (List.Perm.refl _)))) (L' := ([] : Hp) ++ _) (perm_front (A := ([] : Hp)) (perm_front (A := ([] : Hp)) (perm_front (A := [_, _, _, _]) (List.Perm.refl _))))) (L' := ([] : Hp) ++ _) (perm_front (A := ([] : Hp)) (perm_front (A := ([] : Hp)) (perm_front (A := ([] : Hp)) (perm_front (A := [_, _, _, _]) (List.Perm.refl _)))))) (OwnF.nil _ _) (OwnF.nil _ _) (OwnF.nil _ _) (OwnN.nil _ _ _)
   have hs25 := (St.perm (St.perm (St.perm (St.perm hs22 (L' := [_] ++ _) (perm_front (A := L23) (perm_front (A := [_, _, _]) (List.Perm.refl _)))) (L' := [_] ++ _) (perm_front (A := [_]) (perm_front (A := L23) (perm_front (A := [_, _]) (List.Perm.refl _))))) (L' := [_] ++ _) (perm_front (A := [_, _]) (perm_front (A := L23) (perm_front (A := [_]) (List.Perm.refl _))))) (L' := [_] ++ _) (perm_front (A := [_, _, _]) (perm_front (A := L23) (List.Perm.refl _))))
   refine ⟨⟨0, 0, ⟨0, 0, ⟨none, 0, 0, []⟩⟩, ⟨0, 0, ⟨none, 0, 0, []⟩⟩, false, 0, 0, false, ⟨0, 0, false, false, false⟩, 0, 0, false, false, 0, 0, ⟨0, 0, false, false, false⟩, ⟨none, 0, 0, []⟩, 0, ⟨none, 0, 0, []⟩⟩, _, rfl, (St.keep1 (St.perm hs25 (L' := L23 ++ _) (perm_front (A := [_, _, _, _]) (List.Perm.refl _)))), ?_, ?_⟩
   · exact (by exact ho24)
   · rw [hv]; rfl
  ·have qh16 := h16
   try simp only [bf, within_iff, within_not] at qh16
   have hk : scrSizeOk s.dat w_ h_ = true := by unfold scrSizeOk; have h9 := h16; revert h9; cases scrOk s.dat <;> cases isSize w_ h_ <;> simp
   have hok : scrOk s.dat = true := by unfold scrSizeOk at hk; rw [Bool.and_eq_true] at hk; exact hk.1
   have hs : isSize w_ h_ = true := by unfold scrSizeOk at hk; rw [Bool.and_eq_true] at hk; exact hk.2
   refine WC.skip ?_
   refine hK10 _ _ ?_
   refine WC.sr ?_
   refine WL.run tbk 1 hs15 [3] rfl ⟨rfl, trivial⟩ ?_
   refine WL.val rfl rfl rfl (Run.makeFunc rfl rfl) ?_
   refine WL.call rfl rfl rfl (Run.call Try.call90 rfl rfl rfl) (c_impl_Scr_changed_size s _ _ _ _ _ (okScrR.st0 f_s hs15) (SlF.own1 (hs15.own _ (nthL_mem (i := 2) rfl)).1) (SlF.own1 (hs15.own _ (nthL_mem (i := 1) rfl)).1) ?_ ?_ ?_) ?_
   · first | (first | assumption | rfl | omega) | (assumption)
   · first | (first | assumption | rfl | omega) | (assumption)
   · first | (first | assumption | rfl | omega) | (assumption)
   rintro _ whs26 ⟨r27, L1_28, rfl, hs26, ho29, hd30⟩
   replace hs26 := hs15.callF hs26
   refine ⟨_, rfl, ?_⟩
   replace hs26 := St.back [_, _, _, _] hs26
   refine WL.st tbk hs26 0 rfl rfl (fun _ hs31 => ?_)
   refine WL.run tbk 1 hs31 [] rfl trivial ?_
   refine WL.nil ?_
   refine WC.ret ?_
   refine retV2 rfl (resV.cellA tbk hs31 0 rfl rfl rfl rfl) (resV.tmp rfl) ?_
   have hv : scrSizeRes s.dat w_ h_ = scrSizeOf s.dat w_ h_ := by unfold scrSizeRes; rw [hk]; rfl
   rw [hk]
   refine ⟨r27, _, rfl, (St.keep1 (St.perm hs31 (L' := L1_28 ++ _) (perm_front (A := [_, _, _, _]) (List.Perm.refl _)))), ?_, ?_⟩
   · exact ho29
   · rw [hv]; exact hd30
end Go.Proofs.Ytlmcekfdlgkffaa
