/-
  The statement: for every input the law returns true. No condition. (And what it stands on, the last part.)
-/
import Derived.Test.YtjmegoiclgancaaKW4
namespace Go.Proofs.Ytjmegoiclgancaa
open Go Go.RowKit
set_option linter.unusedVariables false
set_option linter.unusedSimpArgs false
theorem k88_ (u_0 u_1 u_2 u_3 : Value) (b_s : Nat) (s : ScrR) (L_s : Hp) (a : ActR) (w : World) (hb_s : w.heap[b_s]? = some (Obj.cells (List.toArray (u_0 :: u_1 :: u_2 :: u_3 :: [i64 s.W, i64 s.H, i64 s.Main.W, i64 s.Main.H, .slice s.Main.Cells.A s.Main.Cells.n s.Main.Cells.c, i64 s.Alt.W, i64 s.Alt.H, .slice s.Alt.Cells.A s.Alt.Cells.n s.Alt.Cells.c, .bool s.OnAlt, i64 s.X, i64 s.Y, .bool s.Wrap, i64 s.A.Fg, i64 s.A.Bg, .bool s.A.Bold, .bool s.A.Under, .bool s.A.Turn, i64 s.Top, i64 s.Bot, .bool s.NoWrap, .bool s.Hide, i64 s.SaveX, i64 s.SaveY, i64 s.SaveA.Fg, i64 s.SaveA.Bg, .bool s.SaveA.Bold, .bool s.SaveA.Under, .bool s.SaveA.Turn, .slice s.Tabs.A s.Tabs.n s.Tabs.c, i64 s.Limit, .slice s.Back.A s.Back.n s.Back.c])) 49 (0, 0))) (o_s : ownScrR s L_s) (h_s : Hh w L_s) (f_a : SlF encI w a.Args.A a.Args.n a.Args.xs) (s_a : 0 < a.Args.n → (adr a.Args.A).block ∉ (b_s :: L_s.map (·.1))) (hd_ : (b_s :: L_s.map (·.1)).Nodup) (hf : ScrFine s.dat) (hsm : smScr 1048576 s.dat) (ha : areArgs a.dat.Args = true) (han : a.Args.n ≤ 549755813888) :
    Calls Try.prog 55 #[.pointer (some ⟨b_s, 4, none⟩), .agg #[i64 a.Kind, i64 a.R, .bool a.Mark, .slice a.Args.A a.Args.n a.Args.c]] w fun e w' => ∃ r L1, e = .returned (.tuple #[]) ∧ St w (b_s :: L_s.map (·.1)) ([(b_s, Obj.cells (List.toArray (u_0 :: u_1 :: u_2 :: u_3 :: [i64 r.W, i64 r.H, i64 r.Main.W, i64 r.Main.H, .slice r.Main.Cells.A r.Main.Cells.n r.Main.Cells.c, i64 r.Alt.W, i64 r.Alt.H, .slice r.Alt.Cells.A r.Alt.Cells.n r.Alt.Cells.c, .bool r.OnAlt, i64 r.X, i64 r.Y, .bool r.Wrap, i64 r.A.Fg, i64 r.A.Bg, .bool r.A.Bold, .bool r.A.Under, .bool r.A.Turn, i64 r.Top, i64 r.Bot, .bool r.NoWrap, .bool r.Hide, i64 r.SaveX, i64 r.SaveY, i64 r.SaveA.Fg, i64 r.SaveA.Bg, .bool r.SaveA.Bold, .bool r.SaveA.Under, .bool r.SaveA.Turn, .slice r.Tabs.A r.Tabs.n r.Tabs.c, i64 r.Limit, .slice r.Back.A r.Back.n r.Back.c])) 49 (0, 0))] ++ L1) w' ∧ ownScrR r L1 ∧ r.dat = doAct s.dat a.dat := by
 have hsmB : smScr 549755813888 s.dat := by first | assumption | exact smScr_mono hsm (by decide)
 refine enter 37 Try.func55 rfl Try.ntmps55 rfl rfl ?_
 have hs1 := St.takeP w b_s _ L_s hb_s h_s hd_
 refine WC.sr (WL.bx hs1 rfl (fun b2 _ hs3 => WL.nil (WC.r1 hs3 [0] rfl (WC.block (WC.r1 hs3 [] rfl ?_)))))
 refine WC.cq rfl (fun h4 qh4 => ?_) (fun h4 qh4 => ?_)
 ·have e1 : a.Kind = 1 := by have h9 := h4; simpa using h9
  refine WC.sr (WL.r 2 hs3 [0] rfl (WL.cl Try.call48 rfl (k1_ _ _) ?_))
  rintro _ whs5 ⟨rfl, hs5⟩
  replace hs5 := hs3.call0 hs5
  refine ⟨_, rfl, WL.nil (WC.cq rfl (fun h6 qh6 => ?_) (fun h6 qh6 => ?_))⟩
  ·have hsh : shows a.dat.R = true := h6
   refine WC.region (WL.r 3 hs5 [0] rfl ?_)
   have hF7 := ((hs5.fr L_s).fb b_s)
   refine WL.cl Try.call49 rfl (k84_ _ _ _ _ _ s _ _ _ (St.headP hF7) o_s (St.ownP hF7) (St.nodupP hF7) ?_ ?_) ?_
   iterate 2 first | assumption | rfl | omega
   rintro _ whs8 ⟨r9, L10, rfl, hs8, ho11, hd12⟩
   replace hs8 := St.lendP hF7 hs8
   refine ⟨_, rfl, ?_⟩
   have hs13 := ((hs8.fb b2).fb b_s)
   refine WL.nil (ibN (retK0 rfl (⟨r9, _, rfl, St.keepP (L1 := L10) ((hs13.fr L10).fb b_s), ho11, ?_⟩)))
   · unfold doAct; rw [if_pos (show a.dat.Kind = 1 from e1), if_pos hsh]; exact hd12
  have hsh : ¬ shows a.dat.R = true := by show ¬ shows a.R = true; have h9 := h6; rw [h9]; decide
  refine WC.skip (ibN (retK0 rfl (⟨s, _, rfl, St.keepP (L1 := L_s) ((hs5.fr L_s).fb b_s), o_s, ?_⟩)))
  · unfold doAct; rw [if_pos (show a.dat.Kind = 1 from e1), if_neg hsh]
 have e1 : ¬ a.Kind = 1 := by have h9 := h4; simpa using h9
 refine WC.r1 hs3 [] rfl (WC.cq rfl (fun h14 qh14 => ?_) (fun h14 qh14 => ?_))
 ·have e2 : a.Kind = 2 := by have h9 := h14; simpa using h9
  refine WC.region (WL.r 3 hs3 [0] rfl ?_)
  have hF15 := ((hs3.fr L_s).fb b_s)
  refine WL.cl Try.call83 rfl (k87_ _ _ _ _ _ s _ _ _ (St.headP hF15) o_s (St.ownP hF15) (St.nodupP hF15) ?_ ?_) ?_
  iterate 2 first | assumption | rfl | omega
  rintro _ whs16 ⟨r17, L18, rfl, hs16, ho19, hd20⟩
  replace hs16 := St.lendP hF15 hs16
  refine ⟨_, rfl, ?_⟩
  have hs21 := ((hs16.fb b2).fb b_s)
  refine WL.nil (ibN (retK0 rfl (⟨r17, _, rfl, St.keepP (L1 := L18) ((hs21.fr L18).fb b_s), ho19, ?_⟩)))
  · unfold doAct; rw [if_neg (show ¬ a.dat.Kind = 1 from e1), if_pos (show a.dat.Kind = 2 from e2)]; exact hd20
 have e2 : ¬ a.Kind = 2 := by have h9 := h14; simpa using h9
 refine WC.r1 hs3 [] rfl (WC.cq rfl (fun h22 qh22 => ?_) (fun h22 qh22 => ?_))
 ·have e3 : a.Kind = 3 := by have h9 := h22; simpa using h9
  refine WC.region (WL.r 3 hs3 [0] rfl ?_)
  have hF23 := ((hs3.fr L_s).fb b_s)
  refine WL.cl Try.call84 rfl (k69_ _ _ _ _ _ s _ _ _ (St.headP hF23) o_s (St.ownP hF23) (St.nodupP hF23) ?_ ?_) ?_
  iterate 2 first | assumption | rfl | omega
  rintro _ whs24 ⟨r25, L26, rfl, hs24, ho27, hd28⟩
  replace hs24 := St.lendP hF23 hs24
  refine ⟨_, rfl, ?_⟩
  have hs29 := ((hs24.fb b2).fb b_s)
  refine WL.nil (ibN (retK0 rfl (⟨r25, _, rfl, St.keepP (L1 := L26) ((hs29.fr L26).fb b_s), ho27, ?_⟩)))
  · unfold doAct; rw [if_neg (show ¬ a.dat.Kind = 1 from e1), if_neg (show ¬ a.dat.Kind = 2 from e2), if_pos (show a.dat.Kind = 3 from e3)]; exact hd28
 have e3 : ¬ a.Kind = 3 := by have h9 := h22; simpa using h9
 refine WC.r1 hs3 [] rfl (WC.cq rfl (fun h30 qh30 => ?_) (fun h30 qh30 => ?_))
 ·have e4 : a.Kind = 4 := by have h9 := h30; simpa using h9
  refine WC.region (WL.r 7 hs3 [0, 0, 0] rfl ?_)
  have hF31 := ((hs3.fr L_s).fb b_s)
  refine WL.cl Try.call45 rfl (k81_ _ _ _ _ _ s _ _ _ _ _ _ _ _ (St.headP hF31) o_s (St.ownP hF31) (SlF.st f_a hs3 s_a) (St.nodupP hF31) (St.sepTP hF31 f_a s_a) ?_ ?_ ?_ ?_) ?_
  iterate 4 first | assumption | omega
  rintro _ whs32 ⟨r33, L34, rfl, hs32, ho35, hd36⟩
  replace hs32 := St.lendP hF31 hs32
  refine ⟨_, rfl, ?_⟩
  have hs37 := ((hs32.fb b2).fb b_s)
  refine WL.nil (ibN (retK0 rfl (⟨r33, _, rfl, St.keepP (L1 := L34) ((hs37.fr L34).fb b_s), ho35, ?_⟩)))
  · unfold doAct; rw [if_neg (show ¬ a.dat.Kind = 1 from e1), if_neg (show ¬ a.dat.Kind = 2 from e2), if_neg (show ¬ a.dat.Kind = 3 from e3), if_pos (show a.dat.Kind = 4 from e4)]; exact hd36
 have e4 : ¬ a.Kind = 4 := by have h9 := h30; simpa using h9
 refine WC.skip (ibN (retK0 rfl (⟨s, _, rfl, St.keepP (L1 := L_s) ((hs3.fr L_s).fb b_s), o_s, ?_⟩)))
 · unfold doAct; rw [if_neg (show ¬ a.dat.Kind = 1 from e1), if_neg (show ¬ a.dat.Kind = 2 from e2), if_neg (show ¬ a.dat.Kind = 3 from e3), if_neg (show ¬ a.dat.Kind = 4 from e4)]
theorem built_47_0_1_2_3 (x0 : Int) (x1 : Bool) (x2 : Option Addr) (x3 : Nat) (x4 : Nat) (x5 : Option Addr) (x6 : Nat) (x7 : Nat) : Try.prog.built 47 [(0, .int .i64 x0), (1, .bool x1), (2, .slice x2 x3 x4), (3, .slice x5 x6 x7)] = some (List.toArray [.int .i64 x0, .bool x1, .slice x2 x3 x4, .slice x5 x6 x7]) := by kernel_rfl
theorem k89_ (p : VpR) (w : World) (f_p : okVpR 549755813888 w p) (hsm : smVp 1048576 p.dat) :
    Calls Try.prog 81 #[.agg #[i64 p.State, .bool p.Mark, .slice p.Args.A p.Args.n p.Args.c, .slice p.Part.A p.Part.n p.Part.c]] w fun e w' => ∃ r L1, e = .returned (.agg #[i64 r.State, .bool r.Mark, .slice r.Args.A r.Args.n r.Args.c, .slice r.Part.A r.Part.n r.Part.c]) ∧ St w [] L1 w' ∧ ownVpR r L1 ∧ r.dat = p.dat := by
 have nb_p_Args := f_p.Args_n
 have nl_p_Args := f_p.Args.len
 have nb_p_Part := f_p.Part_n
 have nl_p_Part := f_p.Part.len
 have hsB : smVp 549755813888 p.dat := ⟨Nat.le_trans hsm.1 (by decide), Nat.le_trans hsm.2 (by decide)⟩
 have hsa : p.Args.xs.length ≤ 1048576 := hsm.1
 have hsp : p.Part.xs.length ≤ 1048576 := hsm.2
 refine enter 14 Try.func81 rfl Try.ntmps81 rfl rfl ?_
 have hs1 := St.init w
 refine WC.sr (WL.bx hs1 rfl (fun b2 _ hs3 => WL.al hs3 Try.zeroValue47 rfl rfl (fun b4 _ hs5 => WL.nil (WC.seq (fun K6 hK6 => WC.rH hs5.d1 hs5 (fun _ hs7 => ?_))))))
 refine WH.rn [0, 1, 2, 3, 4, 5, 7, 8] hs7.d1 [0, 0, 0, 0] rfl rfl (WH.o1 6 rfl (WL.cl Try.call93 rfl (k12_ _ _ _ _ _ (SlF.st0 f_p.Args hs7) ?_) ?_))
 · first | assumption | rfl | omega
 rintro _ whs8 ⟨A9, c10, L1_11, rfl, hs8, ho12⟩
 replace hs8 := hs7.callF hs8
 refine ⟨_, rfl, ?_⟩
 replace hs8 := St.back [_, _] hs8
 refine WL.nil ⟨(hs8.d1.rm L1_11), WH.o1 9 rfl (WL.cl Try.call115 rfl (k11_ _ _ _ _ _ (SlF.st0 f_p.Part hs8) ?_) ?_)⟩
 · first | assumption | rfl | omega
 rintro _ whs13 ⟨A14, c15, L1_16, rfl, hs13, ho17⟩
 replace hs13 := hs8.callF hs13
 refine ⟨_, rfl, ?_⟩
 replace hs13 := St.back [_, _] hs13
 refine WL.nil ⟨((hs13.d1.rm L1_16).rm L1_11), ?_⟩
 refine WH.take 10 rfl (by kernel_rfl) rfl rfl rfl ((hs13.d1.rm L1_16).rm L1_11) (fun w_ hs_ => (Run.build rfl rfl rfl rfl (built_47_0_1_2_3 _ _ _ _ _ _ _ _))) ?_
 refine WH.o1 11 rfl (WL.st tbk hs13 0 rfl rfl (fun _ hs18 => WL.nil ⟨((hs18.d1.rm L1_16).rm L1_11), WH.dn (hK6 _ _ (WC.ret (retV1 rfl (resV.cellA tbk hs18 0 rfl rfl rfl rfl) ?_)))⟩))
 obtain ⟨L20, hs19, ho21⟩ := ownVpR.fl hs18 ho12 ho17
 have hs22 := ((hs19.fb b2).fb b4)
 refine ownVpR.ret rfl (St.keep1 (hs22.fr L20)) ho21 ?_
 · exact VpD.ext' rfl rfl rfl rfl
theorem built_47 : Try.prog.built 47 [] = some (List.toArray [.int .i64 0, .bool false, .slice none 0 0, .slice none 0 0]) := by kernel_rfl
theorem built_92_0_1 (x0 : Int) (x1 : Int) : Try.prog.built 92 [(0, .int .i64 x0), (1, .int .i64 x1)] = some (List.toArray [.int .i64 x0, .int .i64 x1, .bool false, .slice none 0 0]) := by kernel_rfl
theorem built_47_3 (x0 : Option Addr) (x1 : Nat) (x2 : Nat) : Try.prog.built 47 [(3, .slice x0 x1 x2)] = some (List.toArray [.int .i64 0, .bool false, .slice none 0 0, .slice x0 x1 x2]) := by kernel_rfl
theorem built_92 : Try.prog.built 92 [] = some (List.toArray [.int .i64 0, .int .i64 0, .bool false, .slice none 0 0]) := by kernel_rfl
theorem k90_ (p : VpR) (b : Int) (w : World) (f_p : okVpR 549755813888 w p) (hn : p.Part.n ≤ 1048576) :
    Calls Try.prog 116 #[.agg #[i64 p.State, .bool p.Mark, .slice p.Args.A p.Args.n p.Args.c, .slice p.Part.A p.Part.n p.Part.c], i64 b] w fun e w' => ∃ r0 L0 r1 L1, e = .returned (.tuple #[.agg #[i64 r0.State, .bool r0.Mark, .slice r0.Args.A r0.Args.n r0.Args.c, .slice r0.Part.A r0.Part.n r0.Part.c], .agg #[i64 r1.Kind, i64 r1.R, .bool r1.Mark, .slice r1.Args.A r1.Args.n r1.Args.c]]) ∧ St w [] (L0 ++ L1) w' ∧ ownVpR r0 L0 ∧ ownActR r1 L1 ∧ r0.dat = (vpPlain p.Part.xs b).1 ∧ r1.dat = (vpPlain p.Part.xs b).2 := by
 have nb_p_Args := f_p.Args_n
 have nl_p_Args := f_p.Args.len
 have nb_p_Part := f_p.Part_n
 have nl_p_Part := f_p.Part.len
 have hpl := f_p.Part.len
 refine enter 51 Try.func116 rfl Try.ntmps116 rfl rfl ?_
 have hs1 := St.init w
 refine WC.sr (WL.bx hs1 rfl (fun b2 _ hs3 => WL.al hs3 Try.zeroValue47 rfl rfl (fun b4 _ hs5 => WL.al hs5 Try.zeroValue92 rfl rfl (fun b6 _ hs7 => WL.nil (WC.seq (fun K8 hK8 => WC.block (WC.sr ?_)))))))
 refine WL.r 3 hs7 [] rfl (WL.pO tbk 2 Acts.nil hs7 [] rfl rfl rfl rfl (fun g_ => trivial) (WL.r 1 hs7 [] rfl (WL.nil (WC.cq rfl (fun h9 qh9 => ?_) (fun h9 qh9 => ?_)))))
 ·refine WC.sr ?_
  refine WL.val rfl rfl rfl (Run.build rfl rfl rfl rfl (built_47)) (WL.r 1 hs7 [] rfl ?_)
  refine WL.val rfl rfl rfl (Run.build rfl rfl rfl rfl (built_92_0_1 _ _)) (WL.st tbk hs7 1 rfl rfl (fun _ hs10 => WL.st tbk hs10 0 rfl rfl (fun _ hs11 => WL.nil (WC.ret (ibR (tkR ?_))))))
  clear hK8
  refine retV2 rfl (resV.cellA tbk hs11 1 rfl rfl rfl rfl) (resV.cellA tbk hs11 0 rfl rfl rfl rfl) ?_
  have hv : vpPlain p.Part.xs b = (vp0, ⟨2, b, false, []⟩) := by unfold vpPlain; rw [if_pos (by simp at qh9; omega)]
  try simp only [List.nil_append] at *
  obtain ⟨L15, hs14, ho16⟩ := ownVpR.fl hs11 (OwnF.nil _ _) (OwnF.nil _ _)
  have hs17 := (((hs14.fb b2).fb b4).fb b6)
  refine ⟨⟨0, false, ⟨none, 0, 0, []⟩, ⟨none, 0, 0, []⟩⟩, _, ⟨(2), b, false, ⟨none, 0, 0, []⟩⟩, _, rfl, (St.drop ((hs17.fr ([] : Hp)).fr L15) (List.Sublist.append_left (List.sublist_append_left ([] : Hp) _) L15)), ?_, ?_, ?_, ?_⟩
  · exact (by exact ho16)
  · exact (OwnF.nil _ _)
  · rw [hv]; rfl
  · rw [hv]; rfl
 have hn1 : ¬ (b < 32 ∨ b = 127) := by simp at qh9; omega
 refine WC.r1 hs7 [] rfl (WC.cD rfl (fun qh19 => ?_) (fun qh19 => ?_))
 ·refine WC.sr ?_
  refine WL.val rfl rfl rfl (Run.build rfl rfl rfl rfl (built_47)) (WL.r 1 hs7 [] rfl ?_)
  refine WL.val rfl rfl rfl (Run.build rfl rfl rfl rfl (built_92_0_1 _ _)) (WL.st tbk hs7 1 rfl rfl (fun _ hs20 => WL.st tbk hs20 0 rfl rfl (fun _ hs21 => WL.nil (WC.ret (ibR (tkR ?_))))))
  clear hK8
  refine retV2 rfl (resV.cellA tbk hs21 1 rfl rfl rfl rfl) (resV.cellA tbk hs21 0 rfl rfl rfl rfl) ?_
  have hv : vpPlain p.Part.xs b = (vp0, ⟨1, b, false, []⟩) := by unfold vpPlain; rw [if_neg (by simp at *; omega), if_pos (by omega)]
  try simp only [List.nil_append] at *
  obtain ⟨L25, hs24, ho26⟩ := ownVpR.fl hs21 (OwnF.nil _ _) (OwnF.nil _ _)
  have hs27 := (((hs24.fb b2).fb b4).fb b6)
  refine ⟨⟨0, false, ⟨none, 0, 0, []⟩, ⟨none, 0, 0, []⟩⟩, _, ⟨(1), b, false, ⟨none, 0, 0, []⟩⟩, _, rfl, (St.drop ((hs27.fr ([] : Hp)).fr L25) (List.Sublist.append_left (List.sublist_append_left ([] : Hp) _) L25)), ?_, ?_, ?_, ?_⟩
  · exact (by exact ho26)
  · exact (OwnF.nil _ _)
  · rw [hv]; rfl
  · rw [hv]; rfl
 refine WC.skip (hK8 _ _ (WC.sr (WL.r 2 hs7 [2] rfl ?_)))
 refine WL.cl Try.call115 rfl (k11_ _ _ _ _ _ (SlF.st0 f_p.Part hs7) ?_) ?_
 · first | assumption | rfl | omega | (simp; omega)
 rintro _ whs29 ⟨A30, c31, L1_32, rfl, hs29, ho33⟩
 replace hs29 := hs7.callF hs29
 refine ⟨_, rfl, ?_⟩
 replace hs29 := St.back [_, _, _] hs29
 refine WL.r 2 hs29 [] rfl (WL.buildSlice hs29 Try.runUnderlying22 Try.sizeOf5 Try.zeroValue5 rfl rfl rfl rfl rfl rfl rfl rfl rfl rfl (fun b34 whs35 hs35 => ?_))
 refine WL.appendG (hs35.fr L1_32) ho33 (srcB1 Try.underlying22 (hs35.own _ (nthL_mem (i := 0) rfl)).1) Try.underlying22 inf5 rfl rfl rfl rfl rfl rfl rfl rfl rfl rfl ?_ (fun A39 c40 L36 whs37 hs37 ho38 => ?_)
 · first | omega | (simp; omega)
 replace hs37 := St.back [_, _, _, _] hs37
 refine WL.r 1 hs37 [] rfl (WL.nil (WC.seq (fun K41 hK41 => WC.sr (WL.r 1 hs37 [] rfl ?_))))
 refine WL.cl Try.call130 rfl (k13_ _ _ _ _ _ (SlF.ofOwn ho38 (hs37.ow L36)) (OwnF.cap ho38) ?_) ?_
 · first | assumption | rfl | omega | (simp; omega)
 rintro _ whs42 ⟨rfl, hs42⟩
 replace hs42 := hs37.call0 hs42
 refine ⟨_, rfl, WL.r 5 hs42 [] rfl (WL.nil (WC.r1 hs42 [] rfl (WC.cD rfl (fun qh43 => ?_) (fun qh43 => ?_))))⟩
 ·refine WC.sr ?_
  refine WL.val rfl rfl rfl (Run.build rfl rfl rfl rfl (built_47)) (WL.r 1 hs42 [] rfl ?_)
  refine WL.val rfl rfl rfl (Run.build rfl rfl rfl rfl (built_92_0_1 _ _)) (WL.st tbk hs42 2 rfl rfl (fun _ hs44 => WL.st tbk hs44 1 rfl rfl (fun _ hs45 => WL.nil (WC.ret (tkR ?_)))))
  clear hK41
  refine retV2 rfl (resV.cellA tbk hs45 2 rfl rfl rfl rfl) (resV.cellA tbk hs45 1 rfl rfl rfl rfl) ?_
  have hv : vpPlain p.Part.xs b = (vp0, ⟨1, rvN (runeL (p.Part.xs ++ [ub b])), false, []⟩) := by unfold vpPlain; rw [if_neg hn1, if_neg (by omega), if_pos (by simpa [← Int.ofNat_inj] using qh43)]
  try simp only [List.nil_append] at *
  obtain ⟨L49, hs48, ho50⟩ := ownVpR.fl hs45 (OwnF.nil _ _) (OwnF.nil _ _)
  have hs51 := ((((hs48.fb b2).fb b4).fb b6).fb b34)
  refine ⟨⟨0, false, ⟨none, 0, 0, []⟩, ⟨none, 0, 0, []⟩⟩, _, ⟨(1), _, false, ⟨none, 0, 0, []⟩⟩, _, rfl, (St.drop ((hs51.fr ([] : Hp)).fr L49) (List.Sublist.append_left (List.sublist_append_left ([] : Hp) _) L49)), ?_, ?_, ?_, ?_⟩
  · exact (by exact ho50)
  · exact (OwnF.nil _ _)
  · rw [hv]; rfl
  · rw [hv]; rfl
 have hn3 : ¬ rvS (runeL (p.Part.xs ++ [ub b])) = (p.Part.xs ++ [ub b]).length := by simpa [← Int.ofNat_inj] using qh43
 refine WC.skip (hK41 _ _ (WC.seq (fun K53 hK53 => WC.sr (WL.r 1 hs42 [] rfl ?_))))
 refine WL.cl Try.call85 rfl (k42_ _ _ _ _ _ (SlF.ofOwn ho38 (hs42.ow L36)) (OwnF.cap ho38) ?_) ?_
 · first | assumption | rfl | omega | (simp; omega)
 rintro _ whs54 ⟨rfl, hs54⟩
 replace hs54 := hs42.call0 hs54
 refine ⟨_, rfl, WL.nil (WC.cq rfl (fun h55 qh55 => ?_) (fun h55 qh55 => ?_))⟩
 ·refine WC.sr (WL.r 1 hs54 [] rfl ?_)
  refine WL.val rfl rfl rfl (Run.build rfl rfl rfl rfl (built_47_3 _ _ _)) ?_
  refine WL.val rfl rfl rfl (Run.build rfl rfl rfl rfl (built_92)) (WL.st tbk hs54 2 rfl rfl (fun _ hs56 => WL.st tbk hs56 1 rfl rfl (fun _ hs57 => WL.nil (WC.ret (tkR ?_)))))
  clear hK53
  refine retV2 rfl (resV.cellA tbk hs57 2 rfl rfl rfl rfl) (resV.cellA tbk hs57 1 rfl rfl rfl rfl) ?_
  have hv : vpPlain p.Part.xs b = (⟨0, false, [], p.Part.xs ++ [ub b]⟩, act0) := by unfold vpPlain; rw [if_neg hn1, if_neg (by omega), if_neg hn3, if_pos (by simpa using h55)]
  try simp only [List.nil_append] at *
  obtain ⟨L60, hs59, ho61⟩ := ownVpR.fl hs57 (OwnF.nil _ _) ho38
  have hs62 := ((((hs59.fb b2).fb b4).fb b6).fb b34)
  refine ⟨⟨0, false, ⟨none, 0, 0, []⟩, SlD.of ho38⟩, _, ⟨0, 0, false, ⟨none, 0, 0, []⟩⟩, _, rfl, (St.drop ((hs62.fr ([] : Hp)).fr L60) (List.Sublist.append_left (List.sublist_append_left ([] : Hp) _) L60)), ?_, ?_, ?_, ?_⟩
  · exact (by exact ho61)
  · exact (OwnF.nil _ _)
  · rw [hv]; rfl
  · rw [hv]; rfl
 refine WC.skip (hK53 _ _ (WC.sr ?_))
 refine WL.val rfl rfl rfl (Run.build rfl rfl rfl rfl (built_47)) ?_
 refine WL.val rfl rfl rfl (Run.build rfl rfl rfl rfl (built_92_0_1 _ _)) (WL.st tbk hs54 2 rfl rfl (fun _ hs64 => WL.st tbk hs64 1 rfl rfl (fun _ hs65 => WL.nil (WC.ret (retV2 rfl (resV.cellA tbk hs65 2 rfl rfl rfl rfl) (resV.cellA tbk hs65 1 rfl rfl rfl rfl) ?_)))))
 have hv : vpPlain p.Part.xs b = (vp0, ⟨1, 65533, false, []⟩) := by unfold vpPlain; rw [if_neg hn1, if_neg (by omega), if_neg hn3, if_neg (by simpa using h55)]
 try simp only [List.nil_append] at *
 obtain ⟨L69, hs68, ho70⟩ := ownVpR.fl hs65 (OwnF.nil _ _) (OwnF.nil _ _)
 have hs71 := ((((hs68.fb b2).fb b4).fb b6).fb b34)
 refine ⟨⟨0, false, ⟨none, 0, 0, []⟩, ⟨none, 0, 0, []⟩⟩, _, ⟨(1), (65533), false, ⟨none, 0, 0, []⟩⟩, _, rfl, (St.drop ((hs71.fr ([] : Hp)).fr L69) (List.Sublist.append_left (List.sublist_append_left ([] : Hp) _) L69)), ?_, ?_, ?_, ?_⟩
 · exact (by exact ho70)
 · exact (OwnF.nil _ _)
 · rw [hv]; rfl
 · rw [hv]; rfl
theorem k91_ (p : VpR) (d : Int) (w : World) (f_p : okVpR 549755813888 w p) (hsm : smVp 1048576 p.dat) (hok : areArgs p.dat.Args = true) (hd : 0 ≤ d ∧ d ≤ 9) :
    Calls Try.prog 131 #[.agg #[i64 p.State, .bool p.Mark, .slice p.Args.A p.Args.n p.Args.c, .slice p.Part.A p.Part.n p.Part.c], i64 d] w fun e w' => ∃ r L1, e = .returned (.agg #[i64 r.State, .bool r.Mark, .slice r.Args.A r.Args.n r.Args.c, .slice r.Part.A r.Part.n r.Part.c]) ∧ St w [] L1 w' ∧ ownVpR r L1 ∧ r.dat = vpDigit p.dat d := by
 have nb_p_Args := f_p.Args_n
 have nl_p_Args := f_p.Args.len
 have nb_p_Part := f_p.Part_n
 have nl_p_Part := f_p.Part.len
 have hsB : smVp 549755813888 p.dat := ⟨Nat.le_trans hsm.1 (by decide), Nat.le_trans hsm.2 (by decide)⟩
 have hsa : p.Args.xs.length ≤ 1048576 := hsm.1
 have hsp : p.Part.xs.length ≤ 1048576 := hsm.2
 refine enter 32 Try.func131 rfl Try.ntmps131 rfl rfl ?_
 have hs1 := St.init w
 refine WC.sr (WL.bx hs1 rfl (fun b2 _ hs3 => WL.al hs3 Try.zeroValue47 rfl rfl (fun b4 _ hs5 => WL.nil (WC.sr (WL.r 1 hs5 [1] rfl ?_)))))
 refine WL.cl Try.call81 rfl (k89_ p _ (okVpR.st0 f_p hs5) ?_) ?_
 · first | assumption | rfl | omega
 rintro _ whs6 ⟨r7, L1_8, rfl, hs6, ho9, hd10⟩
 replace hs6 := hs5.callF hs6
 refine ⟨_, rfl, ?_⟩
 replace hs6 := St.back [_, _] hs6
 have hlr := ownVpR.len ho9
 have hxr : r7.Args.xs = p.Args.xs := congrArg VpD.Args hd10
 have hpr : r7.Part.xs = p.Part.xs := congrArg VpD.Part hd10
 have hxp : p.dat.Args = p.Args.xs := rfl
 have hlx : r7.Args.xs.length = p.Args.xs.length := by rw [hxr]
 have hly : r7.Part.xs.length = p.Part.xs.length := by rw [hpr]
 refine WL.al hs6 Try.zeroValue47 rfl rfl (fun b11 _ hs12 => WL.st tbk hs12 0 rfl rfl (fun _ hs13 => WL.nil (WC.seq (fun K14 hK14 => WC.r1 hs13 [0] rfl ?_))))
 refine WC.cD rfl (fun qh15 => ?_) (fun qh15 => ?_)
 ·have gb : gat encI [0] ((([0] : List Int).length : Int) - 1).toNat = 0 := rfl
  refine WC.region (WL.buildF (F := encI) hs13 ([0]) Try.runUnderlying28 Try.sizeOf3 Try.zeroValue3 rfl rfl rfl rfl rfl rfl rfl rfl rfl rfl rfl rfl (fun A19 c20 L16 whs17 hs17 ho18 => ?_))
  replace hs17 := St.back [_, _, _] hs17
  refine WL.r 1 hs17 [] rfl (WL.st tbk hs17 0 rfl rfl (fun _ hs21 => WL.nil (hK14 _ _ (WC.sr ?_))))
  refine WL.run tbk 6 hs21 [0, 0] rfl ⟨by first | omega | (simp; done) | (simp; omega) | omega, rfl, rfl, trivial⟩ (WL.val rfl rfl rfl (Run.idx Try.runUnderlying28 Try.sizeOf3 rfl rfl rfl ?_ ?_ ?_) ?_)
  · exact SlF.some_ (SlF.ofOwn ho18 (hs21.ow L16))
  · first | omega | (simp; done) | (simp; omega) | omega
  · first | omega | (simp; done) | (simp; omega) | omega
  refine WL.r 1 hs21 [] rfl (WL.nil (WC.sr (WL.r 3 hs21 [] rfl (WL.val rfl rfl rfl (Run.load Try.isAgg3 rfl rfl (SlF.one1 (SlF.ofOwn ho18 (hs21.ow L16)) ?_ rfl)) ?_))))
  · first | omega | (simp; done) | (simp; omega) | omega
  refine WL.run tbk 5 hs21 [] rfl ⟨by first | omega | (simp; done) | (simp; omega) | omega, by first | omega | (simp; done) | (simp; omega) | omega, trivial⟩ (WL.storeF1 (x' := _) (hs21.fr L16) ho18 Try.sizeOf3 rfl rfl rfl rfl rfl rfl rfl rfl rfl ?_ rfl (fun L22 whs23 hs23 ho24 _ => ?_))
  · first | omega | (simp; done) | (simp; omega) | omega
  replace hs23 := St.back [_, _, _] hs23
  refine WL.nil (WC.sr (WL.r 1 hs23 [0] rfl (WL.st tbk hs23 1 rfl rfl (fun _ hs25 => WL.nil (WC.ret (retV1 rfl (resV.cellA tbk hs25 1 rfl rfl rfl rfl) ?_))))))
  obtain ⟨L26, L27, hs30, ho28, ho29⟩ := ownVpR.op hs25 ho9
  have hs31 := (((hs30.fb b2).fb b4).fb b11)
  obtain ⟨L33, hs32, ho34⟩ := ownVpR.fl hs31 ho24 ho29
  have hs35 := (((hs32.fb b2).fb b4).fb b11)
  refine ownVpR.ret rfl (St.keep1 (hs35.fr L33)) ho34 ?_
  · show VpD.mk r7.State r7.Mark _ r7.Part.xs = _
    rw [← hd10, vpDigit_A (show r7.dat.Args.length = 0 from (by omega : r7.Args.xs.length = 0))]; rfl
 have gb := areArgs_gat (k := ((r7.Args.n : Int) - 1).toNat) hok (by rw [hxp, ← hxr]; omega)
 rw [hxp, ← hxr] at gb
 refine WC.skip (hK14 _ _ (WC.sr ?_))
 refine WL.run tbk 6 hs13 [0, 0] rfl ⟨by first | omega | (simp; done) | (simp; omega) | omega, rfl, rfl, trivial⟩ (WL.val rfl rfl rfl (Run.idx Try.runUnderlying28 Try.sizeOf3 rfl rfl rfl ?_ ?_ ?_) ?_)
 · exact SlF.some_ (ownVpR.ok (B := 549755813888) ho9 (hs13.ow L1_8) (by rw [hd10]; assumption)).Args
 · first | omega | (simp; done) | (simp; omega) | omega
 · first | omega | (simp; done) | (simp; omega) | omega
 refine WL.r 1 hs13 [] rfl (WL.nil (WC.sr (WL.r 3 hs13 [] rfl ?_)))
 refine WL.val rfl rfl rfl (Run.load Try.isAgg3 rfl rfl (SlF.one1 (ownVpR.ok (B := 549755813888) ho9 (hs13.ow L1_8) (by rw [hd10]; assumption)).Args ?_ rfl)) ?_
 · first | omega | (simp; done) | (simp; omega) | omega
 refine WL.run tbk 5 hs13 [] rfl ⟨by first | omega | (simp; done) | (simp; omega) | omega, by first | omega | (simp; done) | (simp; omega) | omega, trivial⟩ ?_
 obtain ⟨L36, L37, hs40, ho38, ho39⟩ := ownVpR.op hs13 ho9
 have hs41 := (((hs40.fb b2).fb b4).fb b11)
 refine WL.storeF1 (x' := _) (hs41.fr L36) ho38 Try.sizeOf3 rfl rfl rfl rfl rfl rfl rfl rfl rfl ?_ rfl (fun L42 whs43 hs43 ho44 _ => ?_)
 · first | omega | (simp; done) | (simp; omega) | omega
 replace hs43 := St.back [_, _, _] hs43
 refine WL.nil (WC.sr (WL.r 1 hs43 [0] rfl (WL.st tbk hs43 1 rfl rfl (fun _ hs45 => WL.nil (WC.ret (retV1 rfl (resV.cellA tbk hs45 1 rfl rfl rfl rfl) ?_))))))
 obtain ⟨L47, hs46, ho48⟩ := ownVpR.fl hs45 ho44 ho39
 have hs49 := (((hs46.fb b2).fb b4).fb b11)
 refine ownVpR.ret rfl (St.keep1 (hs49.fr L47)) ho48 ?_
 · show VpD.mk r7.State r7.Mark (r7.Args.xs.set ((r7.Args.n : Int) - 1).toNat (min 9999 (10 * gat encI r7.Args.xs ((r7.Args.n : Int) - 1).toNat + d))) r7.Part.xs = _
   rw [← hd10, vpDigit_B (show ¬ r7.dat.Args.length = 0 from (by omega : ¬ r7.Args.xs.length = 0)), show ((r7.Args.n : Int) - 1).toNat = r7.Args.xs.length - 1 by omega]; rfl
theorem k92_ (p : VpR) (w : World) (f_p : okVpR 549755813888 w p) (hsm : smVp 1048576 p.dat) (hok : areArgs p.dat.Args = true) :
    Calls Try.prog 132 #[.agg #[i64 p.State, .bool p.Mark, .slice p.Args.A p.Args.n p.Args.c, .slice p.Part.A p.Part.n p.Part.c]] w fun e w' => ∃ r L1, e = .returned (.agg #[i64 r.State, .bool r.Mark, .slice r.Args.A r.Args.n r.Args.c, .slice r.Part.A r.Part.n r.Part.c]) ∧ St w [] L1 w' ∧ ownVpR r L1 ∧ r.dat = vpNext p.dat := by
 have nb_p_Args := f_p.Args_n
 have nl_p_Args := f_p.Args.len
 have nb_p_Part := f_p.Part_n
 have nl_p_Part := f_p.Part.len
 have hsB : smVp 549755813888 p.dat := ⟨Nat.le_trans hsm.1 (by decide), Nat.le_trans hsm.2 (by decide)⟩
 have hsa : p.Args.xs.length ≤ 1048576 := hsm.1
 have hsp : p.Part.xs.length ≤ 1048576 := hsm.2
 refine enter 27 Try.func132 rfl Try.ntmps132 rfl rfl ?_
 have hs1 := St.init w
 refine WC.sr (WL.bx hs1 rfl (fun b2 _ hs3 => WL.al hs3 Try.zeroValue47 rfl rfl (fun b4 _ hs5 => WL.nil (WC.sr (WL.r 1 hs5 [1] rfl ?_)))))
 refine WL.cl Try.call81 rfl (k89_ p _ (okVpR.st0 f_p hs5) ?_) ?_
 · first | assumption | rfl | omega
 rintro _ whs6 ⟨r7, L1_8, rfl, hs6, ho9, hd10⟩
 replace hs6 := hs5.callF hs6
 refine ⟨_, rfl, ?_⟩
 replace hs6 := St.back [_, _] hs6
 have hlr := ownVpR.len ho9
 have hxr : r7.Args.xs = p.Args.xs := congrArg VpD.Args hd10
 have hpr : r7.Part.xs = p.Part.xs := congrArg VpD.Part hd10
 have hxp : p.dat.Args = p.Args.xs := rfl
 have hlx : r7.Args.xs.length = p.Args.xs.length := by rw [hxr]
 have hly : r7.Part.xs.length = p.Part.xs.length := by rw [hpr]
 refine WL.al hs6 Try.zeroValue47 rfl rfl (fun b11 _ hs12 => WL.st tbk hs12 0 rfl rfl (fun _ hs13 => WL.nil (WC.seq (fun K14 hK14 => WC.r1 hs13 [0] rfl ?_))))
 refine WC.cD rfl (fun qh15 => ?_) (fun qh15 => ?_)
 ·refine WC.region (WL.buildF (F := encI) hs13 ([0]) Try.runUnderlying28 Try.sizeOf3 Try.zeroValue3 rfl rfl rfl rfl rfl rfl rfl rfl rfl rfl rfl rfl (fun A19 c20 L16 whs17 hs17 ho18 => ?_))
  replace hs17 := St.back [_, _, _] hs17
  refine WL.r 1 hs17 [] rfl (WL.st tbk hs17 0 rfl rfl (fun _ hs21 => WL.nil (hK14 _ _ (WC.seq (fun K22 hK22 => WC.sr (WL.r 2 hs21 [0] rfl (WL.buildSlice hs21 Try.runUnderlying28 Try.sizeOf3 Try.zeroValue3 rfl rfl rfl rfl rfl rfl rfl rfl rfl rfl (fun b23 whs24 hs24 => ?_))))))))
  refine WL.appendG (hs24.fr L16) ho18 (srcI1 Try.underlying28 (hs24.own _ (nthL_mem (i := 0) rfl)).1) Try.underlying28 inf3 rfl rfl rfl rfl rfl rfl rfl rfl rfl rfl ?_ (fun A28 c29 L25 whs26 hs26 ho27 => ?_)
  · first | omega | (simp; done) | (simp; omega) | omega
  replace hs26 := St.back [_, _, _, _] hs26
  refine WL.r 1 hs26 [] rfl (WL.st tbk hs26 1 rfl rfl (fun _ hs30 => WL.nil (WC.r1 hs30 [1] rfl ?_)))
  refine WC.cD rfl (fun qh31 => ?_) (fun qh31 => ?_)
  ·refine WC.rH (hs30.fb b11).d1 hs30 (fun _ hs32 => ?_)
   refine WH.rn [0] (hs32.fb b11).d1 [] rfl rfl (WH.o1 1 rfl (WL.r 1 hs32 [1] rfl (WL.nil ⟨(hs32.fb b11).d1, ?_⟩)))
   have ho33 := OwnF.take (k := 8) ho27 (by first | omega | (simp at *; done) | (simp at *; omega) | omega)
   have hcho33 := OwnF.cap ho33
   refine WH.take 2 rfl (by kernel_rfl) rfl rfl rfl (hs32.fb b11).d1 (fun w_ hs_ => (Run.sliceH0 (8) Try.runUnderlying28 Try.sizeOf3 rfl rfl rfl ?_ ?_)) ?_
   · first | rfl | (first | omega | (simp at *; done) | (simp at *; omega) | omega)
   · first | (exact Nat.zero_le _) | (first | omega | (simp at *; done) | (simp at *; omega) | omega)
   refine WH.rn [3] (hs32.fb b11).d1 [] rfl rfl (WH.o1 4 rfl (WL.st tbk hs32 1 rfl rfl (fun _ hs34 => WL.nil ⟨(hs34.fb b11).d1, WH.rn [5] (hs34.fb b11).d1 [] rfl rfl (WH.o1 6 rfl (WL.st tbk hs34 1 rfl rfl (fun _ hs35 => WL.nil ⟨(hs35.fb b11).d1, ?_⟩)))⟩)))
   refine WH.dn (hK22 _ _ (WC.sr (WL.r 1 hs35 [1] rfl (WL.st tbk hs35 2 rfl rfl (fun _ hs36 => WL.nil (WC.ret (retV1 rfl (resV.cellA tbk hs36 2 rfl rfl rfl rfl) ?_)))))))
   obtain ⟨L37, L38, hs41, ho39, ho40⟩ := ownVpR.op hs36 ho9
   have hs42 := ((((hs41.fb b2).fb b4).fb b11).fb b23)
   obtain ⟨L44, hs43, ho45⟩ := ownVpR.fl hs42 ho33 ho40
   have hs46 := ((((hs43.fb b2).fb b4).fb b11).fb b23)
   refine ownVpR.ret rfl (St.keep1 (hs46.fr L44)) ho45 ?_
   · exfalso; simp at qh31
  refine WC.skip (hK22 _ _ (WC.sr (WL.r 1 hs30 [1] rfl (WL.st tbk hs30 2 rfl rfl (fun _ hs47 => WL.nil (WC.ret (retV1 rfl (resV.cellA tbk hs47 2 rfl rfl rfl rfl) ?_)))))))
  obtain ⟨L48, L49, hs52, ho50, ho51⟩ := ownVpR.op hs47 ho9
  have hs53 := ((((hs52.fb b2).fb b4).fb b11).fb b23)
  obtain ⟨L55, hs54, ho56⟩ := ownVpR.fl hs53 ho27 ho51
  have hs57 := ((((hs54.fb b2).fb b4).fb b11).fb b23)
  refine ownVpR.ret rfl (St.keep1 (hs57.fr L55)) ho56 ?_
  · show VpD.mk r7.State r7.Mark _ r7.Part.xs = _
    rw [← hd10, vpNext_A (show r7.dat.Args.length = 0 from (by omega : r7.Args.xs.length = 0))]; rfl
 refine WC.skip (hK14 _ _ (WC.seq (fun K58 hK58 => WC.sr (WL.r 2 hs13 [0] rfl (WL.buildSlice hs13 Try.runUnderlying28 Try.sizeOf3 Try.zeroValue3 rfl rfl rfl rfl rfl rfl rfl rfl rfl rfl (fun b59 whs60 hs60 => ?_))))))
 obtain ⟨L61, L62, hs65, ho63, ho64⟩ := ownVpR.op hs60 ho9
 have hs66 := ((((hs65.fb b2).fb b4).fb b11).fb b59)
 refine WL.appendG (hs66.fr L61) ho63 (srcI1 Try.underlying28 (hs66.own _ (nthL_mem (i := 0) rfl)).1) Try.underlying28 inf3 rfl rfl rfl rfl rfl rfl rfl rfl rfl rfl ?_ (fun A70 c71 L67 whs68 hs68 ho69 => ?_)
 · first | omega | (simp; done) | (simp; omega) | omega
 replace hs68 := St.back [_, _, _, _] hs68
 refine WL.r 1 hs68 [] rfl (WL.st tbk hs68 1 rfl rfl (fun _ hs72 => WL.nil (WC.r1 hs72 [1] rfl ?_)))
 refine WC.cD rfl (fun qh73 => ?_) (fun qh73 => ?_)
 ·refine WC.rH (hs72.fb b11).d1 hs72 (fun _ hs74 => ?_)
  refine WH.rn [0] (hs74.fb b11).d1 [] rfl rfl (WH.o1 1 rfl (WL.r 1 hs74 [1] rfl (WL.nil ⟨(hs74.fb b11).d1, ?_⟩)))
  have ho75 := OwnF.take (k := 8) ho69 (by first | omega | (simp at *; done) | (simp at *; omega) | omega)
  have hcho75 := OwnF.cap ho75
  refine WH.take 2 rfl (by kernel_rfl) rfl rfl rfl (hs74.fb b11).d1 (fun w_ hs_ => (Run.sliceH0 (8) Try.runUnderlying28 Try.sizeOf3 rfl rfl rfl ?_ ?_)) ?_
  · first | rfl | (first | omega | (simp at *; done) | (simp at *; omega) | omega)
  · first | (exact Nat.zero_le _) | (first | omega | (simp at *; done) | (simp at *; omega) | omega)
  refine WH.rn [3] (hs74.fb b11).d1 [] rfl rfl (WH.o1 4 rfl (WL.st tbk hs74 1 rfl rfl (fun _ hs76 => WL.nil ⟨(hs76.fb b11).d1, WH.rn [5] (hs76.fb b11).d1 [] rfl rfl (WH.o1 6 rfl (WL.st tbk hs76 1 rfl rfl (fun _ hs77 => WL.nil ⟨(hs77.fb b11).d1, ?_⟩)))⟩)))
  refine WH.dn (hK58 _ _ (WC.sr (WL.r 1 hs77 [1] rfl (WL.st tbk hs77 2 rfl rfl (fun _ hs78 => WL.nil (WC.ret (retV1 rfl (resV.cellA tbk hs78 2 rfl rfl rfl rfl) ?_)))))))
  obtain ⟨L80, hs79, ho81⟩ := ownVpR.fl hs78 ho75 ho64
  have hs82 := ((((hs79.fb b2).fb b4).fb b11).fb b59)
  refine ownVpR.ret rfl (St.keep1 (hs82.fr L80)) ho81 ?_
  · show VpD.mk 3 r7.Mark _ r7.Part.xs = _
    rw [← hd10, vpNext_C (show 8 < r7.dat.Args.length + 1 from (by simp at qh73; omega : 8 < r7.Args.xs.length + 1))]; rfl
 refine WC.skip (hK58 _ _ (WC.sr (WL.r 1 hs72 [1] rfl (WL.st tbk hs72 2 rfl rfl (fun _ hs83 => WL.nil (WC.ret (retV1 rfl (resV.cellA tbk hs83 2 rfl rfl rfl rfl) ?_)))))))
 obtain ⟨L85, hs84, ho86⟩ := ownVpR.fl hs83 ho69 ho64
 have hs87 := ((((hs84.fb b2).fb b4).fb b11).fb b59)
 refine ownVpR.ret rfl (St.keep1 (hs87.fr L85)) ho86 ?_
 · show VpD.mk r7.State r7.Mark _ r7.Part.xs = _
   rw [← hd10, vpNext_B (show ¬ r7.dat.Args.length = 0 from (by omega : ¬ r7.Args.xs.length = 0)) (show r7.dat.Args.length + 1 ≤ 8 from (by simp at qh73; omega : r7.Args.xs.length + 1 ≤ 8))]; rfl
theorem built_92_0_1_2_3 (x0 : Int) (x1 : Int) (x2 : Bool) (x3 : Option Addr) (x4 : Nat) (x5 : Nat) : Try.prog.built 92 [(0, .int .i64 x0), (1, .int .i64 x1), (2, .bool x2), (3, .slice x3 x4 x5)] = some (List.toArray [.int .i64 x0, .int .i64 x1, .bool x2, .slice x3 x4 x5]) := by kernel_rfl
theorem built_47_0 (x0 : Int) : Try.prog.built 47 [(0, .int .i64 x0)] = some (List.toArray [.int .i64 x0, .bool false, .slice none 0 0, .slice none 0 0]) := by kernel_rfl
theorem k93_ (p : VpR) (b : Int) (w : World) (f_p : okVpR 549755813888 w p) (hsm : smVp 1048576 p.dat) (hok : areArgs p.dat.Args = true) (hb : 0 ≤ b ∧ b ≤ 255) :
    Calls Try.prog 117 #[.agg #[i64 p.State, .bool p.Mark, .slice p.Args.A p.Args.n p.Args.c, .slice p.Part.A p.Part.n p.Part.c], i64 b] w fun e w' => ∃ r0 L0 r1 L1, e = .returned (.tuple #[.agg #[i64 r0.State, .bool r0.Mark, .slice r0.Args.A r0.Args.n r0.Args.c, .slice r0.Part.A r0.Part.n r0.Part.c], .agg #[i64 r1.Kind, i64 r1.R, .bool r1.Mark, .slice r1.Args.A r1.Args.n r1.Args.c]]) ∧ St w [] (L0 ++ L1) w' ∧ ownVpR r0 L0 ∧ ownActR r1 L1 ∧ r0.dat = (vpCsi p.dat b).1 ∧ r1.dat = (vpCsi p.dat b).2 := by
 have nb_p_Args := f_p.Args_n
 have nl_p_Args := f_p.Args.len
 have nb_p_Part := f_p.Part_n
 have nl_p_Part := f_p.Part.len
 have hsB : smVp 549755813888 p.dat := ⟨Nat.le_trans hsm.1 (by decide), Nat.le_trans hsm.2 (by decide)⟩
 have hsa : p.Args.xs.length ≤ 1048576 := hsm.1
 have hsp : p.Part.xs.length ≤ 1048576 := hsm.2
 have hal := f_p.Args.len
 refine enter 63 Try.func117 rfl Try.ntmps117 rfl rfl ?_
 have hs1 := St.init w
 refine WC.sr (WL.bx hs1 rfl (fun b2 _ hs3 => WL.al hs3 Try.zeroValue47 rfl rfl (fun b4 _ hs5 => WL.al hs5 Try.zeroValue92 rfl rfl (fun b6 _ hs7 => WL.nil (WC.sr (WL.r 1 hs7 [2] rfl ?_))))))
 refine WL.cl Try.call81 rfl (k89_ p _ (okVpR.st0 f_p hs7) ?_) ?_
 · first | assumption | rfl | omega | (simp; omega)
 rintro _ whs8 ⟨r9, L1_10, rfl, hs8, ho11, hd12⟩
 replace hs8 := hs7.callF hs8
 refine ⟨_, rfl, ?_⟩
 replace hs8 := St.back [_, _, _] hs8
 have hlr := ownVpR.len ho11
 have hxr : r9.Args.xs = p.Args.xs := congrArg VpD.Args hd12
 have hpr : r9.Part.xs = p.Part.xs := congrArg VpD.Part hd12
 have hxp : p.dat.Args = p.Args.xs := rfl
 have hlx : r9.Args.xs.length = p.Args.xs.length := by rw [hxr]
 have hly : r9.Part.xs.length = p.Part.xs.length := by rw [hpr]
 skip
 refine WL.al hs8 Try.zeroValue47 rfl rfl (fun b13 _ hs14 => WL.st tbk hs14 0 rfl rfl (fun _ hs15 => WL.nil (WC.seq (fun K16 hK16 => WC.block (WC.sr (WL.r 3 hs15 [] rfl (WL.pA tbk 4 Acts.nil hs15 [3] rfl rfl rfl rfl (fun g_ => ⟨rfl, trivial⟩) ?_)))))))
 refine WL.r 1 hs15 [] rfl (WL.pA tbk 3 Acts.nil hs15 [3] rfl rfl rfl rfl (fun g_ => ⟨rfl, trivial⟩) (WL.r 1 hs15 [] rfl (WL.nil (WC.cq rfl (fun h17 qh17 => ?_) (fun h17 qh17 => ?_)))))
 ·have hc1 : (b = 63 ∧ p.dat.Args.length = 0) ∧ p.dat.Mark = false := by show (b = 63 ∧ p.Args.xs.length = 0) ∧ p.Mark = false; simp at qh17; exact ⟨⟨qh17.1.1, by omega⟩, qh17.2⟩
  refine WC.sr (WL.r 1 hs15 [] rfl (WL.st tbk hs15 0 rfl rfl (fun _ hs18 => WL.nil (WC.sr (WL.r 1 hs18 [0] rfl ?_)))))
  refine WL.val rfl rfl rfl (Run.build rfl rfl rfl rfl (built_92)) (WL.st tbk hs18 2 rfl rfl (fun _ hs19 => WL.st tbk hs19 1 rfl rfl (fun _ hs20 => WL.nil (WC.ret (ibR (tkR ?_))))))
  clear hK16
  refine retV2 rfl (resV.cellA tbk hs20 2 rfl rfl rfl rfl) (resV.cellA tbk hs20 1 rfl rfl rfl rfl) ?_
  have hv : vpCsi p.dat b = ({ p.dat with Mark := true }, act0) := by unfold vpCsi; rw [if_pos hc1]
  obtain ⟨L21, L22, hs25, ho23, ho24⟩ := ownVpR.op hs20 ho11
  have hs26 := ((((hs25.fb b2).fb b4).fb b6).fb b13)
  obtain ⟨L28, hs27, ho29⟩ := ownVpR.fl hs26 ho23 ho24
  have hs30 := ((((hs27.fb b2).fb b4).fb b6).fb b13)
  refine ⟨⟨r9.State, true, SlD.of ho23, SlD.of ho24⟩, _, ⟨0, 0, false, ⟨none, 0, 0, []⟩⟩, _, rfl, (St.drop ((hs30.fr ([] : Hp)).fr L28) (List.Sublist.append_left (List.sublist_append_left ([] : Hp) _) L28)), ?_, ?_, ?_, ?_⟩
  · exact (by exact ho29)
  · exact (OwnF.nil _ _)
  · rw [hv, ← hd12]; rfl
  · rw [hv]; first | exact rfl | rfl
 have hc1 : ¬ ((b = 63 ∧ p.dat.Args.length = 0) ∧ p.dat.Mark = false) := by show ¬ ((b = 63 ∧ p.Args.xs.length = 0) ∧ p.Mark = false); rintro ⟨⟨h1, h2⟩, h3⟩; rw [h3] at qh17; simp at qh17; omega
 refine WC.sr (WL.r 1 hs15 [] rfl (WL.cl Try.call33 rfl (k0_ _ _ _ _) ?_))
 rintro _ whs32 ⟨rfl, hs32⟩
 replace hs32 := hs15.call0 hs32
 refine ⟨_, rfl, WL.r 1 hs32 [] rfl (WL.nil (WC.cq rfl (fun h33 qh33 => ?_) (fun h33 qh33 => ?_)))⟩
 ·have hc2 : 48 ≤ b ∧ b ≤ 57 := by first | omega | (simp at qh33; omega)
  refine WC.sr (WL.r 3 hs32 [3] rfl (WL.cl Try.call131 rfl (k91_ p _ _ (okVpR.st0 f_p hs32) ?_ ?_ ?_) ?_))
  iterate 3 first | assumption | rfl | omega | (simp; omega)
  rintro _ whs34 ⟨r35, L1_36, rfl, hs34, ho37, hd38⟩
  replace hs34 := hs32.callF hs34
  refine ⟨_, rfl, ?_⟩
  replace hs34 := St.back [_, _, _, _] hs34
  refine WL.val rfl rfl rfl (Run.build rfl rfl rfl rfl (built_92)) (WL.st tbk hs34 2 rfl rfl (fun _ hs39 => WL.st tbk hs39 1 rfl rfl (fun _ hs40 => WL.nil (WC.ret (ibR (tkR ?_))))))
  clear hK16
  refine retV2 rfl (resV.cellA tbk hs40 2 rfl rfl rfl rfl) (resV.cellA tbk hs40 1 rfl rfl rfl rfl) ?_
  have hv : vpCsi p.dat b = (vpDigit p.dat (b - 48), act0) := by unfold vpCsi; rw [if_neg hc1, if_pos hc2]
  refine ⟨r35, _, ⟨0, 0, false, ⟨none, 0, 0, []⟩⟩, _, rfl, (St.drop ((hs40.fr ([] : Hp)).fr L1_36) (List.Sublist.append_left (List.sublist_append_left ([] : Hp) _) L1_36)), ?_, ?_, ?_, ?_⟩
  · exact ho37
  · exact (OwnF.nil _ _)
  · rw [hv]; first | exact hd38 | rfl
  · rw [hv]; first | exact rfl | rfl
 have hc2 : ¬ (48 ≤ b ∧ b ≤ 57) := by first | omega | (simp at qh33; omega)
 refine WC.r1 hs32 [] rfl (WC.cD rfl (fun qh42 => ?_) (fun qh42 => ?_))
 ·have hc3 : b = 59 := by first | omega | (simp at qh42; omega)
  refine WC.sr (WL.r 1 hs32 [3] rfl (WL.cl Try.call132 rfl (k92_ p _ (okVpR.st0 f_p hs32) ?_ ?_) ?_))
  iterate 2 first | assumption | rfl | omega | (simp; omega)
  rintro _ whs43 ⟨r44, L1_45, rfl, hs43, ho46, hd47⟩
  replace hs43 := hs32.callF hs43
  refine ⟨_, rfl, ?_⟩
  replace hs43 := St.back [_, _, _, _] hs43
  refine WL.val rfl rfl rfl (Run.build rfl rfl rfl rfl (built_92)) (WL.st tbk hs43 2 rfl rfl (fun _ hs48 => WL.st tbk hs48 1 rfl rfl (fun _ hs49 => WL.nil (WC.ret (ibR (tkR ?_))))))
  clear hK16
  refine retV2 rfl (resV.cellA tbk hs49 2 rfl rfl rfl rfl) (resV.cellA tbk hs49 1 rfl rfl rfl rfl) ?_
  have hv : vpCsi p.dat b = (vpNext p.dat, act0) := by unfold vpCsi; rw [if_neg hc1, if_neg hc2, if_pos hc3]
  refine ⟨r44, _, ⟨0, 0, false, ⟨none, 0, 0, []⟩⟩, _, rfl, (St.drop ((hs49.fr ([] : Hp)).fr L1_45) (List.Sublist.append_left (List.sublist_append_left ([] : Hp) _) L1_45)), ?_, ?_, ?_, ?_⟩
  · exact ho46
  · exact (OwnF.nil _ _)
  · rw [hv]; first | exact hd47 | rfl
  · rw [hv]; first | exact rfl | rfl
 have hc3 : ¬ (b = 59) := by first | omega | (simp at qh42; omega)
 refine WC.sr (WL.r 1 hs32 [] rfl (WL.cl Try.call33 rfl (k0_ _ _ _ _) ?_))
 rintro _ whs51 ⟨rfl, hs51⟩
 replace hs51 := hs32.call0 hs51
 refine ⟨_, rfl, WL.r 1 hs51 [] rfl (WL.nil (WC.cq rfl (fun h52 qh52 => ?_) (fun h52 qh52 => ?_)))⟩
 ·have hc4 : 64 ≤ b ∧ b ≤ 126 := by first | omega | (simp at qh52; omega)
  refine WC.seq (fun K53 hK53 => WC.rH ((hs51.fb b6).d1.fb b4).d1 hs51 (fun _ hs54 => ?_))
  refine WH.take 0 rfl (by kernel_rfl) rfl rfl rfl ((hs54.fb b6).d1.fb b4).d1 (fun w_ hs_ => (Run.build rfl rfl rfl rfl (built_47))) ?_
  refine WH.rn [1, 2, 3, 4, 5] ((hs54.fb b6).d1.fb b4).d1 [1, 0] rfl rfl ?_
  refine WH.take 6 rfl (by kernel_rfl) rfl rfl rfl ((hs54.fb b6).d1.fb b4).d1 (fun w_ hs_ => (Run.build rfl rfl rfl rfl (built_92_0_1_2_3 _ _ _ _ _ _))) ?_
  refine WH.o1 7 rfl (WL.st tbk hs54 2 rfl rfl (fun _ hs55 => WL.nil ⟨((hs55.fb b6).d1.fb b4).d1, WH.o1 8 rfl (WL.st tbk hs55 1 rfl rfl (fun _ hs56 => WL.nil ⟨((hs56.fb b6).d1.fb b4).d1, WH.dn (hK53 _ _ ?_)⟩))⟩))
  refine WC.ret (ibR (tkR ?_))
  clear hK16
  refine retV2 rfl (resV.cellA tbk hs56 2 rfl rfl rfl rfl) (resV.cellA tbk hs56 1 rfl rfl rfl rfl) ?_
  have hv : vpCsi p.dat b = (vp0, ⟨4, b, p.dat.Mark, p.dat.Args⟩) := by unfold vpCsi; rw [if_neg hc1, if_neg hc2, if_neg hc3, if_pos hc4]
  obtain ⟨L60, hs59, ho61⟩ := ownVpR.fl hs56 (OwnF.nil _ _) (OwnF.nil _ _)
  have hs62 := ((((hs59.fb b2).fb b4).fb b6).fb b13)
  obtain ⟨L63, L64, hs67, ho65, ho66⟩ := ownVpR.op hs62 ho11
  have hs68 := ((((hs67.fb b2).fb b4).fb b6).fb b13)
  refine ⟨⟨0, false, ⟨none, 0, 0, []⟩, ⟨none, 0, 0, []⟩⟩, _, ⟨(4), b, p.Mark, SlD.of ho65⟩, _, rfl, (St.drop ((hs68.fr L63).fr L60) (List.Sublist.append_left (List.sublist_append_left L63 _) L60)), ?_, ?_, ?_, ?_⟩
  · exact (by exact ho61)
  · exact ho65
  · rw [hv]; rfl
  · rw [hv]; exact ActD.ext' rfl rfl rfl hxr
 have hc4 : ¬ (64 ≤ b ∧ b ≤ 126) := by first | omega | (simp at qh52; omega)
 refine WC.sr (WL.r 3 hs51 [] rfl (WL.pO tbk 2 Acts.nil hs51 [] rfl rfl rfl rfl (fun g_ => trivial) (WL.r 1 hs51 [] rfl (WL.nil (WC.cq rfl (fun h69 qh69 => ?_) (fun h69 qh69 => ?_))))))
 ·have hc5 : b < 32 ∨ b = 127 := by first | omega | (simp at qh69; omega)
  refine WC.sr (WL.r 2 hs51 [0] rfl ?_)
  refine WL.val rfl rfl rfl (Run.build rfl rfl rfl rfl (built_92_0_1 _ _)) (WL.st tbk hs51 2 rfl rfl (fun _ hs70 => WL.st tbk hs70 1 rfl rfl (fun _ hs71 => WL.nil (WC.ret (ibR (tkR ?_))))))
  clear hK16
  refine retV2 rfl (resV.cellA tbk hs71 2 rfl rfl rfl rfl) (resV.cellA tbk hs71 1 rfl rfl rfl rfl) ?_
  have hv : vpCsi p.dat b = (p.dat, ⟨2, b, false, []⟩) := by unfold vpCsi; rw [if_neg hc1, if_neg hc2, if_neg hc3, if_neg hc4, if_pos hc5]
  refine ⟨r9, _, ⟨(2), b, false, ⟨none, 0, 0, []⟩⟩, _, rfl, (St.drop ((hs71.fr ([] : Hp)).fr L1_10) (List.Sublist.append_left (List.sublist_append_left ([] : Hp) _) L1_10)), ?_, ?_, ?_, ?_⟩
  · exact ho11
  · exact (OwnF.nil _ _)
  · rw [hv]; exact hd12
  · rw [hv]; first | exact rfl | rfl
 have hc5 : ¬ (b < 32 ∨ b = 127) := by first | omega | (simp at qh69; omega)
 refine WC.skip (hK16 _ _ (WC.sr (WL.r 1 hs51 [] rfl (WL.st tbk hs51 0 rfl rfl (fun _ hs73 => WL.nil (WC.sr (WL.r 1 hs73 [0] rfl ?_)))))))
 refine WL.val rfl rfl rfl (Run.build rfl rfl rfl rfl (built_92)) (WL.st tbk hs73 2 rfl rfl (fun _ hs74 => WL.st tbk hs74 1 rfl rfl (fun _ hs75 => WL.nil (WC.ret (retV2 rfl (resV.cellA tbk hs75 2 rfl rfl rfl rfl) (resV.cellA tbk hs75 1 rfl rfl rfl rfl) ?_)))))
 have hv : vpCsi p.dat b = ({ p.dat with State := 3 }, act0) := by unfold vpCsi; rw [if_neg hc1, if_neg hc2, if_neg hc3, if_neg hc4, if_neg hc5]
 obtain ⟨L76, L77, hs80, ho78, ho79⟩ := ownVpR.op hs75 ho11
 have hs81 := ((((hs80.fb b2).fb b4).fb b6).fb b13)
 obtain ⟨L83, hs82, ho84⟩ := ownVpR.fl hs81 ho78 ho79
 have hs85 := ((((hs82.fb b2).fb b4).fb b6).fb b13)
 refine ⟨⟨(3), r9.Mark, SlD.of ho78, SlD.of ho79⟩, _, ⟨0, 0, false, ⟨none, 0, 0, []⟩⟩, _, rfl, (St.drop ((hs85.fr ([] : Hp)).fr L83) (List.Sublist.append_left (List.sublist_append_left ([] : Hp) _) L83)), ?_, ?_, ?_, ?_⟩
 · exact (by exact ho84)
 · exact (OwnF.nil _ _)
 · rw [hv, ← hd12]; rfl
 · rw [hv]; first | exact rfl | rfl
theorem k94_ (p : VpR) (b : Int) (w : World) (f_p : okVpR 549755813888 w p) (hsm : smVp 1048576 p.dat) (hok : vpOk p.dat = true) (hb : 0 ≤ b ∧ b ≤ 255) :
    Calls Try.prog 82 #[.agg #[i64 p.State, .bool p.Mark, .slice p.Args.A p.Args.n p.Args.c, .slice p.Part.A p.Part.n p.Part.c], i64 b] w fun e w' => ∃ r0 L0 r1 L1, e = .returned (.tuple #[.agg #[i64 r0.State, .bool r0.Mark, .slice r0.Args.A r0.Args.n r0.Args.c, .slice r0.Part.A r0.Part.n r0.Part.c], .agg #[i64 r1.Kind, i64 r1.R, .bool r1.Mark, .slice r1.Args.A r1.Args.n r1.Args.c]]) ∧ St w [] (L0 ++ L1) w' ∧ ownVpR r0 L0 ∧ ownActR r1 L1 ∧ r0.dat = (vpStep p.dat b).1 ∧ r1.dat = (vpStep p.dat b).2 := by
 have nb_p_Args := f_p.Args_n
 have nl_p_Args := f_p.Args.len
 have nb_p_Part := f_p.Part_n
 have nl_p_Part := f_p.Part.len
 have hsB : smVp 549755813888 p.dat := ⟨Nat.le_trans hsm.1 (by decide), Nat.le_trans hsm.2 (by decide)⟩
 have hsa : p.Args.xs.length ≤ 1048576 := hsm.1
 have hsp : p.Part.xs.length ≤ 1048576 := hsm.2
 refine enter 58 Try.func82 rfl Try.ntmps82 rfl rfl ?_
 have hs1 := St.init w
 refine WC.sr (WL.bx hs1 rfl (fun b2 _ hs3 => WL.al hs3 Try.zeroValue47 rfl rfl (fun b4 _ hs5 => WL.al hs5 Try.zeroValue92 rfl rfl (fun b6 _ hs7 => WL.nil (WC.seq (fun K8 hK8 => WC.block (WC.r1 hs7 [] rfl ?_)))))))
 refine WC.cD rfl (fun qh9 => ?_) (fun qh9 => ?_)
 ·have k1 : b = 27 := by first | exact qh9 | omega | (simp at qh9; omega)
  refine WC.sr ?_
  refine WL.val rfl rfl rfl (Run.build rfl rfl rfl rfl (built_47_0 _)) ?_
  refine WL.val rfl rfl rfl (Run.build rfl rfl rfl rfl (built_92)) (WL.st tbk hs7 1 rfl rfl (fun _ hs10 => WL.st tbk hs10 0 rfl rfl (fun _ hs11 => WL.nil (WC.ret (ibR (tkR ?_))))))
  clear hK8
  refine retV2 rfl (resV.cellA tbk hs11 1 rfl rfl rfl rfl) (resV.cellA tbk hs11 0 rfl rfl rfl rfl) ?_
  have hv : vpStep p.dat b = (⟨1, false, [], []⟩, act0) := by unfold vpStep; rw [if_pos k1]
  obtain ⟨L15, hs14, ho16⟩ := ownVpR.fl hs11 (OwnF.nil _ _) (OwnF.nil _ _)
  have hs17 := (((hs14.fb b2).fb b4).fb b6)
  refine ⟨⟨(1), false, ⟨none, 0, 0, []⟩, ⟨none, 0, 0, []⟩⟩, _, ⟨0, 0, false, ⟨none, 0, 0, []⟩⟩, _, rfl, (St.drop ((hs17.fr ([] : Hp)).fr L15) (List.Sublist.append_left (List.sublist_append_left ([] : Hp) _) L15)), ?_, ?_, ?_, ?_⟩
  · exact (by exact ho16)
  · exact (OwnF.nil _ _)
  · rw [hv]; first | exact rfl | rfl
  · rw [hv]; first | exact rfl | rfl
 have k1 : ¬ (b = 27) := by first | exact qh9 | omega | (simp at qh9; omega)
 refine WC.sr (WL.r 3 hs7 [] rfl (WL.pO tbk 2 Acts.nil hs7 [] rfl rfl rfl rfl (fun g_ => trivial) (WL.r 1 hs7 [] rfl (WL.nil (WC.cq rfl (fun h19 qh19 => ?_) (fun h19 qh19 => ?_))))))
 ·have k2 : b = 24 ∨ b = 26 := by first | exact qh19 | omega | (simp at qh19; omega)
  refine WC.sr ?_
  refine WL.val rfl rfl rfl (Run.build rfl rfl rfl rfl (built_47)) ?_
  refine WL.val rfl rfl rfl (Run.build rfl rfl rfl rfl (built_92)) (WL.st tbk hs7 1 rfl rfl (fun _ hs20 => WL.st tbk hs20 0 rfl rfl (fun _ hs21 => WL.nil (WC.ret (ibR (tkR ?_))))))
  clear hK8
  refine retV2 rfl (resV.cellA tbk hs21 1 rfl rfl rfl rfl) (resV.cellA tbk hs21 0 rfl rfl rfl rfl) ?_
  have hv : vpStep p.dat b = (vp0, act0) := by unfold vpStep; rw [if_neg k1, if_pos k2]
  obtain ⟨L25, hs24, ho26⟩ := ownVpR.fl hs21 (OwnF.nil _ _) (OwnF.nil _ _)
  have hs27 := (((hs24.fb b2).fb b4).fb b6)
  refine ⟨⟨0, false, ⟨none, 0, 0, []⟩, ⟨none, 0, 0, []⟩⟩, _, ⟨0, 0, false, ⟨none, 0, 0, []⟩⟩, _, rfl, (St.drop ((hs27.fr ([] : Hp)).fr L25) (List.Sublist.append_left (List.sublist_append_left ([] : Hp) _) L25)), ?_, ?_, ?_, ?_⟩
  · exact (by exact ho26)
  · exact (OwnF.nil _ _)
  · rw [hv]; first | exact rfl | rfl
  · rw [hv]; first | exact rfl | rfl
 have k2 : ¬ (b = 24 ∨ b = 26) := by first | exact qh19 | omega | (simp at qh19; omega)
 refine WC.skip (hK8 _ _ (WC.seq (fun K29 hK29 => WC.r1 hs7 [2] rfl (WC.block (WC.r1 hs7 [] rfl ?_)))))
 refine WC.cD rfl (fun qh30 => ?_) (fun qh30 => ?_)
 ·have k3 : p.dat.State = 0 := by show p.State = 0; first | exact qh30 | omega | (simp at qh30; omega)
  refine WC.sr (WL.r 2 hs7 [2] rfl (WL.cl Try.call116 rfl (k90_ p _ _ (okVpR.st0 f_p hs7) ?_) ?_))
  · first | assumption | rfl | omega | (simp; omega)
  rintro _ whs31 ⟨r0_32, L0_33, r1_34, L1_35, rfl, hs31, ho36, ho37, hd0_38, hd1_39⟩
  replace hs31 := hs7.callF hs31
  refine ⟨_, rfl, ?_⟩
  replace hs31 := St.assoc hs31
  replace hs31 := St.back2 [_, _, _] hs31
  refine WL.r 2 hs31 [] rfl (WL.st tbk hs31 1 rfl rfl (fun _ hs40 => WL.st tbk hs40 0 rfl rfl (fun _ hs41 => WL.nil (WC.ret (ibR (tkR ?_))))))
  clear hK29
  refine retV2 rfl (resV.cellA tbk hs41 1 rfl rfl rfl rfl) (resV.cellA tbk hs41 0 rfl rfl rfl rfl) ?_
  have hv : vpStep p.dat b = vpPlain p.dat.Part b := by unfold vpStep; rw [if_neg k1, if_neg k2, if_pos k3]
  refine ⟨r0_32, _, r1_34, _, rfl, (St.drop ((hs41.fr L1_35).fr L0_33) (List.Sublist.append_left (List.sublist_append_left L1_35 _) L0_33)), ?_, ?_, ?_, ?_⟩
  · exact ho36
  · exact ho37
  · rw [hv]; first | exact hd0_38 | rfl
  · rw [hv]; first | exact hd1_39 | rfl
 have k3 : ¬ (p.dat.State = 0) := by show ¬ (p.State = 0); first | exact qh30 | omega | (simp at qh30; omega)
 refine WC.r1 hs7 [] rfl (WC.cD rfl (fun qh42 => ?_) (fun qh42 => ?_))
 ·have k4 : p.dat.State = 1 := by show p.State = 1; first | exact qh42 | omega | (simp at qh42; omega)
  refine WC.seq (fun K43 hK43 => WC.block (WC.r1 hs7 [] rfl ?_))
  refine WC.cD rfl (fun qh44 => ?_) (fun qh44 => ?_)
  ·have k5 : b = 91 := by first | exact qh44 | omega | (simp at qh44; omega)
   refine WC.sr ?_
   refine WL.val rfl rfl rfl (Run.build rfl rfl rfl rfl (built_47_0 _)) ?_
   refine WL.val rfl rfl rfl (Run.build rfl rfl rfl rfl (built_92)) (WL.st tbk hs7 1 rfl rfl (fun _ hs45 => WL.st tbk hs45 0 rfl rfl (fun _ hs46 => WL.nil (WC.ret (ibR (tkR (ibR (tkR ?_))))))))
   clear hK43 hK29
   refine retV2 rfl (resV.cellA tbk hs46 1 rfl rfl rfl rfl) (resV.cellA tbk hs46 0 rfl rfl rfl rfl) ?_
   have hv : vpStep p.dat b = (⟨2, false, [], []⟩, act0) := by unfold vpStep; rw [if_neg k1, if_neg k2, if_neg k3, if_pos k4, if_pos k5]
   obtain ⟨L50, hs49, ho51⟩ := ownVpR.fl hs46 (OwnF.nil _ _) (OwnF.nil _ _)
   have hs52 := (((hs49.fb b2).fb b4).fb b6)
   refine ⟨⟨(2), false, ⟨none, 0, 0, []⟩, ⟨none, 0, 0, []⟩⟩, _, ⟨0, 0, false, ⟨none, 0, 0, []⟩⟩, _, rfl, (St.drop ((hs52.fr ([] : Hp)).fr L50) (List.Sublist.append_left (List.sublist_append_left ([] : Hp) _) L50)), ?_, ?_, ?_, ?_⟩
   · exact (by exact ho51)
   · exact (OwnF.nil _ _)
   · rw [hv]; first | exact rfl | rfl
   · rw [hv]; first | exact rfl | rfl
  have k5 : ¬ (b = 91) := by first | exact qh44 | omega | (simp at qh44; omega)
  refine WC.sr (WL.r 1 hs7 [] rfl (WL.cl Try.call33 rfl (k0_ _ _ _ _) ?_))
  rintro _ whs54 ⟨rfl, hs54⟩
  replace hs54 := hs7.call0 hs54
  refine ⟨_, rfl, WL.r 1 hs54 [] rfl (WL.nil (WC.cq rfl (fun h55 qh55 => ?_) (fun h55 qh55 => ?_)))⟩
  ·have k6 : 48 ≤ b ∧ b ≤ 126 := by first | exact qh55 | omega | (simp at qh55; omega)
   refine WC.sr ?_
   refine WL.val rfl rfl rfl (Run.build rfl rfl rfl rfl (built_47)) (WL.r 1 hs54 [] rfl ?_)
   refine WL.val rfl rfl rfl (Run.build rfl rfl rfl rfl (built_92_0_1 _ _)) (WL.st tbk hs54 1 rfl rfl (fun _ hs56 => WL.st tbk hs56 0 rfl rfl (fun _ hs57 => WL.nil (WC.ret (ibR (tkR (ibR (tkR ?_))))))))
   clear hK43 hK29
   refine retV2 rfl (resV.cellA tbk hs57 1 rfl rfl rfl rfl) (resV.cellA tbk hs57 0 rfl rfl rfl rfl) ?_
   have hv : vpStep p.dat b = (vp0, ⟨3, b, false, []⟩) := by unfold vpStep; rw [if_neg k1, if_neg k2, if_neg k3, if_pos k4, if_neg k5, if_pos k6]
   obtain ⟨L61, hs60, ho62⟩ := ownVpR.fl hs57 (OwnF.nil _ _) (OwnF.nil _ _)
   have hs63 := (((hs60.fb b2).fb b4).fb b6)
   refine ⟨⟨0, false, ⟨none, 0, 0, []⟩, ⟨none, 0, 0, []⟩⟩, _, ⟨(3), b, false, ⟨none, 0, 0, []⟩⟩, _, rfl, (St.drop ((hs63.fr ([] : Hp)).fr L61) (List.Sublist.append_left (List.sublist_append_left ([] : Hp) _) L61)), ?_, ?_, ?_, ?_⟩
   · exact (by exact ho62)
   · exact (OwnF.nil _ _)
   · rw [hv]; first | exact rfl | rfl
   · rw [hv]; first | exact rfl | rfl
  have k6 : ¬ (48 ≤ b ∧ b ≤ 126) := by first | exact qh55 | omega | (simp at qh55; omega)
  refine WC.skip (hK43 _ _ (WC.sr ?_))
  refine WL.val rfl rfl rfl (Run.build rfl rfl rfl rfl (built_47)) ?_
  refine WL.val rfl rfl rfl (Run.build rfl rfl rfl rfl (built_92)) (WL.st tbk hs54 1 rfl rfl (fun _ hs65 => WL.st tbk hs65 0 rfl rfl (fun _ hs66 => WL.nil (WC.ret (ibR (tkR ?_))))))
  clear hK29
  refine retV2 rfl (resV.cellA tbk hs66 1 rfl rfl rfl rfl) (resV.cellA tbk hs66 0 rfl rfl rfl rfl) ?_
  have hv : vpStep p.dat b = (vp0, act0) := by unfold vpStep; rw [if_neg k1, if_neg k2, if_neg k3, if_pos k4, if_neg k5, if_neg k6]
  obtain ⟨L70, hs69, ho71⟩ := ownVpR.fl hs66 (OwnF.nil _ _) (OwnF.nil _ _)
  have hs72 := (((hs69.fb b2).fb b4).fb b6)
  refine ⟨⟨0, false, ⟨none, 0, 0, []⟩, ⟨none, 0, 0, []⟩⟩, _, ⟨0, 0, false, ⟨none, 0, 0, []⟩⟩, _, rfl, (St.drop ((hs72.fr ([] : Hp)).fr L70) (List.Sublist.append_left (List.sublist_append_left ([] : Hp) _) L70)), ?_, ?_, ?_, ?_⟩
  · exact (by exact ho71)
  · exact (OwnF.nil _ _)
  · rw [hv]; first | exact rfl | rfl
  · rw [hv]; first | exact rfl | rfl
 have k4 : ¬ (p.dat.State = 1) := by show ¬ (p.State = 1); first | exact qh42 | omega | (simp at qh42; omega)
 refine WC.r1 hs7 [] rfl (WC.cD rfl (fun qh74 => ?_) (fun qh74 => ?_))
 ·have k7 : p.dat.State = 2 := by show p.State = 2; first | exact qh74 | omega | (simp at qh74; omega)
  have hoa : areArgs p.dat.Args = true := by have h_ := hok; rw [vpOk_csi (.inl k7), Bool.and_eq_true] at h_; exact h_.1
  refine WC.sr (WL.r 2 hs7 [2] rfl (WL.cl Try.call117 rfl (k93_ p _ _ (okVpR.st0 f_p hs7) ?_ ?_ ?_) ?_))
  iterate 3 first | assumption | rfl | omega | (simp; omega)
  rintro _ whs75 ⟨r0_76, L0_77, r1_78, L1_79, rfl, hs75, ho80, ho81, hd0_82, hd1_83⟩
  replace hs75 := hs7.callF hs75
  refine ⟨_, rfl, ?_⟩
  replace hs75 := St.assoc hs75
  replace hs75 := St.back2 [_, _, _] hs75
  refine WL.r 2 hs75 [] rfl (WL.st tbk hs75 1 rfl rfl (fun _ hs84 => WL.st tbk hs84 0 rfl rfl (fun _ hs85 => WL.nil (WC.ret (ibR (tkR ?_))))))
  clear hK29
  refine retV2 rfl (resV.cellA tbk hs85 1 rfl rfl rfl rfl) (resV.cellA tbk hs85 0 rfl rfl rfl rfl) ?_
  have hv : vpStep p.dat b = vpCsi p.dat b := by unfold vpStep; rw [if_neg k1, if_neg k2, if_neg k3, if_neg k4, if_pos k7]
  refine ⟨r0_76, _, r1_78, _, rfl, (St.drop ((hs85.fr L1_79).fr L0_77) (List.Sublist.append_left (List.sublist_append_left L1_79 _) L0_77)), ?_, ?_, ?_, ?_⟩
  · exact ho80
  · exact ho81
  · rw [hv]; first | exact hd0_82 | rfl
  · rw [hv]; first | exact hd1_83 | rfl
 have k7 : ¬ (p.dat.State = 2) := by show ¬ (p.State = 2); first | exact qh74 | omega | (simp at qh74; omega)
 refine WC.skip (hK29 _ _ (WC.seq (fun K86 hK86 => WC.sr (WL.r 1 hs7 [] rfl (WL.cl Try.call33 rfl (k0_ _ _ _ _) ?_)))))
 rintro _ whs87 ⟨rfl, hs87⟩
 replace hs87 := hs7.call0 hs87
 refine ⟨_, rfl, WL.nil (WC.cq rfl (fun h88 qh88 => ?_) (fun h88 qh88 => ?_))⟩
 ·have k8 : 64 ≤ b ∧ b ≤ 126 := by first | exact qh88 | omega | (simp at qh88; omega)
  refine WC.sr ?_
  refine WL.val rfl rfl rfl (Run.build rfl rfl rfl rfl (built_47)) ?_
  refine WL.val rfl rfl rfl (Run.build rfl rfl rfl rfl (built_92)) (WL.st tbk hs87 1 rfl rfl (fun _ hs89 => WL.st tbk hs89 0 rfl rfl (fun _ hs90 => WL.nil (WC.ret (tkR ?_)))))
  clear hK86
  refine retV2 rfl (resV.cellA tbk hs90 1 rfl rfl rfl rfl) (resV.cellA tbk hs90 0 rfl rfl rfl rfl) ?_
  have hv : vpStep p.dat b = (vp0, act0) := by unfold vpStep; rw [if_neg k1, if_neg k2, if_neg k3, if_neg k4, if_neg k7, if_pos k8]
  obtain ⟨L94, hs93, ho95⟩ := ownVpR.fl hs90 (OwnF.nil _ _) (OwnF.nil _ _)
  have hs96 := (((hs93.fb b2).fb b4).fb b6)
  refine ⟨⟨0, false, ⟨none, 0, 0, []⟩, ⟨none, 0, 0, []⟩⟩, _, ⟨0, 0, false, ⟨none, 0, 0, []⟩⟩, _, rfl, (St.drop ((hs96.fr ([] : Hp)).fr L94) (List.Sublist.append_left (List.sublist_append_left ([] : Hp) _) L94)), ?_, ?_, ?_, ?_⟩
  · exact (by exact ho95)
  · exact (OwnF.nil _ _)
  · rw [hv]; first | exact rfl | rfl
  · rw [hv]; first | exact rfl | rfl
 have k8 : ¬ (64 ≤ b ∧ b ≤ 126) := by first | exact qh88 | omega | (simp at qh88; omega)
 refine WC.skip (hK86 _ _ (WC.sr (WL.r 1 hs87 [2] rfl ?_)))
 refine WL.cl Try.call81 rfl (k89_ p _ (okVpR.st0 f_p hs87) ?_) ?_
 · first | assumption | rfl | omega | (simp; omega)
 rintro _ whs98 ⟨r99, L1_100, rfl, hs98, ho101, hd102⟩
 replace hs98 := hs87.callF hs98
 refine ⟨_, rfl, ?_⟩
 replace hs98 := St.back [_, _, _] hs98
 refine WL.val rfl rfl rfl (Run.build rfl rfl rfl rfl (built_92)) (WL.st tbk hs98 1 rfl rfl (fun _ hs103 => WL.st tbk hs103 0 rfl rfl (fun _ hs104 => WL.nil (WC.ret (retV2 rfl (resV.cellA tbk hs104 1 rfl rfl rfl rfl) (resV.cellA tbk hs104 0 rfl rfl rfl rfl) ?_)))))
 have hv : vpStep p.dat b = (p.dat, act0) := by unfold vpStep; rw [if_neg k1, if_neg k2, if_neg k3, if_neg k4, if_neg k7, if_neg k8]
 refine ⟨r99, _, ⟨0, 0, false, ⟨none, 0, 0, []⟩⟩, _, rfl, (St.drop ((hs104.fr ([] : Hp)).fr L1_100) (List.Sublist.append_left (List.sublist_append_left ([] : Hp) _) L1_100)), ?_, ?_, ?_, ?_⟩
 · exact ho101
 · exact (OwnF.nil _ _)
 · rw [hv]; first | exact hd102 | rfl
 · rw [hv]; first | exact rfl | rfl
theorem inf92 : Try.prog.info? 92 = some Try.t92 := by kernel_rfl
theorem k95_ (p : VpR) (A_b : Option Addr) (n_b c_b : Nat) (b : List UInt8) (w : World) (f_p : okVpR 549755813888 w p) (f_b : SlF encB w A_b n_b b) (hsm : smVp 1048576 p.dat) (hok : vpOk p.dat = true) (hn : n_b ≤ 1048576) :
    Calls Try.prog 54 #[.agg #[i64 p.State, .bool p.Mark, .slice p.Args.A p.Args.n p.Args.c, .slice p.Part.A p.Part.n p.Part.c], .slice A_b n_b c_b] w fun e w' => ∃ r0 L0 A1 c1 x1 L1, e = .returned (.tuple #[.agg #[i64 r0.State, .bool r0.Mark, .slice r0.Args.A r0.Args.n r0.Args.c, .slice r0.Part.A r0.Part.n r0.Part.c], .slice A1 x1.length c1]) ∧ St w [] (L0 ++ L1) w' ∧ ownVpR r0 L0 ∧ OwnN encActR ownActR 92 (.slice A1 x1.length c1) x1 L1 ∧ r0.dat = (vpParse p.dat b).1 ∧ x1.map ActR.dat = (vpParse p.dat b).2 := by
 have nb_p_Args := f_p.Args_n
 have nl_p_Args := f_p.Args.len
 have nb_p_Part := f_p.Part_n
 have nl_p_Part := f_p.Part.len
 have hsB : smVp 549755813888 p.dat := ⟨Nat.le_trans hsm.1 (by decide), Nat.le_trans hsm.2 (by decide)⟩
 have hsa : p.Args.xs.length ≤ 1048576 := hsm.1
 have hsp : p.Part.xs.length ≤ 1048576 := hsm.2
 have hbl := f_b.len
 refine enter 39 Try.func54 rfl Try.ntmps54 rfl rfl ?_
 have hs1 := St.init w
 refine WC.sr (WL.bx hs1 rfl (fun b2 _ hs3 => WL.al hs3 Try.zeroValue47 rfl rfl (fun b4 _ hs5 => WL.r 1 hs5 [] rfl (WL.nil (WC.sr (WL.r 1 hs5 [1] rfl ?_))))))
 refine WL.cl Try.call81 rfl (k89_ p _ (okVpR.st0 f_p hs5) ?_) ?_
 · first | assumption | rfl | omega | exact ⟨by omega, by omega⟩ | (simp; omega)
 rintro _ whs6 ⟨r7, L1_8, rfl, hs6, ho9, hd10⟩
 replace hs6 := hs5.callF hs6
 refine ⟨_, rfl, ?_⟩
 replace hs6 := St.back [_, _] hs6
 skip
 refine WL.buildF (F := encActR) hs6 ([]) Try.runUnderlying88 Try.sizeOf92 Try.zeroValue92 rfl rfl rfl rfl rfl rfl rfl rfl rfl rfl rfl rfl (fun A14 c15 L11 whs12 hs12 ho13 => ?_)
 replace hs12 := St.back [_, _] hs12
 obtain ⟨L16, hs17, ho18⟩ := OwnN.fresh (own := ownActR) (hs12.fr L11) ho13 Bag.nil
 have hs19 := ((hs17.fb b2).fb b4)
 refine WL.al hs19 Try.zeroValue47 rfl rfl (fun b20 _ hs21 => WL.st tbk hs21 0 rfl rfl (fun _ hs22 => WL.r 1 hs22 [] rfl (WL.nil (WC.seq (fun K23 hK23 => WC.r1 hs22 [] rfl (WC.block ?_))))))
 have hM32 := (St.grp2 (L1 := L1_8) (L2 := L16) [_] (((((hs22.fb b2).fb b4).fr L16).fr L1_8).fb b20))
 refine WC.lV [4, 5, 6, 15, 16] rfl hM32 (fun k_ (a_ : Hp) f => ∃ (i : Nat) (acts : List ActR) (r : VpR) (L26 : Hp) (A28 : Option Addr) (c29 : Nat) (L30 : Hp), k_ = n_b - i ∧ a_ = [(b20, .cells (List.toArray [i64 r.State, .bool r.Mark, .slice r.Args.A r.Args.n r.Args.c, .slice r.Part.A r.Part.n r.Part.c]) 47 (0, 0))] ++ (L26 ++ L30) ∧ (i ≤ n_b) ∧ (r.dat = (vpParse p.dat (b.take i)).1) ∧ (acts.map ActR.dat = (vpParse p.dat (b.take i)).2) ∧ (acts.length ≤ i) ∧ ownVpR r L26 ∧ OwnN encActR ownActR 92 (.slice A28 (acts).length c29) (acts) L30 ∧ Sub [(7, .slice A28 (acts).length c29), (17, .int .i64 i)] f) (((fun (i : Nat) (acts : List ActR) => n_b - i) (0) ([]))) ?_ ?_
 ·refine ⟨0, [], r7, L1_8, A14, c15, L16, rfl, rfl, ?_, ?_, ?_, ?_, ho9, ho18, ⟨rfl, rfl, trivial⟩⟩
  · exact Nat.zero_le _
  · exact hd10
  · rfl
  · exact Nat.le_refl _
 rintro _ _ f w ⟨i, acts, r, L26, A28, c29, L30, rfl, rfl, p0, p1, p2, p3, ho27, ho31, hG⟩ hF hs33
 refine WC.sub _ (hG.app hF) ?_
 clear hG hF
 replace hs33 := St.ungrp2 [_] hs33
 have hs34 := (((hs33.fb b2).fb b4).fb b20)
 have hvr : vpOk r.dat = true := by rw [p1]; exact vpParse_ok hok
 have hlr := vpOk_len hvr
 have hsmr : smVp 1048576 r.dat := ⟨by omega, by omega⟩
 have hsmB : smVp 549755813888 r.dat := ⟨by omega, by omega⟩
 have hxb := (gat encB b i).toNat_lt
 refine WC.r1 hs34 [] rfl (WC.seq (fun K35 hK35 => ?_))
 refine WC.cD rfl (fun qh36 => ?_) (fun qh36 => ?_)
 ·refine WC.skip (hK35 _ _ (WC.seq (fun K37 hK37 => WC.block (WC.sr ?_))))
  refine WL.val rfl rfl rfl (Run.idxN Try.runUnderlying22 Try.sizeOf5 rfl rfl rfl ?_ ?_ ?_) ?_
  · exact SlF.some_ (SlF.st0 f_b hs34)
  · omega
  · omega
  refine WL.val rfl rfl rfl (Run.load Try.isAgg5 rfl rfl (SlF.one1 (SlF.st0 f_b hs34) ?_ rfl)) ?_
  · omega
  refine WL.r 1 hs34 [] rfl (WL.nil (WC.sr (WL.r 3 hs34 [0] rfl (WL.cl Try.call82 rfl (k94_ r _ _ (ownVpR.ok (B := 549755813888) ho27 (hs34.ow L26) (by assumption)) ?_ ?_ ?_) ?_))))
  iterate 3 first | assumption | rfl | omega | exact ⟨by omega, by omega⟩ | (simp; omega)
  rintro _ whs38 ⟨r0_39, L0_40, r1_41, L1_42, rfl, hs38, ho43, ho44, hd0_45, hd1_46⟩
  replace hs38 := hs34.callF hs38
  refine ⟨_, rfl, ?_⟩
  replace hs38 := St.assoc hs38
  replace hs38 := St.back2 [_, _, _] hs38
  refine WL.r 3 hs38 [] rfl (WL.al hs38 Try.zeroValue47 rfl rfl (fun b47 _ hs48 => WL.al hs48 Try.zeroValue92 rfl rfl (fun b49 _ hs50 => WL.st tbk hs50 1 rfl rfl (fun _ hs51 => WL.st tbk hs51 0 rfl rfl (fun _ hs52 => WL.nil (WC.sr (WL.r 1 hs52 [1] rfl ?_)))))))
  refine WL.st tbk hs52 2 rfl rfl (fun _ hs53 => WL.nil (WC.r1 hs53 [0] rfl ?_))
  refine WC.cN rfl (fun qh54 => ?_) (fun qh54 => ?_)
  ·have hk0 := hd0_45
   have hk1 := hd1_46
   have hkk : r1_41.Kind = (vpStep r.dat (gat encB b i).toNat).2.Kind := congrArg ActD.Kind hd1_46
   have hk : ¬ (vpStep r.dat (gat encB b i).toNat).2.Kind = 0 := by omega
   refine WC.region (WL.r 2 hs53 [0] rfl (WL.buildSlice hs53 Try.runUnderlying88 Try.sizeOf92 Try.zeroValue92 rfl rfl rfl rfl rfl rfl rfl rfl rfl rfl (fun b55 whs56 hs56 => ?_)))
   obtain ⟨L57, L58, hs61, ho59, ho60⟩ := OwnN.open_ (hs56.fr L30) ho31
   have hs62 := ((((((hs61.fb b2).fb b4).fb b20).fb b47).fb b49).fb b55)
   refine WL.appendG (hs62.fr L57) ho59 (srcF (F := encActR) (ys := [(r1_41 : ActR)]) Try.underlying88 rfl rfl (hs62.own _ (nthL_mem (i := 0) rfl)).1) Try.underlying88 inf92 rfl rfl rfl rfl rfl rfl rfl rfl rfl rfl ?_ (fun A66 c67 L63 whs64 hs64 ho65 => ?_)
   · (try simp only [List.length_append, List.length_singleton]); omega
   replace hs64 := St.back [_, _, _, _, _, _] hs64
   obtain ⟨L68, hs69, hb70⟩ := Bag.put (x := (r1_41 : ActR)) ((hs64.fr L1_42).fr L58) ho60 ho44
   have hs71 := ((((((hs69.fb b2).fb b4).fb b20).fb b47).fb b49).fb b55)
   obtain ⟨L73, hs72, ho74⟩ := OwnN.fold ((hs71.fr L68).fr L63) ho65 hb70
   have hs75 := ((((((hs72.fb b2).fb b4).fb b20).fb b47).fb b49).fb b55)
   refine WL.r 1 hs75 [] rfl (WL.nil (hK37 _ _ (WC.region (WL.r 2 hs75 [] rfl (WL.nil (tkN ?_))))))
   have hst := vpParse_take (v := p.dat) (l := b) (i := i) (by omega)
   replace hs75 := (hs75.d1.d1.d1.rm L26)
   have hF76 := (St.grp2 (L1 := L0_40) (L2 := L73) [_] (((((hs75.fb b2).fb b4).fr L73).fr L0_40).fb b20))
   refine ⟨sbF rfl, _, hF76, _, ?_, i + 1, ((acts) ++ [(r1_41 : ActR)]), r0_39, L0_40, A66, c67, L73, rfl, rfl, ?_, ?_, ?_, ?_, ho43, ho74, ⟨rfl, rfl, trivial⟩⟩
   · omega
   · omega
   · rw [hst, ← p1]; exact hk0
   · rw [hst, ← p2, ← p1, if_neg hk, List.map_append]; congr 1; show [_] = [_]; rw [← hk1]
   · (try simp only [List.length_append, List.length_singleton]); omega
  have hk0 := hd0_45
  have hk1 := hd1_46
  have hkk : r1_41.Kind = (vpStep r.dat (gat encB b i).toNat).2.Kind := congrArg ActD.Kind hd1_46
  have hk : (vpStep r.dat (gat encB b i).toNat).2.Kind = 0 := by omega
  refine WC.skip (hK37 _ _ (WC.region (WL.r 2 hs53 [] rfl (WL.nil (tkN ?_)))))
  have hst := vpParse_take (v := p.dat) (l := b) (i := i) (by omega)
  replace hs53 := ((hs53.d1.d1.rm L1_42).rm L26)
  have hF77 := (St.grp2 (L1 := L0_40) (L2 := L30) [_] (((((hs53.fb b2).fb b4).fr L30).fr L0_40).fb b20))
  refine ⟨sbF rfl, _, hF77, _, ?_, i + 1, acts, r0_39, L0_40, A28, c29, L30, rfl, rfl, ?_, ?_, ?_, ?_, ho43, ho31, ⟨rfl, rfl, trivial⟩⟩
  · omega
  · omega
  · rw [hst, ← p1]; exact hk0
  · rw [hst, ← p2, ← p1, if_pos hk, List.append_nil]
  · (try simp only [List.length_append, List.length_singleton]); omega
 refine WC.exit (hK23 _ _ (WC.sr (WL.r 2 hs34 [0] rfl (WL.st tbk hs34 1 rfl rfl (fun _ hs78 => WL.r 1 hs78 [] rfl (WL.nil (WC.ret ?_)))))))
 refine retV2 rfl (resV.cellA tbk hs78 1 rfl rfl rfl rfl) (resV.tmp rfl) ?_
 have hi_ : i = n_b := by omega
 have ht : b.take i = b := List.take_of_length_le (by omega)
 rw [ht] at p1 p2
 refine ⟨r, _, _, _, _, _, rfl, (St.drop ((hs78.fr L30).fr L26) (List.Sublist.append_left (List.sublist_append_left L30 _) L26)), ?_, ?_, ?_, ?_⟩
 · exact ho27
 · exact ho31
 · rw [p1]
 · rw [p2]
theorem k96_ (t : TermR) (w : World) (f_t : okTermR 549755813888 w t) :
    Calls Try.prog 21 #[.agg #[i64 t.P.State, .bool t.P.Mark, .slice t.P.Args.A t.P.Args.n t.P.Args.c, .slice t.P.Part.A t.P.Part.n t.P.Part.c, i64 t.S.W, i64 t.S.H, i64 t.S.Main.W, i64 t.S.Main.H, .slice t.S.Main.Cells.A t.S.Main.Cells.n t.S.Main.Cells.c, i64 t.S.Alt.W, i64 t.S.Alt.H, .slice t.S.Alt.Cells.A t.S.Alt.Cells.n t.S.Alt.Cells.c, .bool t.S.OnAlt, i64 t.S.X, i64 t.S.Y, .bool t.S.Wrap, i64 t.S.A.Fg, i64 t.S.A.Bg, .bool t.S.A.Bold, .bool t.S.A.Under, .bool t.S.A.Turn, i64 t.S.Top, i64 t.S.Bot, .bool t.S.NoWrap, .bool t.S.Hide, i64 t.S.SaveX, i64 t.S.SaveY, i64 t.S.SaveA.Fg, i64 t.S.SaveA.Bg, .bool t.S.SaveA.Bold, .bool t.S.SaveA.Under, .bool t.S.SaveA.Turn, .slice t.S.Tabs.A t.S.Tabs.n t.S.Tabs.c, i64 t.S.Limit, .slice t.S.Back.A t.S.Back.n t.S.Back.c]] w fun e w' => e = .returned (.bool (termOk t.dat)) ∧ St w [] [] w' := by
 have nb_t_P_Args := f_t.P.Args_n
 have nl_t_P_Args := f_t.P.Args.len
 have nb_t_P_Part := f_t.P.Part_n
 have nl_t_P_Part := f_t.P.Part.len
 have nb_t_S_Main_Cells := f_t.S.Main.Cells_n
 have nl_t_S_Main_Cells := f_t.S.Main.Cells.len
 have nb_t_S_Alt_Cells := f_t.S.Alt.Cells_n
 have nl_t_S_Alt_Cells := f_t.S.Alt.Cells.len
 have nb_t_S_Tabs := f_t.S.Tabs_n
 have nl_t_S_Tabs := f_t.S.Tabs.len
 have nb_t_S_Back := f_t.S.Back_n
 have nl_t_S_Back := f_t.S.Back.sl.len
 refine enter 11 Try.func21 rfl Try.ntmps21 rfl rfl ?_
 have hs1 := St.init w
 refine WC.sr (WL.bx hs1 rfl (fun b2 _ hs3 => WL.r 1 hs3 [] rfl (WL.nil (WC.sr (WL.r 2 hs3 [0] rfl (WL.cl Try.call56 rfl (k47_ t.P _ (okVpR.st0 f_t.P hs3)) ?_))))))
 rintro _ whs4 ⟨rfl, hs4⟩
 replace hs4 := hs3.call0 hs4
 refine ⟨_, rfl, WL.r 1 hs4 [] rfl ?_⟩
 apply WL.gA 3 Acts.nil hs4 rfl
 ·intro g5 J6
  have qg5 := g5
  try simp only [bf, within_iff, within_not] at qg5
  refine WL.runA tbk 2 (Acts.nil.cons (j := 3) rfl g5) hs4 [0] rfl ⟨rfl, trivial⟩ (WL.call (wantT rfl g5) rfl rfl (Run.call Try.call8 rfl rfl rfl) (k29_ t.S _ (okScrR.st0 f_t.S hs4)) ?_)
  rintro _ whs7 ⟨rfl, hs7⟩
  replace hs7 := hs4.call0 hs7
  refine ⟨_, rfl, WL.eA 3 Acts.nil J6 hs7 g5 rfl rfl⟩
 intro _ hs8
 refine WL.r 1 hs8 [] rfl (WL.nil (WC.ret (rtv rfl rfl hs8 ?_)))
 rfl
theorem built_49_0_1 (x0 : Value) (x1 : Value) (x2 : Value) (x3 : Value) (x4 : Value) (x5 : Value) (x6 : Value) (x7 : Value) (x8 : Value) (x9 : Value) (x10 : Value) (x11 : Value) (x12 : Value) (x13 : Value) (x14 : Value) (x15 : Value) (x16 : Value) (x17 : Value) (x18 : Value) (x19 : Value) (x20 : Value) (x21 : Value) (x22 : Value) (x23 : Value) (x24 : Value) (x25 : Value) (x26 : Value) (x27 : Value) (x28 : Value) (x29 : Value) (x30 : Value) (x31 : Value) (x32 : Value) (x33 : Value) (x34 : Value) : Try.prog.built 49 [(0, .agg [x0, x1, x2, x3].toArray), (1, .agg [x4, x5, x6, x7, x8, x9, x10, x11, x12, x13, x14, x15, x16, x17, x18, x19, x20, x21, x22, x23, x24, x25, x26, x27, x28, x29, x30, x31, x32, x33, x34].toArray)] = some (List.toArray [x0, x1, x2, x3, x4, x5, x6, x7, x8, x9, x10, x11, x12, x13, x14, x15, x16, x17, x18, x19, x20, x21, x22, x23, x24, x25, x26, x27, x28, x29, x30, x31, x32, x33, x34]) := by kernel_rfl
theorem k97_ (t : TermR) (w : World) (f_t : okTermR 549755813888 w t) (hsm : smTerm 1048576 t.dat) :
    Calls Try.prog 53 #[.agg #[i64 t.P.State, .bool t.P.Mark, .slice t.P.Args.A t.P.Args.n t.P.Args.c, .slice t.P.Part.A t.P.Part.n t.P.Part.c, i64 t.S.W, i64 t.S.H, i64 t.S.Main.W, i64 t.S.Main.H, .slice t.S.Main.Cells.A t.S.Main.Cells.n t.S.Main.Cells.c, i64 t.S.Alt.W, i64 t.S.Alt.H, .slice t.S.Alt.Cells.A t.S.Alt.Cells.n t.S.Alt.Cells.c, .bool t.S.OnAlt, i64 t.S.X, i64 t.S.Y, .bool t.S.Wrap, i64 t.S.A.Fg, i64 t.S.A.Bg, .bool t.S.A.Bold, .bool t.S.A.Under, .bool t.S.A.Turn, i64 t.S.Top, i64 t.S.Bot, .bool t.S.NoWrap, .bool t.S.Hide, i64 t.S.SaveX, i64 t.S.SaveY, i64 t.S.SaveA.Fg, i64 t.S.SaveA.Bg, .bool t.S.SaveA.Bold, .bool t.S.SaveA.Under, .bool t.S.SaveA.Turn, .slice t.S.Tabs.A t.S.Tabs.n t.S.Tabs.c, i64 t.S.Limit, .slice t.S.Back.A t.S.Back.n t.S.Back.c]] w fun e w' => ∃ r L1, e = .returned (.agg #[i64 r.P.State, .bool r.P.Mark, .slice r.P.Args.A r.P.Args.n r.P.Args.c, .slice r.P.Part.A r.P.Part.n r.P.Part.c, i64 r.S.W, i64 r.S.H, i64 r.S.Main.W, i64 r.S.Main.H, .slice r.S.Main.Cells.A r.S.Main.Cells.n r.S.Main.Cells.c, i64 r.S.Alt.W, i64 r.S.Alt.H, .slice r.S.Alt.Cells.A r.S.Alt.Cells.n r.S.Alt.Cells.c, .bool r.S.OnAlt, i64 r.S.X, i64 r.S.Y, .bool r.S.Wrap, i64 r.S.A.Fg, i64 r.S.A.Bg, .bool r.S.A.Bold, .bool r.S.A.Under, .bool r.S.A.Turn, i64 r.S.Top, i64 r.S.Bot, .bool r.S.NoWrap, .bool r.S.Hide, i64 r.S.SaveX, i64 r.S.SaveY, i64 r.S.SaveA.Fg, i64 r.S.SaveA.Bg, .bool r.S.SaveA.Bold, .bool r.S.SaveA.Under, .bool r.S.SaveA.Turn, .slice r.S.Tabs.A r.S.Tabs.n r.S.Tabs.c, i64 r.S.Limit, .slice r.S.Back.A r.S.Back.n r.S.Back.c]) ∧ St w [] L1 w' ∧ ownTermR r L1 ∧ r.dat = t.dat := by
 have nb_t_P_Args := f_t.P.Args_n
 have nl_t_P_Args := f_t.P.Args.len
 have nb_t_P_Part := f_t.P.Part_n
 have nl_t_P_Part := f_t.P.Part.len
 have nb_t_S_Main_Cells := f_t.S.Main.Cells_n
 have nl_t_S_Main_Cells := f_t.S.Main.Cells.len
 have nb_t_S_Alt_Cells := f_t.S.Alt.Cells_n
 have nl_t_S_Alt_Cells := f_t.S.Alt.Cells.len
 have nb_t_S_Tabs := f_t.S.Tabs_n
 have nl_t_S_Tabs := f_t.S.Tabs.len
 have nb_t_S_Back := f_t.S.Back_n
 have nl_t_S_Back := f_t.S.Back.sl.len
 refine enter 10 Try.func53 rfl Try.ntmps53 rfl rfl ?_
 have hs1 := St.init w
 refine WC.sr (WL.bx hs1 rfl (fun b2 _ hs3 => WL.al hs3 Try.zeroValue49 rfl rfl (fun b4 _ hs5 => WL.nil (WC.seq (fun K6 hK6 => WC.rH hs5.d1 hs5 (fun _ hs7 => ?_))))))
 refine WH.rn [0, 1, 3, 4] hs7.d1 [0, 0] rfl rfl (WH.o1 2 rfl (WL.cl Try.call81 rfl (k89_ t.P _ (okVpR.st0 f_t.P hs7) ?_) ?_))
 · first | assumption | rfl | omega | exact hsm.1 | exact hsm.2
 rintro _ whs8 ⟨r9, L1_10, rfl, hs8, ho11, hd12⟩
 replace hs8 := hs7.callF hs8
 refine ⟨_, rfl, ?_⟩
 replace hs8 := St.back [_, _] hs8
 have hvp := hd12
 refine WL.nil ⟨(hs8.d1.rm L1_10), WH.o1 5 rfl (WL.cl Try.call62 rfl (k32_ t.S _ (okScrR.st0 f_t.S hs8) ?_) ?_)⟩
 · first | assumption | rfl | omega | exact hsm.1 | exact hsm.2
 rintro _ whs13 ⟨r14, L1_15, rfl, hs13, ho16, hd17⟩
 replace hs13 := hs8.callF hs13
 refine ⟨_, rfl, ?_⟩
 replace hs13 := St.back [_, _] hs13
 have hsp := hd17
 refine WL.nil ⟨((hs13.d1.rm L1_15).rm L1_10), ?_⟩
 refine WH.take 6 rfl (by kernel_rfl) rfl rfl rfl ((hs13.d1.rm L1_15).rm L1_10) (fun w_ hs_ => (Run.build rfl rfl rfl rfl (built_49_0_1 _ _ _ _ _ _ _ _ _ _ _ _ _ _ _ _ _ _ _ _ _ _ _ _ _ _ _ _ _ _ _ _ _ _ _))) ?_
 refine WH.o1 7 rfl (WL.st tbk hs13 0 rfl rfl (fun _ hs18 => WL.nil ⟨((hs18.d1.rm L1_15).rm L1_10), WH.dn (hK6 _ _ (WC.ret (retV1 rfl (resV.cellA tbk hs18 0 rfl rfl rfl rfl) ?_)))⟩))
 obtain ⟨L19, L20, hs23, ho21, ho22⟩ := ownVpR.op hs18 ho11
 have hs24 := ((hs23.fb b2).fb b4)
 obtain ⟨L25, L26, L27, L28, hs33, ho29, ho30, ho31, ho32⟩ := ownScrR.op hs24 ho16
 have hs34 := ((hs33.fb b2).fb b4)
 obtain ⟨L36, hs35, ho37⟩ := ownTermR.fl hs34 ho21 ho22 ho29 ho30 ho31 ho32
 have hs38 := ((hs35.fb b2).fb b4)
 refine ownTermR.ret rfl (St.keep1 (hs38.fr L36)) ho37 ?_
 · exact TermD.ext' hvp hsp
theorem built_49 : Try.prog.built 49 [] = some (List.toArray [.int .i64 0, .bool false, .slice none 0 0, .slice none 0 0, .int .i64 0, .int .i64 0, .int .i64 0, .int .i64 0, .slice none 0 0, .int .i64 0, .int .i64 0, .slice none 0 0, .bool false, .int .i64 0, .int .i64 0, .bool false, .int .i64 0, .int .i64 0, .bool false, .bool false, .bool false, .int .i64 0, .int .i64 0, .bool false, .bool false, .int .i64 0, .int .i64 0, .int .i64 0, .int .i64 0, .bool false, .bool false, .bool false, .slice none 0 0, .int .i64 0, .slice none 0 0]) := by kernel_rfl
theorem k98_ (t : TermR) (A_b : Option Addr) (n_b c_b : Nat) (b : List UInt8) (w : World) (f_t : okTermR 549755813888 w t) (f_b : SlF encB w A_b n_b b) (hsm : smTerm 1048576 t.dat) (hn : n_b ≤ 1048576) :
    Calls Try.prog 19 #[.agg #[i64 t.P.State, .bool t.P.Mark, .slice t.P.Args.A t.P.Args.n t.P.Args.c, .slice t.P.Part.A t.P.Part.n t.P.Part.c, i64 t.S.W, i64 t.S.H, i64 t.S.Main.W, i64 t.S.Main.H, .slice t.S.Main.Cells.A t.S.Main.Cells.n t.S.Main.Cells.c, i64 t.S.Alt.W, i64 t.S.Alt.H, .slice t.S.Alt.Cells.A t.S.Alt.Cells.n t.S.Alt.Cells.c, .bool t.S.OnAlt, i64 t.S.X, i64 t.S.Y, .bool t.S.Wrap, i64 t.S.A.Fg, i64 t.S.A.Bg, .bool t.S.A.Bold, .bool t.S.A.Under, .bool t.S.A.Turn, i64 t.S.Top, i64 t.S.Bot, .bool t.S.NoWrap, .bool t.S.Hide, i64 t.S.SaveX, i64 t.S.SaveY, i64 t.S.SaveA.Fg, i64 t.S.SaveA.Bg, .bool t.S.SaveA.Bold, .bool t.S.SaveA.Under, .bool t.S.SaveA.Turn, .slice t.S.Tabs.A t.S.Tabs.n t.S.Tabs.c, i64 t.S.Limit, .slice t.S.Back.A t.S.Back.n t.S.Back.c], .slice A_b n_b c_b] w fun e w' => ∃ r L1, e = .returned (.agg #[i64 r.P.State, .bool r.P.Mark, .slice r.P.Args.A r.P.Args.n r.P.Args.c, .slice r.P.Part.A r.P.Part.n r.P.Part.c, i64 r.S.W, i64 r.S.H, i64 r.S.Main.W, i64 r.S.Main.H, .slice r.S.Main.Cells.A r.S.Main.Cells.n r.S.Main.Cells.c, i64 r.S.Alt.W, i64 r.S.Alt.H, .slice r.S.Alt.Cells.A r.S.Alt.Cells.n r.S.Alt.Cells.c, .bool r.S.OnAlt, i64 r.S.X, i64 r.S.Y, .bool r.S.Wrap, i64 r.S.A.Fg, i64 r.S.A.Bg, .bool r.S.A.Bold, .bool r.S.A.Under, .bool r.S.A.Turn, i64 r.S.Top, i64 r.S.Bot, .bool r.S.NoWrap, .bool r.S.Hide, i64 r.S.SaveX, i64 r.S.SaveY, i64 r.S.SaveA.Fg, i64 r.S.SaveA.Bg, .bool r.S.SaveA.Bold, .bool r.S.SaveA.Under, .bool r.S.SaveA.Turn, .slice r.S.Tabs.A r.S.Tabs.n r.S.Tabs.c, i64 r.S.Limit, .slice r.S.Back.A r.S.Back.n r.S.Back.c]) ∧ St w [] L1 w' ∧ ownTermR r L1 ∧ r.dat = termFeedRes t.dat b := by
 have nb_t_P_Args := f_t.P.Args_n
 have nl_t_P_Args := f_t.P.Args.len
 have nb_t_P_Part := f_t.P.Part_n
 have nl_t_P_Part := f_t.P.Part.len
 have nb_t_S_Main_Cells := f_t.S.Main.Cells_n
 have nl_t_S_Main_Cells := f_t.S.Main.Cells.len
 have nb_t_S_Alt_Cells := f_t.S.Alt.Cells_n
 have nl_t_S_Alt_Cells := f_t.S.Alt.Cells.len
 have nb_t_S_Tabs := f_t.S.Tabs_n
 have nl_t_S_Tabs := f_t.S.Tabs.len
 have nb_t_S_Back := f_t.S.Back_n
 have nl_t_S_Back := f_t.S.Back.sl.len
 have hsmB : smTerm 549755813888 t.dat := smTerm_mono hsm (by decide)
 have hbl := f_b.len
 refine enter 35 Try.func19 rfl Try.ntmps19 rfl rfl ?_
 have hs1 := St.init w
 refine WC.sr (WL.bx hs1 rfl (fun b2 _ hs3 => WL.al hs3 Try.zeroValue49 rfl rfl (fun b4 _ hs5 => WL.nil (WC.seq (fun K6 hK6 => WC.sr (WL.r 1 hs5 [1] rfl (WL.cl Try.call21 rfl (k96_ t _ (okTermR.st0 f_t hs5)) ?_)))))))
 rintro _ whs7 ⟨rfl, hs7⟩
 replace hs7 := hs5.call0 hs7
 refine ⟨_, rfl, WL.r 1 hs7 [] rfl (WL.nil (WC.cq rfl (fun h8 qh8 => ?_) (fun h8 qh8 => ?_)))⟩
 ·have hok : termOk t.dat = false := by have h9 := h8; simpa using h9
  refine WC.sr ?_
  refine WL.val rfl rfl rfl (Run.build rfl rfl rfl rfl (built_49)) (WL.st tbk hs7 0 rfl rfl (fun _ hs9 => WL.nil (WC.ret (tkR ?_))))
  clear hK6
  refine retV1 rfl (resV.cellA tbk hs9 0 rfl rfl rfl rfl) ?_
  obtain ⟨L17, hs16, ho18⟩ := ownTermR.fl hs9 (OwnF.nil _ _) (OwnF.nil _ _) (OwnF.nil _ _) (OwnF.nil _ _) (OwnF.nil _ _) (OwnN.nil _ _ _)
  have hs19 := ((hs16.fb b2).fb b4)
  refine ownTermR.ret rfl (St.keep1 (hs19.fr L17)) ho18 ?_
  · unfold termFeedRes; rw [hok]; rfl
 have hok : termOk t.dat = true := by have h9 := h8; simpa using h9
 obtain ⟨hv, hs⟩ := termOk_P hok
 have hargs := vpParse_args (l := b) hv
 refine WC.skip (hK6 _ _ (WC.sr (WL.r 1 hs7 [1] rfl ?_)))
 refine WL.cl Try.call53 rfl (k97_ t _ (okTermR.st0 f_t hs7) ?_) ?_
 · first | assumption | rfl | omega | exact hsm.1 | exact hsm.2
 rintro _ whs20 ⟨r21, L1_22, rfl, hs20, ho23, hd24⟩
 replace hs20 := hs7.callF hs20
 refine ⟨_, rfl, ?_⟩
 replace hs20 := St.back [_, _] hs20
 have hvc : vpOk r21.P.dat = true := (congrArg vpOk (congrArg TermD.P hd24)).trans hv
 have hsc : smVp 1048576 r21.P.dat := by have h9 : r21.P.dat = t.P.dat := congrArg TermD.P hd24; rw [h9]; exact hsm.1
 refine WL.buildF (F := encActR) hs20 ([]) Try.runUnderlying88 Try.sizeOf92 Try.zeroValue92 rfl rfl rfl rfl rfl rfl rfl rfl rfl rfl rfl rfl (fun A28 c29 L25 whs26 hs26 ho27 => ?_)
 replace hs26 := St.back [_, _] hs26
 obtain ⟨L30, hs31, ho32⟩ := OwnN.fresh (own := ownActR) (hs26.fr L25) ho27 Bag.nil
 have hs33 := ((hs31.fb b2).fb b4)
 refine WL.al hs33 Try.zeroValue49 rfl rfl (fun b34 _ hs35 => WL.st tbk hs35 0 rfl rfl (fun _ hs36 => WL.r 1 hs36 [] rfl (WL.nil (WC.sr (WL.r 3 hs36 [0] rfl ?_)))))
 refine WL.cl Try.call54 rfl (k95_ r21.P _ _ _ _ _ (ownTermR.ok (B := 549755813888) ho23 (hs36.ow L1_22) (by rw [hd24]; assumption)).P (SlF.st0 f_b hs36) ?_ ?_ ?_) ?_
 iterate 3 first | assumption | rfl | omega | exact hsm.1 | exact hsm.2
 rintro _ whs37 ⟨r0_38, L0_39, A1_40, c1_41, x1_42, L1_43, rfl, hs37, ho44, ho45, hd0_46, hd1_47⟩
 replace hs37 := hs36.callF hs37
 refine ⟨_, rfl, ?_⟩
 replace hs37 := St.assoc hs37
 replace hs37 := St.back2 [_, _, _] hs37
 have hpe : r21.P.dat = t.P.dat := congrArg TermD.P hd24
 have hpp : r0_38.dat = (vpParse t.P.dat b).1 := by rw [← hpe]; exact hd0_46
 have hpx : x1_42.map ActR.dat = (vpParse t.P.dat b).2 := by rw [← hpe]; exact hd1_47
 have s1 : ∀ y, y ∈ x1_42.map ActR.dat → smAct 549755813888 y := by rw [hpx]; exact fun y hy => Nat.le_trans (areArgs_iff.1 (hargs y hy)).1 (by decide)
 have hxl : x1_42.length ≤ 1048576 := by have h9 := congrArg List.length hpx; rw [List.length_map] at h9; have h8 := vpParse_len (v := t.P.dat) (l := b); omega
 refine WL.r 4 hs37 [] rfl (WL.st tbk hs37 0 rfl rfl (fun _ hs48 => WL.r 1 hs48 [] rfl (WL.nil (WC.seq (fun K49 hK49 => WC.r1 hs48 [] rfl (WC.block ?_))))))
 obtain ⟨L50, L51, L52, L53, L54, L55, hs62, ho56, ho57, ho58, ho59, ho60, ho61⟩ := ownTermR.op hs48 ho23
 have hs63 := (((hs62.fb b2).fb b4).fb b34)
 obtain ⟨L65, hs64, ho66⟩ := ownScrR.fl hs63 ho58 ho59 ho60 ho61
 have hs67 := (((hs64.fb b2).fb b4).fb b34)
 have hM72 := (St.grp1 (L1 := L65) [_] (((((((((hs67.fr L30).fr L1_43).fr L0_39).fr L51).fr L50).fb b2).fb b4).fr L65).fb b34))
 refine WC.lV [4, 5, 11, 24, 25] rfl hM72 (fun k_ (a_ : Hp) f => ∃ (i : Nat) (r : ScrR) (L70 : Hp), k_ = x1_42.length - i ∧ a_ = [(b34, .cells (List.toArray (i64 r0_38.State :: .bool r0_38.Mark :: .slice r0_38.Args.A r0_38.Args.n r0_38.Args.c :: .slice r0_38.Part.A r0_38.Part.n r0_38.Part.c :: [i64 r.W, i64 r.H, i64 r.Main.W, i64 r.Main.H, .slice r.Main.Cells.A r.Main.Cells.n r.Main.Cells.c, i64 r.Alt.W, i64 r.Alt.H, .slice r.Alt.Cells.A r.Alt.Cells.n r.Alt.Cells.c, .bool r.OnAlt, i64 r.X, i64 r.Y, .bool r.Wrap, i64 r.A.Fg, i64 r.A.Bg, .bool r.A.Bold, .bool r.A.Under, .bool r.A.Turn, i64 r.Top, i64 r.Bot, .bool r.NoWrap, .bool r.Hide, i64 r.SaveX, i64 r.SaveY, i64 r.SaveA.Fg, i64 r.SaveA.Bg, .bool r.SaveA.Bold, .bool r.SaveA.Under, .bool r.SaveA.Turn, .slice r.Tabs.A r.Tabs.n r.Tabs.c, i64 r.Limit, .slice r.Back.A r.Back.n r.Back.c])) 49 (0, 0))] ++ L70 ∧ (i ≤ x1_42.length) ∧ (r.dat = actsD t.S.dat ((x1_42.take i).map ActR.dat)) ∧ ownScrR r L70 ∧ Sub [(26, .int .i64 i)] f) (((fun (i : Nat) => x1_42.length - i) (0))) ?_ ?_
 ·refine ⟨0, ⟨r21.S.W, r21.S.H, ⟨r21.S.Main.W, r21.S.Main.H, SlD.of ho58⟩, ⟨r21.S.Alt.W, r21.S.Alt.H, SlD.of ho59⟩, r21.S.OnAlt, r21.S.X, r21.S.Y, r21.S.Wrap, ⟨r21.S.A.Fg, r21.S.A.Bg, r21.S.A.Bold, r21.S.A.Under, r21.S.A.Turn⟩, r21.S.Top, r21.S.Bot, r21.S.NoWrap, r21.S.Hide, r21.S.SaveX, r21.S.SaveY, ⟨r21.S.SaveA.Fg, r21.S.SaveA.Bg, r21.S.SaveA.Bold, r21.S.SaveA.Under, r21.S.SaveA.Turn⟩, SlD.of ho60, r21.S.Limit, SlD.ofN ho61⟩, L65, rfl, rfl, ?_, ?_, (by exact ho66), ⟨rfl, trivial⟩⟩
  · exact Nat.zero_le _
  · exact congrArg TermD.S hd24
 rintro _ _ f w ⟨i, r, L70, rfl, rfl, p0, p1, ho71, hG⟩ hF hs73
 refine WC.sub _ (hG.app hF) ?_
 clear hG hF
 replace hs73 := St.ungrp1 [_] hs73
 have hs74 := (((hs73.fb b2).fb b4).fb b34)
 have hfr : ScrFine r.dat := by rw [p1]; exact (ScrFine.of hs).acts (acts_take hpx hargs)
 have hsmr : smScr 549755813888 r.dat := fine_smB hfr (by decide)
 have hsm1 : smScr 1048576 r.dat := fine_smB hfr (by decide)
 refine WC.r1 hs74 [] rfl (WC.seq (fun K75 hK75 => ?_))
 refine WC.cq rfl (fun h76 qh76 => ?_) (fun h76 qh76 => ?_)
 ·have hil : i < x1_42.length := by have h9 := h76; simp at h9; omega
  have haa : areArgs (gat encActR x1_42 i).dat.Args = true := acts_gat hpx hargs hil
  have hanA := (SlN.nth (OwnN.ok ho45 (hs74.ow L1_43) (fun y Li hy h3 hl => h3.ok hl (by have h9_ := List.mem_map_of_mem (f := ActR.dat) hy; first | exact s1 _ h9_))) hil).Args_n
  refine WC.skip (hK75 _ _ (WC.seq (fun K77 hK77 => WC.block (WC.sr ?_))))
  refine WL.val rfl rfl rfl (Run.idxN Try.runUnderlying88 Try.sizeOf92 rfl rfl rfl ?_ ?_ ?_) ?_
  · exact SlF.some_ (OwnN.sl ho45 (hs74.ow L1_43))
  · omega
  · omega
  refine WL.val rfl rfl rfl (Run.loadA Try.isAgg92 Try.sizeOf92 rfl rfl (SlF.whole (OwnN.sl ho45 (hs74.ow L1_43)) ?_)) ?_
  · omega
  refine WL.al hs74 Try.zeroValue92 rfl rfl (fun b78 _ hs79 => WL.st tbk hs79 0 rfl rfl (fun _ hs80 => WL.nil (WC.region (WL.r 2 hs80 [0] rfl ?_))))
  have hF81 := ((hs80.fr L70).fb b34)
  refine WL.cl Try.call55 rfl (k88_ _ _ _ _ _ r _ _ _ (St.headP hF81) ho71 (St.ownP hF81) (SlN.nth (OwnN.ok ho45 (hs80.ow L1_43) (fun y Li hy h3 hl => h3.ok hl (by have h9_ := List.mem_map_of_mem (f := ActR.dat) hy; first | exact s1 _ h9_))) (by omega)).Args (OwnN.sep1 (L1 := (_, _) :: _) hF81 (fun p_ hp_ => (List.mem_append_right [_, _, _] (List.mem_append_right _ (List.mem_append_right _ (List.mem_append_right _ (List.mem_append_left _ hp_)))))) ho45 (by omega) (fun _ h_ => h_)) (St.nodupP hF81) ?_ ?_ ?_ ?_) ?_
  iterate 4 first | assumption | rfl | omega | exact hsm.1 | exact hsm.2
  rintro _ whs82 ⟨r83, L84, rfl, hs82, ho85, hd86⟩
  replace hs82 := St.lendP hF81 hs82
  refine ⟨_, rfl, ?_⟩
  have hs87 := ((((hs82.fb b2).fb b4).fb b78).fb b34)
  refine WL.nil (hK77 _ _ (WC.region (WL.r 2 hs87 [] rfl (WL.nil (tkN ?_)))))
  replace hs87 := (hs87.fb b78).d1
  have hF88 := (St.grp1 (L1 := L84) [_] (((((((((hs87.fr L30).fr L1_43).fr L0_39).fr L51).fr L50).fb b2).fb b4).fr L84).fb b34))
  refine ⟨sbF rfl, _, hF88, _, ?_, i + 1, r83, L84, rfl, rfl, ?_, ?_, ho85, ⟨rfl, trivial⟩⟩
  · omega
  · omega
  · rw [actsD_next (by omega), ← p1]; exact hd86
 have hil : i = x1_42.length := by have h9 := h76; simp at h9; omega
 have hfin : r.dat = actsD t.S.dat (vpParse t.P.dat b).2 := by rw [p1, hil, List.take_length, hpx]
 refine WC.exit (hK49 _ _ (WC.sr (WL.r 1 hs74 [0] rfl (WL.st tbk hs74 1 rfl rfl (fun _ hs89 => WL.nil (WC.ret (retV1 rfl (resV.cellA tbk hs89 1 rfl rfl rfl rfl) ?_)))))))
 obtain ⟨L90, L91, hs94, ho92, ho93⟩ := ownVpR.op hs89 ho44
 have hs95 := (((hs94.fb b2).fb b4).fb b34)
 obtain ⟨L96, L97, L98, L99, hs104, ho100, ho101, ho102, ho103⟩ := ownScrR.op hs95 ho71
 have hs105 := (((hs104.fb b2).fb b4).fb b34)
 obtain ⟨L107, hs106, ho108⟩ := ownTermR.fl hs105 ho92 ho93 ho100 ho101 ho102 ho103
 have hs109 := (((hs106.fb b2).fb b4).fb b34)
 refine ownTermR.ret rfl (St.keep1 (hs109.fr L107)) ho108 ?_
 · unfold termFeedRes; rw [if_pos hok]; exact TermD.ext' hpp hfin
theorem cat_map {f : Nat → CellD} {n k : Nat} (h : k < n) : cat ((List.range n).map f) k = f k := by
 unfold cat
 rw [gat_lt (by simpa using h)]
 simp
theorem gmap_cat {g : GridD} {f : Nat → CellD} {k : Nat} (h : k < g.Cells.length) : cat (gmap g f).Cells k = f k := cat_map h
structure OnA (s r : ScrD) : Prop where
 fine : ScrFine r
 on : r.OnAlt = true
 main : r.Main = s.Main
 x : r.SaveX = s.X
 y : r.SaveY = s.Y
 a : r.SaveA = s.A
 b : r.Back = s.Back
structure Keeps (r t : ScrD) : Prop where
 on : t.OnAlt = r.OnAlt
 main : t.Main = r.Main
 x : t.SaveX = r.SaveX
 y : t.SaveY = r.SaveY
 a : t.SaveA = r.SaveA
 b : t.Back = r.Back
theorem Keeps.refl {r : ScrD} : Keeps r r := ⟨rfl, rfl, rfl, rfl, rfl, rfl⟩
theorem Keeps.trans {r t u : ScrD} (h : Keeps r t) (g : Keeps t u) : Keeps r u := ⟨g.on.trans h.on, g.main.trans h.main, g.x.trans h.x, g.y.trans h.y, g.a.trans h.a, g.b.trans h.b⟩
theorem keeps_ite {p : Prop} [Decidable p] {r a b : ScrD} (ha : Keeps r a) (hb : Keeps r b) : Keeps r (if p then a else b) := by split <;> assumption
theorem keeps_put {r : ScrD} {g : GridD} (h : r.OnAlt = true) : Keeps r (putD r g) := by unfold putD; rw [if_pos h]; exact ⟨rfl, rfl, rfl, rfl, rfl, rfl⟩
theorem keeps_rollUp {r : ScrD} {n : Int} (h : r.OnAlt = true) : Keeps r (rollUpD r n) := by
 have e : keepD r n = r := by unfold keepD; rw [if_neg]; rw [h]; exact fun q => Bool.noConfusion q.1
 unfold rollUpD rollD
 rw [e]
 exact keeps_put h
theorem keeps_wrap {r t : ScrD} {b : Bool} (h : Keeps r t) : Keeps r (wrapD t b) := ⟨h.on, h.main, h.x, h.y, h.a, h.b⟩
theorem keeps_x {r t : ScrD} {x : Int} (h : Keeps r t) : Keeps r { t with X := x } := ⟨h.on, h.main, h.x, h.y, h.a, h.b⟩
theorem keeps_down {r : ScrD} (h : r.OnAlt = true) : Keeps r (downD r) := by
 unfold downD
 exact keeps_wrap (keeps_ite (keeps_rollUp h) (keeps_ite ⟨rfl, rfl, rfl, rfl, rfl, rfl⟩ Keeps.refl))
theorem keeps_rune {r : ScrD} {q : Int} (h : r.OnAlt = true) : Keeps r (runeD r q) := by
 have h1 : Keeps r (if r.Wrap = true then { downD r with X := 0 } else r) := keeps_ite (keeps_x (keeps_down h)) Keeps.refl
 unfold runeD
 generalize (if r.Wrap = true then { downD r with X := 0 } else r) = s1 at h1
 have h2 := h1.trans (keeps_put (g := gFill (shownD s1) s1.X s1.Y 1 1 ⟨q, s1.A⟩) (h1.on.trans h))
 show Keeps r (if s1.X = s1.W - 1 then _ else _)
 exact keeps_ite (keeps_wrap h2) (keeps_x h2)
theorem OnA.of {s r t : ScrD} (h : OnA s r) (g : Keeps r t) (f : ScrFine t) : OnA s t := ⟨f, g.on.trans h.on, g.main.trans h.main, g.x.trans h.x, g.y.trans h.y, g.a.trans h.a, g.b.trans h.b⟩
theorem OnA.rune {s r : ScrD} {q : Int} (h : OnA s r) : OnA s (scrRuneRes r q) := by
 unfold scrRuneRes
 rw [if_pos h.fine.ok]
 split
 ·rename_i hq; exact h.of (keeps_rune h.on) (h.fine.rune hq)
 ·exact h
theorem OnA.down {s r : ScrD} (h : OnA s r) : OnA s (scrDownRes r) := by
 unfold scrDownRes
 rw [if_pos h.fine.ok]
 exact h.of (keeps_down h.on) h.fine.down
theorem ub_self {a : UInt8} : ub (a.toNat : Int) = a := by apply u8_inj; rw [ub_toNat]; have := UInt8.toNat_lt a; omega
theorem rtry_hi {a : UInt8} {l : List UInt8} (h : 127 ≤ a.toNat) : rtry (a :: l) 1 = false := by
 rw [← Bool.not_eq_true, rtry1]; omega
theorem vpPlain_beg {p : List UInt8} {b : UInt8} (hb : 128 ≤ b.toNat) (hr : ¬ rvS (runeL (p ++ [b])) = (p ++ [b]).length) (hg : runeBeg (p ++ [b]) = true) : vpPlain p b.toNat = (⟨0, false, [], p ++ [b]⟩, act0) := by
 unfold vpPlain
 rw [ub_self, if_neg (by omega), if_neg (by omega), if_neg hr, if_pos hg]
theorem vpPlain_end {p : List UInt8} {b : UInt8} {q : Int} (hb : 128 ≤ b.toNat) (hr : runeL (p ++ [b]) = some (q, (p ++ [b]).length)) : vpPlain p b.toNat = (vp0, ⟨1, q, false, []⟩) := by
 unfold vpPlain
 rw [ub_self, if_neg (by omega), if_neg (by omega), hr]
 exact if_pos rfl
theorem vpStep_plain {p : List UInt8} {b : UInt8} (hb : 32 ≤ b.toNat) : vpStep ⟨0, false, [], p⟩ b.toNat = vpPlain p b.toNat := by
 unfold vpStep
 rw [if_neg (by omega), if_neg (by omega), if_pos rfl]
theorem runeL_one {a : UInt8} (h : 127 ≤ a.toNat) : ¬ rvS (runeL [a]) = 1 := by
 rw [runeL_none]
 ·exact fun h => by cases h
 ·intro t h1 h3
  rcases (by omega : t = 1 ∨ t = 2 ∨ t = 3) with rfl | rfl | rfl
  ·exact rtry_hi h
  ·exact rtry_len (by simp)
  ·exact rtry_len (by simp)
theorem vpParse_rune {q : Int} (h : shows q = true) : vpParse vp0 (runeB q) = (vp0, [⟨1, q, false, []⟩]) := by
 have hs := shows_iff.1 h
 unfold runeB
 rw [if_neg (by rw [h]; decide)]
 by_cases h1 : q < 128
 ·rw [if_pos h1]
  have e : ((ub q).toNat : Int) = q := by rw [ub_toNat]; omega
  have s1 : vpStep vp0 (ub q).toNat = (vp0, ⟨1, q, false, []⟩) := by
   rw [vpStep_plain (by omega), e]
   unfold vpPlain
   rw [if_neg (by omega), if_pos (by omega)]
  show ((vpParse (vpStep vp0 (ub q).toNat).1 []).1, (if (vpStep vp0 (ub q).toNat).2.Kind = 0 then [] else [(vpStep vp0 (ub q).toNat).2]) ++ (vpParse (vpStep vp0 (ub q).toNat).1 []).2) = _
  rw [s1]; rfl
 ·rw [if_neg h1]
  by_cases h2 : q < 2048
  ·rw [if_pos h2]
   have ea : ((ub (192 + q / 64)).toNat : Int) = 192 + q / 64 := by rw [ub_toNat]; omega
   have eb : ((ub (128 + q % 64)).toNat : Int) = 128 + q % 64 := by rw [ub_toNat]; omega
   have hq : runeB q = [ub (192 + q / 64), ub (128 + q % 64)] := by unfold runeB; rw [if_neg (by rw [h]; decide), if_neg h1, if_pos h2]
   generalize ub (192 + q / 64) = a at *
   generalize ub (128 + q % 64) = b at *
   have s1 : vpStep vp0 a.toNat = (⟨0, false, [], [a]⟩, act0) := by
    rw [vpStep_plain (by omega)]
    exact vpPlain_beg (p := []) (by omega) (runeL_one (by omega)) (within_iff.2 (by omega))
   have hc : cand [a, b] 2 = q := by show ((a.toNat : Int) - 192) * 64 + b.toNat - 128 = q; omega
   have hr : runeL [a, b] = some (q, 2) := by
    have := runeL_at (l := [a, b]) (s := 2) (by unfold rtry; rw [hc, hq]; simp) (by omega) (by omega) (fun t h1 h2 => by rw [show t = 1 by omega]; exact rtry_hi (by omega))
    rw [this, hc]
   have s2 : vpStep ⟨0, false, [], [a]⟩ b.toNat = (vp0, ⟨1, q, false, []⟩) := by
    rw [vpStep_plain (by omega)]
    exact vpPlain_end (p := [a]) (by omega) hr
   simp only [vpParse, s1, s2]
   rfl
  ·rw [if_neg h2]
   have ea : ((ub (224 + q / 4096)).toNat : Int) = 224 + q / 4096 := by rw [ub_toNat]; omega
   have eb : ((ub (128 + q / 64 % 64)).toNat : Int) = 128 + q / 64 % 64 := by rw [ub_toNat]; omega
   have ec : ((ub (128 + q % 64)).toNat : Int) = 128 + q % 64 := by rw [ub_toNat]; omega
   have hq : runeB q = [ub (224 + q / 4096), ub (128 + q / 64 % 64), ub (128 + q % 64)] := by unfold runeB; rw [if_neg (by rw [h]; decide), if_neg h1, if_neg h2]
   generalize ub (224 + q / 4096) = a at *
   generalize ub (128 + q / 64 % 64) = b at *
   generalize ub (128 + q % 64) = c at *
   have s1 : vpStep vp0 a.toNat = (⟨0, false, [], [a]⟩, act0) := by
    rw [vpStep_plain (by omega)]
    exact vpPlain_beg (p := []) (by omega) (runeL_one (by omega)) (within_iff.2 (by omega))
   have no2 : ∀ l, rtry (a :: b :: l) 2 = false := by
    intro l
    rw [← Bool.not_eq_true]
    intro hh
    unfold rtry at hh
    rw [Bool.and_eq_true, decide_eq_true_eq, decide_eq_true_eq] at hh
    have hl := congrArg List.length hh.2
    have hc : cand (a :: b :: l) 2 = ((a.toNat : Int) - 192) * 64 + b.toNat - 128 := rfl
    have h9 : 2048 ≤ cand (a :: b :: l) 2 := by rw [hc]; omega
    generalize cand (a :: b :: l) 2 = z at *
    unfold runeB at hl
    rw [if_neg (show ¬ z < 128 by omega), if_neg (show ¬ z < 2048 by omega)] at hl
    split at hl <;> simp at hl
   have r2 : ¬ rvS (runeL [a, b]) = 2 := by
    rw [runeL_none]
    ·exact fun h => by cases h
    ·intro t h1 h3
     rcases (by omega : t = 1 ∨ t = 2 ∨ t = 3) with rfl | rfl | rfl
     ·exact rtry_hi (by omega)
     ·exact no2 []
     ·exact rtry_len (by simp)
   have g2 : runeBeg [a, b] = true := by
    show (((decide (b.toNat / 64 = 2) && decide (224 ≤ a.toNat)) && decide (2048 ≤ ((a.toNat : Int) - 224) * 4096 + (b.toNat % 64 : Nat) * 64)) && shows (((a.toNat : Int) - 224) * 4096 + (b.toNat % 64 : Nat) * 64)) = true
    rw [Bool.and_eq_true, Bool.and_eq_true, Bool.and_eq_true, decide_eq_true_eq, decide_eq_true_eq, decide_eq_true_eq, shows_iff]
    omega
   have s2 : vpStep ⟨0, false, [], [a]⟩ b.toNat = (⟨0, false, [], [a, b]⟩, act0) := by
    rw [vpStep_plain (by omega)]
    exact vpPlain_beg (p := [a]) (by omega) r2 g2
   have hc : cand [a, b, c] 3 = q := by show (((a.toNat : Int) - 224) * 64 + b.toNat - 128) * 64 + c.toNat - 128 = q; omega
   have hr : runeL [a, b, c] = some (q, 3) := by
    have := runeL_at (l := [a, b, c]) (s := 3) (by unfold rtry; rw [hc, hq]; simp) (by omega) (by omega) (fun t h1 h2 => by
     rcases (by omega : t = 1 ∨ t = 2) with rfl | rfl
     ·exact rtry_hi (by omega)
     ·exact no2 [c])
    rw [this, hc]
   have s3 : vpStep ⟨0, false, [], [a, b]⟩ c.toNat = (vp0, ⟨1, q, false, []⟩) := by
    rw [vpStep_plain (by omega)]
    exact vpPlain_end (p := [a, b]) (by omega) hr
   simp only [vpParse, s1, s2, s3]
   rfl
def backL (b : List RowD) : List CellD := (b.map RowD.Cells).flatten
def flatL (s : ScrD) : List CellD := backL s.Back ++ s.Main.Cells
structure Wrote (w : Int) (l : List Int) (s : ScrD) (k : Nat) : Prop where
 fine : ScrFine s
 W : s.W = w
 H : s.H = 2
 lim : s.Limit = 10
 main : s.OnAlt = false
 top : s.Top = 0
 bot : s.Bot = 1
 nw : s.NoWrap = false
 rows : ∀ r, r ∈ s.Back → r.Cells.length = w.toNat
 pos : s.Back.length * w.toNat + s.Y.toNat * w.toNat + s.X.toNat + k = l.length
 txt : ∀ i, i < l.length → (cat (flatL s) i).R = iat l i
theorem cat_app {a b : List CellD} {i : Nat} : cat (a ++ b) i = if i < a.length then cat a i else cat b (i - a.length) := by
 unfold cat gat
 rw [List.getD_eq_getElem?_getD]
 split
 ·rename_i h; rw [List.getElem?_append_left h, List.getD_eq_getElem?_getD]
 ·rename_i h; rw [List.getElem?_append_right (by omega), List.getD_eq_getElem?_getD]
theorem backL_len {b : List RowD} {n : Nat} (h : ∀ r, r ∈ b → r.Cells.length = n) : (backL b).length = b.length * n := by
 unfold backL
 induction b with
 | nil => simp
 | cons x r ih =>
  rw [List.map_cons, List.flatten_cons, List.length_append, h x List.mem_cons_self, ih fun y hy => h y (List.mem_cons_of_mem _ hy), List.length_cons, Nat.add_mul]
  omega
theorem backL_snoc {b : List RowD} {r : RowD} : backL (b ++ [r]) = backL b ++ r.Cells := by unfold backL; simp
theorem Wrote.facts {w : Int} {l : List Int} {s : ScrD} {k : Nat} (h : Wrote w l s k) : (1 ≤ w ∧ (0 ≤ s.X ∧ s.X < w) ∧ 0 ≤ s.Y ∧ s.Y < 2) ∧ s.Back.length + s.Y.toNat ≤ l.length ∧ s.Main.W = w ∧ s.Main.Cells.length = 2 * w.toNat ∧ gridOk s.Main = true := by
 have hp := h.fine.pos
 have hd := h.fine.dim
 have hw := h.W
 have hh := h.H
 have hl := grid_len h.fine.gM
 have h1 : 1 ≤ w := by omega
 have e1 := Nat.le_mul_of_pos_right s.Back.length (show 0 < w.toNat by omega)
 have e2 := Nat.le_mul_of_pos_right s.Y.toNat (show 0 < w.toNat by omega)
 have hq := h.pos
 rw [hd.1, hd.2.1, hh, hw] at hl
 exact ⟨by omega, by omega, by omega, by omega, h.fine.gM⟩
theorem Wrote.len {w : Int} {l : List Int} {s : ScrD} {k : Nat} (h : Wrote w l s k) : (flatL s).length = s.Back.length * w.toNat + 2 * w.toNat := by
 unfold flatL
 rw [List.length_append, backL_len h.rows, h.facts.2.2.2.1]
theorem rollUp_eq {s : ScrD} (h1 : s.OnAlt = false) (h2 : s.Top = 0) (h3 : s.Bot = 1) (h4 : s.Back.length + 1 ≤ s.Limit.toNat) : rollUpD s 1 = { s with Back := s.Back ++ [rowAt s.Main 0], Main := gRoll s.Main 0 1 1 } := by
 have ek : keepD s 1 = { s with Back := s.Back ++ [rowAt s.Main 0] } := by
  unfold keepD
  rw [if_pos ⟨h1, h2⟩, show min (1 : Int) (s.Bot + 1) = 1 by omega]
  unfold keepRows
  rw [lastN_all]
  ·rfl
  ·rw [List.length_append, List.length_map, List.length_range]; exact h4
 unfold rollUpD rollD
 rw [ek, h2, h3]
 unfold putD shownD
 simp only [h1]
 rfl
theorem Wrote.next {w : Int} {l : List Int} {s : ScrD} (h : Wrote w l s 1) (hx : s.X = w - 1) (hl : l.length ≤ 9) : Wrote w l { downD s with X := 0 } 0 ∧ ({ downD s with X := 0 } : ScrD).Wrap = false := by
 obtain ⟨⟨f1, f2, f3, f4⟩, f5, f6, f7, f8⟩ := h.facts
 have hp := h.pos
 have hlim := h.lim
 have hfine : ScrFine { downD s with X := 0 } := h.fine.down.x0 rfl
 refine ⟨?_, rfl⟩
 by_cases hy : s.Y = 1
 ·have e : downD s = wrapD { s with Back := s.Back ++ [rowAt s.Main 0], Main := gRoll s.Main 0 1 1 } false := by
   unfold downD
   rw [if_pos (by rw [h.bot]; exact hy), rollUp_eq h.main h.top h.bot (by omega)]
  rw [e] at hfine ⊢
  have hrl : (rowAt s.Main 0).Cells.length = w.toNat := by
   show ((s.Main.Cells.drop _).take _).length = _
   rw [List.length_take, List.length_drop, f6, f7]; omega
  have hrows : ∀ r, r ∈ s.Back ++ [rowAt s.Main 0] → r.Cells.length = w.toNat := by
   intro r hr
   rcases List.mem_append.1 hr with hr | hr
   ·exact h.rows r hr
   ·rw [List.mem_singleton.1 hr]; exact hrl
  refine ⟨hfine, h.W, h.H, h.lim, h.main, h.top, h.bot, h.nw, hrows, ?_, ?_⟩
  ·show (s.Back ++ [rowAt s.Main 0]).length * w.toNat + s.Y.toNat * w.toNat + (0 : Int).toNat + 0 = l.length
   rw [List.length_append, List.length_singleton, Nat.add_mul, ← hp, hy]
   generalize s.Back.length * w.toNat = N
   rw [show (1 : Int).toNat = 1 from rfl, Nat.one_mul]
   omega
  ·intro i hi
   rw [← h.txt i hi]
   congr 1
   show cat (backL (s.Back ++ [rowAt s.Main 0]) ++ (gRoll s.Main 0 1 1).Cells) i = cat (backL s.Back ++ s.Main.Cells) i
   rw [backL_snoc, cat_app, cat_app, cat_app, List.length_append, hrl, backL_len h.rows]
   rw [hy, show (1 : Int).toNat = 1 from rfl, Nat.one_mul] at hp
   generalize s.Back.length * w.toNat = N at *
   by_cases c1 : i < N
   ·rw [if_pos (by omega), if_pos c1, if_pos c1]
   ·rw [if_neg c1, if_neg c1]
    by_cases c2 : i < N + w.toNat
    ·rw [if_pos c2]
     show gat encCell ((s.Main.Cells.drop (0 * s.Main.W.toNat)).take s.Main.W.toNat) (i - N) = _
     rw [gat_cut (by rw [f6]; omega), Nat.zero_mul, Nat.zero_add]
    ·rw [if_neg c2]
     have hj : i - (N + w.toNat) < w.toNat := by omega
     have hk : i - (N + w.toNat) < s.Main.Cells.length := by omega
     show cat (gmap s.Main (rollF s.Main 0 1 1)).Cells (i - (N + w.toNat)) = _
     rw [gmap_cat hk]
     unfold rollF
     rw [f6, Nat.div_eq_of_lt hj, Nat.mod_eq_of_lt hj, if_pos (by decide), if_pos (by decide)]
     congr 1
     rw [show (((0 : Nat) : Int) + 1).toNat = 1 from rfl, Nat.one_mul]
     omega
 ·have e : downD s = wrapD { s with Y := s.Y + 1 } false := by
   unfold downD
   rw [if_neg (by rw [h.bot]; exact hy), if_pos (by rw [h.H]; omega)]
  rw [e] at hfine ⊢
  have hy0 : s.Y = 0 := by omega
  refine ⟨hfine, h.W, h.H, h.lim, h.main, h.top, h.bot, h.nw, h.rows, ?_, h.txt⟩
  show s.Back.length * w.toNat + (s.Y + 1).toNat * w.toNat + (0 : Int).toNat + 0 = l.length
  rw [← hp, hy0]
  generalize s.Back.length * w.toNat = N
  rw [show ((0 : Int) + 1).toNat = 1 from rfl, show (0 : Int).toNat = 0 from rfl, Nat.one_mul, Nat.zero_mul]
  omega
theorem gFill_cat {g : GridD} {x y : Int} {c : CellD} {k : Nat} (hg : gridOk g = true) (hx : 0 ≤ x ∧ x < g.W) (hy : 0 ≤ y) (hk : k < g.Cells.length) : cat (gFill g x y 1 1 c).Cells k = if k = y.toNat * g.W.toNat + x.toNat then c else cat g.Cells k := by
 show cat (gmap g (fillFn g x y 1 1 c)).Cells k = _
 rw [gmap_cat hk]
 unfold fillFn
 have e := dm_at (k := k) (w := g.W.toNat) (a := y.toNat) (b := x.toNat) (by omega)
 by_cases c1 : k = y.toNat * g.W.toNat + x.toNat
 ·have := e.2 c1
  rw [if_pos c1, if_pos (by omega)]
 ·rw [if_neg c1, if_neg (fun q => c1 (e.1 (by omega)))]
theorem Wrote.put {w : Int} {l : List Int} {s : ScrD} {q : Int} (h : Wrote w l s 0) (hw : s.Wrap = false) (hq : shows q = true) : Wrote w (l ++ [q]) (runeD s q) (if (runeD s q).Wrap = true then 1 else 0) := by
 obtain ⟨⟨f1, f2, f3, f4⟩, f5, f6, f7, f8⟩ := h.facts
 have hp := h.pos
 have hfine := h.fine.rune hq
 have e : runeD s q = if s.X = w - 1 then { s with Main := gFill s.Main s.X s.Y 1 1 ⟨q, s.A⟩, Wrap := true } else { s with Main := gFill s.Main s.X s.Y 1 1 ⟨q, s.A⟩, X := s.X + 1 } := by
  unfold runeD
  simp only [hw, Bool.false_eq_true, if_false]
  unfold putD shownD wrapD
  simp only [h.main, h.nw, Bool.false_eq_true, if_false]
  rw [h.W, hw]
  try rfl
 have key : ∀ i, i < (l ++ [q]).length → (cat (backL s.Back ++ (gFill s.Main s.X s.Y 1 1 ⟨q, s.A⟩).Cells) i).R = iat (l ++ [q]) i := by
  intro i hi
  rw [List.length_append, List.length_singleton] at hi
  have ht := h.txt i
  unfold flatL at ht
  rw [cat_app, backL_len h.rows] at ht ⊢
  have hy2 : s.Y.toNat * w.toNat = 0 ∨ s.Y.toNat * w.toNat = w.toNat := by
   rcases (by omega : s.Y = 0 ∨ s.Y = 1) with hy | hy
   ·left; rw [hy]; exact Nat.zero_mul _
   ·right; rw [hy]; exact Nat.one_mul _
  rcases Nat.lt_or_ge i l.length with h1 | h1
  ·have hi2 : iat (l ++ [q]) i = iat l i := by show gat encI _ _ = gat encI _ _; unfold gat; rw [List.getD_eq_getElem?_getD, List.getElem?_append_left h1, List.getD_eq_getElem?_getD]
   rw [hi2, ← ht h1]
   generalize s.Back.length * w.toNat = N at *
   split
   ·rfl
   ·rw [gFill_cat f8 (by rw [f6]; exact f2) f3 (by omega), if_neg (by rw [f6]; omega)]
  ·have hi2 : iat (l ++ [q]) i = q := by show gat encI _ _ = _; rw [show i = l.length by omega]; unfold gat; rw [List.getD_eq_getElem?_getD, List.getElem?_append_right (Nat.le_refl _), Nat.sub_self]; rfl
   rw [hi2]
   generalize s.Back.length * w.toNat = N at *
   rw [if_neg (by omega), gFill_cat f8 (by rw [f6]; exact f2) f3 (by omega), if_pos (by rw [f6]; omega)]
 rw [e] at hfine ⊢
 by_cases c : s.X = w - 1
 ·rw [if_pos c] at hfine ⊢
  refine ⟨hfine, h.W, h.H, h.lim, h.main, h.top, h.bot, h.nw, h.rows, ?_, key⟩
  show s.Back.length * w.toNat + s.Y.toNat * w.toNat + s.X.toNat + 1 = (l ++ [q]).length
  rw [List.length_append, List.length_singleton, ← hp]
 ·rw [if_neg c] at hfine ⊢
  refine ⟨hfine, h.W, h.H, h.lim, h.main, h.top, h.bot, h.nw, h.rows, ?_, key⟩
  show s.Back.length * w.toNat + s.Y.toNat * w.toNat + (s.X + 1).toNat + (if s.Wrap = true then 1 else 0) = (l ++ [q]).length
  rw [hw, List.length_append, List.length_singleton, ← hp]
  simp only [Bool.false_eq_true, if_false]
  omega
def WroteT (w : Int) (l : List Int) (t : TermD) : Prop := t.P = vp0 ∧ Wrote w l t.S (if t.S.Wrap = true then 1 else 0)
theorem runeD_wrap {s : ScrD} {q : Int} (h : s.Wrap = true) : runeD s q = runeD { downD s with X := 0 } q := by
 unfold runeD
 simp only [h]
 rfl
theorem WroteT.feed {w : Int} {l : List Int} {t : TermD} {q : Int} (h : WroteT w l t) (hq : shows q = true) (hl : l.length ≤ 9) : WroteT w (l ++ [q]) (termFeedRes t (runeB q)) := by
 obtain ⟨hv, hw⟩ := h
 have hok : termOk t = true := by unfold termOk; rw [hv, hw.fine.ok]; decide
 have e : termFeedRes t (runeB q) = ⟨vp0, runeD t.S q⟩ := by
  unfold termFeedRes
  rw [if_pos hok, hv, vpParse_rune hq]
  show (⟨vp0, doAct t.S ⟨1, q, false, []⟩⟩ : TermD) = _
  unfold doAct
  rw [if_pos rfl, if_pos hq]
 rw [e]
 refine ⟨rfl, ?_⟩
 show Wrote w (l ++ [q]) (runeD t.S q) (if (runeD t.S q).Wrap = true then 1 else 0)
 cases hwr : t.S.Wrap with
 | false =>
  rw [hwr] at hw
  exact hw.put hwr hq
 | true =>
  rw [hwr] at hw
  have hx : t.S.X = w - 1 := by rw [hw.fine.wrp hwr, hw.W]
  obtain ⟨a, b⟩ := hw.next hx hl
  rw [runeD_wrap hwr]
  exact a.put b hq
theorem WroteT.new {w : Int} (h : 1 ≤ w ∧ w ≤ 10) : WroteT w [] ⟨vp0, scrNew w 2 10⟩ := by
 have hs : isSize w 2 = true := by
  unfold isSize
  rw [Bool.and_eq_true, Bool.and_eq_true, within_iff, within_iff, decide_eq_true_eq]
  omega
 exact ⟨rfl, ScrFine.fresh hs (by omega), rfl, rfl, rfl, rfl, rfl, rfl, rfl, (fun r hr => by cases hr), (by show 0 * _ + (0 : Int).toNat * _ + (0 : Int).toNat + 0 = 0; simp), fun i hi => by cases hi⟩
theorem Wrote.le {w : Int} {l : List Int} {s : ScrD} {k : Nat} (h : Wrote w l s k) (hk : k ≤ 1) : l.length ≤ (flatL s).length := by
 obtain ⟨⟨f1, f2, f3, f4⟩, _⟩ := h.facts
 have hp := h.pos
 rw [h.len]
 rcases (by omega : s.Y = 0 ∨ s.Y = 1) with hy | hy
 ·rw [hy, show (0 : Int).toNat = 0 from rfl, Nat.zero_mul] at hp; omega
 ·rw [hy, show (1 : Int).toNat = 1 from rfl, Nat.one_mul] at hp; omega
theorem iat_R {l : List CellD} {k : Nat} (h : k < l.length) : iat (l.map CellD.R) k = (cat l k).R := by
 show gat encI _ _ = _
 unfold cat gat
 rw [List.getD_eq_getElem?_getD, List.getD_eq_getElem?_getD, List.getElem?_map, List.getElem?_eq_getElem h]
 rfl
theorem Wrote.all {w : Int} {l ys : List Int} {s : ScrD} {k : Nat} (h : Wrote w l s k) (hk : k ≤ 1) (hy : ys = (flatL s).map CellD.R) : (ys.length : Int) = w * 2 + s.Back.length * w ∧ l.length ≤ ys.length ∧ ∀ i, i < l.length → iat ys i = iat l i := by
 have hl := h.len
 have f1 := h.facts.1.1
 have hle := h.le hk
 subst hy
 refine ⟨?_, by rw [List.length_map]; exact hle, fun i hi => ?_⟩
 ·rw [List.length_map, hl, Int.natCast_add, Int.natCast_mul, Int.natCast_mul, Int.toNat_of_nonneg (by omega)]
  generalize (s.Back.length : Int) * w = z
  omega
 ·rw [iat_R (by omega)]; exact h.txt i hi
set_option maxHeartbeats 4000000 in
theorem k99_ (A_s : Option Addr) (n_s c_s : Nat) (s : List UInt8) (w : World) (f_s : SlF encB w A_s n_s s) :
    Calls Try.prog 5 #[.slice A_s n_s c_s] w fun e w' => e = .returned (.bool true) ∧ St w [] [] w' := by
 have hbl := f_s.len
 refine enter 119 Try.func5 rfl Try.ntmps5 rfl rfl ?_
 have hs1 := St.init w
 refine WC.r1 hs1 [] rfl (WC.seq (fun K2 hK2 => WC.r1 hs1 [] rfl ?_))
 refine WC.cq rfl (fun h3 qh3 => ?_) (fun h3 qh3 => ?_)
 ·refine WC.r1 hs1 [] rfl (WC.ret (tkR ?_))
  clear hK2
  refine retV1 rfl (resV.tmp rfl) (⟨rfl, hs1.nil⟩)
 have hn : n_s ≤ 1048576 := by have h9 := h3; simp at h9; omega
 refine WC.skip (hK2 _ _ (WC.sr (WL.r 1 hs1 [] rfl ?_)))
 refine WL.cl Try.call12 rfl (k55_ _ _ _ _ _ (SlF.st0 f_s hs1) ?_) ?_
 · first | assumption | rfl | omega
 rintro _ whs4 ⟨A5, c6, zs7, L1_8, rfl, hs4, ho9, hzl10, hzs11⟩
 replace hs4 := hs1.callF hs4
 refine ⟨_, rfl, ?_⟩
 have hzl := hzl10
 have hzs := hzs11
 refine WL.r 1 hs4 [] rfl (WL.nil (WC.sr (WL.r 1 hs4 [] rfl (WL.cl Try.call17 rfl (k57_ _ _ _ _ _ _ (SlF.st0 f_s hs4) ?_) ?_))))
 · first | assumption | rfl | omega
 rintro _ whs12 ⟨r13, rfl, hs12, hr14⟩
 replace hs12 := hs4.callF hs12
 refine ⟨_, rfl, ?_⟩
 rw [List.nil_append] at hs12
 have hnr : 0 ≤ r13 ∧ r13 < 4 := ⟨hr14.1, hr14.2 (by decide)⟩
 refine WL.r 2 hs12 [] rfl (WL.nil (WC.sr (WL.r 1 hs12 [] rfl (WL.cl Try.call18 rfl (k56_ _ _ _ _) ?_))))
 rintro _ whs15 ⟨r0_16, L0_17, rfl, hs15, ho18, hd0_19⟩
 replace hs15 := hs12.callF hs15
 refine ⟨_, rfl, ?_⟩
 have hmay : scrMay (1 + r13) 2 10 = true := by unfold scrMay isSize; simp only [Bool.and_eq_true, within_iff, decide_eq_true_eq]; omega
 have hT0 : WroteT (1 + r13) [] r0_16.dat := by rw [hd0_19, show termRes (1 + r13) 2 10 = ⟨vp0, scrNew (1 + r13) 2 10⟩ from by unfold termRes scrRes; rw [if_pos hmay]]; exact WroteT.new (by omega)
 have hBt0 : smTerm 549755813888 r0_16.dat := ⟨by rw [hT0.1]; exact ⟨by show 0 ≤ _; omega, by show 0 ≤ _; omega⟩, fine_smB hT0.2.fine (by decide)⟩
 have hMt0 : smTerm 1048576 r0_16.dat := ⟨by rw [hT0.1]; exact ⟨by show 0 ≤ _; omega, by show 0 ≤ _; omega⟩, fine_smB hT0.2.fine (by decide)⟩
 have hBt0r := hBt0
 rw [hd0_19] at hBt0r
 refine WL.r 3 hs15 [] rfl (WL.al hs15 Try.zeroValue49 rfl rfl (fun b20 _ hs21 => WL.st tbk hs21 0 rfl rfl (fun _ hs22 => WL.r 1 hs22 [] rfl (WL.nil (WC.seq (fun K23 hK23 => WC.r1 hs22 [] rfl (WC.block ?_)))))))
 have hM28 := (St.grp1 (L1 := L0_17) [_] (((hs22.fr L1_8).fr L0_17).fb b20))
 refine WC.lV [2, 3, 4, 5, 6, 20, 31, 32] rfl hM28 (fun k_ (a_ : Hp) f => ∃ (i : Nat) (r : TermR) (L26 : Hp), k_ = zs7.length - i ∧ a_ = [(b20, .cells (List.toArray [i64 r.P.State, .bool r.P.Mark, .slice r.P.Args.A r.P.Args.n r.P.Args.c, .slice r.P.Part.A r.P.Part.n r.P.Part.c, i64 r.S.W, i64 r.S.H, i64 r.S.Main.W, i64 r.S.Main.H, .slice r.S.Main.Cells.A r.S.Main.Cells.n r.S.Main.Cells.c, i64 r.S.Alt.W, i64 r.S.Alt.H, .slice r.S.Alt.Cells.A r.S.Alt.Cells.n r.S.Alt.Cells.c, .bool r.S.OnAlt, i64 r.S.X, i64 r.S.Y, .bool r.S.Wrap, i64 r.S.A.Fg, i64 r.S.A.Bg, .bool r.S.A.Bold, .bool r.S.A.Under, .bool r.S.A.Turn, i64 r.S.Top, i64 r.S.Bot, .bool r.S.NoWrap, .bool r.S.Hide, i64 r.S.SaveX, i64 r.S.SaveY, i64 r.S.SaveA.Fg, i64 r.S.SaveA.Bg, .bool r.S.SaveA.Bold, .bool r.S.SaveA.Under, .bool r.S.SaveA.Turn, .slice r.S.Tabs.A r.S.Tabs.n r.S.Tabs.c, i64 r.S.Limit, .slice r.S.Back.A r.S.Back.n r.S.Back.c]) 49 (0, 0))] ++ L26 ∧ (i ≤ zs7.length) ∧ (WroteT (1 + r13) (zs7.take i) r.dat) ∧ ownTermR r L26 ∧ Sub [(33, .int .i64 i)] f) (((fun (i : Nat) => zs7.length - i) (0))) ?_ ?_
 ·refine ⟨0, r0_16, L0_17, rfl, rfl, ?_, ?_, ho18, ⟨rfl, trivial⟩⟩
  · exact Nat.zero_le _
  · exact hT0
 rintro _ _ f w ⟨i, r, L26, rfl, rfl, p0, p1, ho27, hG⟩ hF hs29
 refine WC.sub _ (hG.app hF) ?_
 clear hG hF
 replace hs29 := St.ungrp1 [_] hs29
 have hBtr : smTerm 549755813888 r.dat := ⟨by rw [p1.1]; exact ⟨by show 0 ≤ _; omega, by show 0 ≤ _; omega⟩, fine_smB p1.2.fine (by decide)⟩
 have hMtr : smTerm 1048576 r.dat := ⟨by rw [p1.1]; exact ⟨by show 0 ≤ _; omega, by show 0 ≤ _; omega⟩, fine_smB p1.2.fine (by decide)⟩
 have hsmr := hBtr
 refine WC.r1 hs29 [] rfl (WC.seq (fun K30 hK30 => ?_))
 refine WC.cq rfl (fun h31 qh31 => ?_) (fun h31 qh31 => ?_)
 ·have hil : i < zs7.length := by have h9 := h31; simp at h9; omega
  refine WC.skip (hK30 _ _ (WC.seq (fun K32 hK32 => WC.block (WC.sr ?_))))
  refine WL.val rfl rfl rfl (Run.idxK (i) Try.runUnderlying28 Try.sizeOf3 rfl rfl rfl ?_ ?_ ?_) ?_
  · exact SlF.some_ (SlF.ofOwn ho9 (hs29.ow L1_8))
  · omega
  · omega
  refine WL.val rfl rfl rfl (Run.load Try.isAgg3 rfl rfl (SlF.one1 (SlF.ofOwn ho9 (hs29.ow L1_8)) ?_ rfl)) ?_
  · omega
  refine WL.r 1 hs29 [] rfl (WL.nil (WC.rG 4 hs29.d1 hs29 hs29 (fun _ hs33 => ?_)))
  refine WG.rn [0, 1] hs33 [0] rfl rfl (WG.o1 2 rfl rfl (WL.cl Try.call20 rfl (k9_ _ _) ?_))
  rintro _ whs34 ⟨A35, c36, L1_37, rfl, hs34, ho38⟩
  replace hs34 := hs33.callF hs34
  refine ⟨_, rfl, ?_⟩
  replace hs34 := St.back [_] hs34
  have hrl := runeB_len (gat encI zs7 i)
  refine WL.nil ⟨(hs34.rm L1_37), WG.o1 3 rfl rfl (WL.cl Try.call19 rfl (k98_ r _ _ _ _ _ (ownTermR.ok (B := 549755813888) ho27 (hs34.ow L26) hsmr) (SlF.ofOwn ho38 (hs34.ow L1_37)) ?_ ?_) ?_)⟩
  iterate 2 first | assumption | omega
  rintro _ whs39 ⟨r40, L1_41, rfl, hs39, ho42, hd43⟩
  replace hs39 := hs34.callF hs39
  refine ⟨_, rfl, ?_⟩
  replace hs39 := St.back [_] hs39
  have hq9 : shows (gat encI zs7 i) = true := hzs _ (gat_mem (by omega))
  have hT1 : WroteT (1 + r13) (zs7.take (i + 1)) r40.dat := by rw [hd43, List.take_add_one, gat_get (F := encI) (show i < zs7.length by omega)]; exact p1.feed hq9 (by rw [List.length_take]; omega)
  have hBt1 : smTerm 549755813888 r40.dat := ⟨by rw [hT1.1]; exact ⟨by show 0 ≤ _; omega, by show 0 ≤ _; omega⟩, fine_smB hT1.2.fine (by decide)⟩
  have hMt1 : smTerm 1048576 r40.dat := ⟨by rw [hT1.1]; exact ⟨by show 0 ≤ _; omega, by show 0 ≤ _; omega⟩, fine_smB hT1.2.fine (by decide)⟩
  have hBt1r := hBt1
  rw [hd43] at hBt1r
  refine WL.nil ⟨((hs39.rm L1_41).rm L1_37), WG.oK rfl (WL.st tbk hs39 0 rfl rfl (fun _ hs44 => WL.nil ⟨((hs44.d1.rm L1_41).rm L1_37), WH.dn (hK32 _ _ (WC.region (WL.r 2 hs44 [] rfl ?_)))⟩))⟩
  refine WL.nil (tkN ?_)
  replace hs44 := ((hs44.rm L1_37).rm L26)
  have hF45 := (St.grp1 (L1 := L1_41) [_] (((hs44.fr L1_8).fr L1_41).fb b20))
  refine ⟨sbF rfl, _, hF45, _, ?_, i + 1, r40, L1_41, rfl, rfl, ?_, ?_, ho42, ⟨rfl, trivial⟩⟩
  · omega
  · omega
  · exact hT1
 have hil : i = zs7.length := by have h9 := h31; simp at h9; omega
 rw [hil, List.take_length] at p1
 have hT : WroteT (1 + r13) zs7 r.dat := p1
 have hok9 : termOk r.dat = true := by unfold termOk; rw [hT.1, hT.2.fine.ok]; decide
 obtain ⟨_, _, hl3, _, _, hl6⟩ := ownTermR.len ‹ownTermR r _›
 obtain ⟨hfw, hfb, _, hfm, _⟩ := hT.2.facts
 have hfb2 : r.S.Back.n ≤ 8 := by have h8 : (r.S.Back.xs.map RowR.dat).length + _ ≤ _ := hfb; rw [List.length_map] at h8; omega
 have hfm2 : r.S.Main.Cells.n = 2 * (1 + r13).toNat := by have h8 : r.S.Main.Cells.xs.length = _ := hfm; omega
 have hrows : ∀ y, y ∈ r.S.Back.xs → y.Cells.xs.length = (1 + r13).toNat := fun y hy => hT.2.rows y.dat (List.mem_map_of_mem hy)
 refine WC.exit (hK23 _ _ (WC.seq (fun K46 hK46 => WC.sr (WL.r 3 hs29 [] rfl ?_))))
 apply WL.gO 3 Acts.nil hs29 rfl
 ·intro g47 J48
  have qg47 := g47
  try simp only [bf, within_iff, within_not] at qg47
  refine WL.runA tbk 1 (Acts.nil.cons (j := 2) rfl g47) hs29 [0] rfl ⟨rfl, trivial⟩ (WL.call (wantF rfl g47) rfl rfl (Run.call Try.call21 rfl rfl rfl) (k96_ r _ (ownTermR.ok (B := 549755813888) ho27 (hs29.ow L26) hsmr)) ?_)
  rintro _ whs49 ⟨rfl, hs49⟩
  replace hs49 := hs29.call0 hs49
  refine ⟨_, rfl, WL.runA tbk 1 (Acts.nil.cons (j := 2) rfl g47) hs49 [] rfl trivial (WL.eO 3 Acts.nil J48 hs49 g47 rfl rfl)⟩
 intro _ hs50
 refine WL.nil (WC.cq rfl (fun h51 qh51 => ?_) (fun h51 qh51 => ?_))
 ·exfalso; have h9 := h51; simp [hmay, hok9] at h9
 refine WC.skip (hK46 _ _ (WC.sr (WL.buildF (F := encI) hs50 ([]) Try.runUnderlying28 Try.sizeOf3 Try.zeroValue3 rfl rfl rfl rfl rfl rfl rfl rfl rfl rfl rfl rfl (fun A55 c56 L52 whs53 hs53 ho54 => ?_))))
 replace hs53 := St.back [_] hs53
 refine WL.r 1 hs53 [] rfl (WL.nil (WC.seq (fun K57 hK57 => WC.r1 hs53 [0] rfl (WC.block ?_))))
 have hM62 := (St.grp1 (L1 := L52) [] ((((hs53.fr L1_8).fr L26).fb b20).fr L52))
 refine WC.lV [2, 3, 4, 5, 20, 34, 48, 52, 53] rfl hM62 (fun k_ (a_ : Hp) f => ∃ (i : Nat) (zs : List Int) (A58 : Option Addr) (c59 : Nat) (L60 : Hp), k_ = r.S.Back.n - i ∧ a_ = L60 ∧ (i ≤ r.S.Back.n) ∧ (zs = List.map CellD.R (backL ((r.S.Back.xs.take i).map RowR.dat))) ∧ (zs.length ≤ 4 * i) ∧ OwnF encI 3 (.slice A58 (zs).length c59) (zs) L60 ∧ Sub [(9, .slice A58 (zs).length c59), (54, .int .i64 i)] f) (((fun (i : Nat) (zs : List Int) => r.S.Back.n - i) (0) ([]))) ?_ ?_
 ·refine ⟨0, [], A55, c56, L52, rfl, rfl, ?_, ?_, ?_, ho54, ⟨rfl, rfl, trivial⟩⟩
  · exact Nat.zero_le _
  · rfl
  · exact Nat.zero_le _
 rintro _ L60 f w ⟨i, zs, A58, c59, _, rfl, rfl, a0, a1, a2, ho61, hG⟩ hF hs63
 refine WC.sub _ (hG.app hF) ?_
 clear hG hF
 replace hs63 := St.ungrp1 [] hs63
 have hs64 := (hs63.fb b20)
 refine WC.r1 hs64 [] rfl (WC.seq (fun K65 hK65 => ?_))
 refine WC.cq rfl (fun h66 qh66 => ?_) (fun h66 qh66 => ?_)
 ·have hrn := (SlN.nth (ownTermR.ok (B := 549755813888) ho27 (hs64.ow L26) hsmr).S.Back (show i < r.S.Back.n by omega)).Cells.len
  have hrw := hrows _ (gat_mem (F := encRowR) (xs := r.S.Back.xs) (k := i) (by omega))
  refine WC.skip (hK65 _ _ (WC.seq (fun K67 hK67 => WC.block (WC.sr ?_))))
  refine WL.val rfl rfl rfl (Run.idxK (i) Try.runUnderlying29 Try.sizeOf56 rfl rfl rfl ?_ ?_ ?_) ?_
  · exact SlF.some_ (ownTermR.ok (B := 549755813888) ho27 (hs64.ow L26) hsmr).S.Back.sl
  · omega
  · omega
  refine WL.val rfl rfl rfl (Run.loadA Try.isAgg56 Try.sizeOf56 rfl rfl (SlF.whole (ownTermR.ok (B := 549755813888) ho27 (hs64.ow L26) hsmr).S.Back.sl ?_)) ?_
  · omega
  refine WL.al hs64 Try.zeroValue56 rfl rfl (fun b68 _ hs69 => WL.st tbk hs69 0 rfl rfl (fun _ hs70 => WL.nil (WC.r1 hs70 [0] rfl (WC.block ?_))))
  have hM75 := (St.grp1 (L1 := L60) [] (((((hs70.fr L1_8).fr L26).fb b20).fb b68).fr L60))
  refine WC.lV [2, 3, 4, 5, 11, 20, 34, 48, 52, 53, 54, 55, 56, 57, 58, 59, 60] rfl hM75 (fun k_ (a_ : Hp) f => ∃ (j : Nat) (ys : List Int) (A71 : Option Addr) (c72 : Nat) (L73 : Hp), k_ = (gat encRowR r.S.Back.xs i).Cells.n - j ∧ a_ = L73 ∧ (j ≤ (gat encRowR r.S.Back.xs i).Cells.n) ∧ (ys = zs ++ List.map CellD.R ((gat encRowR r.S.Back.xs i).Cells.xs.take j)) ∧ (ys.length ≤ zs.length + j) ∧ OwnF encI 3 (.slice A71 (ys).length c72) (ys) L73 ∧ Sub [(9, .slice A71 (ys).length c72), (61, .int .i64 j)] f) (((fun (j : Nat) (ys : List Int) => (gat encRowR r.S.Back.xs i).Cells.n - j) (0) (zs))) ?_ ?_
  ·refine ⟨0, zs, A58, c59, L60, rfl, rfl, ?_, ?_, ?_, ho61, ⟨rfl, rfl, trivial⟩⟩
   · exact Nat.zero_le _
   · simp
   · exact Nat.le_refl _
  rintro _ L73 f w ⟨j, ys, A71, c72, _, rfl, rfl, b0, b1, b2, ho74, hG⟩ hF hs76
  refine WC.sub _ (hG.app hF) ?_
  clear hG hF
  replace hs76 := St.ungrp1 [] hs76
  have hs77 := ((hs76.fb b20).fb b68)
  refine WC.r1 hs77 [] rfl (WC.seq (fun K78 hK78 => ?_))
  refine WC.cq rfl (fun h79 qh79 => ?_) (fun h79 qh79 => ?_)
  ·refine WC.skip (hK78 _ _ (WC.seq (fun K80 hK80 => WC.block (WC.sr ?_))))
   refine WL.val rfl rfl rfl (Run.idxK (j) Try.runUnderlying23 Try.sizeOf58 rfl rfl rfl ?_ ?_ ?_) ?_
   · exact SlF.some_ (SlN.nth (ownTermR.ok (B := 549755813888) ho27 (hs77.ow L26) hsmr).S.Back (by omega)).Cells
   · omega
   · omega
   refine WL.val rfl rfl rfl (Run.loadA Try.isAgg58 Try.sizeOf58 rfl rfl (SlF.whole (SlN.nth (ownTermR.ok (B := 549755813888) ho27 (hs77.ow L26) hsmr).S.Back (by omega)).Cells ?_)) ?_
   · omega
   refine WL.al hs77 Try.zeroValue58 rfl rfl (fun b81 _ hs82 => WL.st tbk hs82 0 rfl rfl (fun _ hs83 => WL.nil (WC.region (WL.r 3 hs83 [0] rfl (WL.buildSlice hs83 Try.runUnderlying28 Try.sizeOf3 Try.zeroValue3 rfl rfl rfl rfl rfl rfl rfl rfl rfl rfl (fun b84 whs85 hs85 => ?_))))))
   refine WL.appendG (hs85.fr L73) ho74 (srcI1 Try.underlying28 (hs85.own _ (nthL_mem (i := 0) rfl)).1) Try.underlying28 inf3 rfl rfl rfl rfl rfl rfl rfl rfl rfl rfl ?_ (fun A89 c90 L86 whs87 hs87 ho88 => ?_)
   · (try simp only [List.length_append, List.length_singleton]); omega
   replace hs87 := St.back [_, _, _, _] hs87
   refine WL.r 1 hs87 [] rfl (WL.nil (hK80 _ _ (WC.region (WL.r 2 hs87 [] rfl (WL.nil (tkN ?_))))))
   replace hs87 := hs87.d1.d1
   have hF91 := (St.grp1 (L1 := L86) [] (((((hs87.fr L1_8).fr L26).fb b20).fb b68).fr L86))
   refine ⟨sbF rfl, _, hF91, _, ?_, j + 1, _, A89, c90, L86, rfl, rfl, ?_, ?_, ?_, ho88, ⟨rfl, rfl, trivial⟩⟩
   · omega
   · omega
   · rw [b1, map_take_succ (F := encCell) (by omega), List.append_assoc]
   · simp only [List.length_append, List.length_singleton]; omega
  refine WC.exit (hK67 _ _ (WC.region (WL.r 2 hs77 [] rfl (WL.nil (tkN ?_)))))
  replace hs77 := hs77.d1
  have hF92 := (St.grp1 (L1 := L73) [] ((((hs77.fr L1_8).fr L26).fb b20).fr L73))
  refine ⟨sbF rfl, _, hF92, _, ?_, i + 1, _, A71, c72, L73, rfl, rfl, ?_, ?_, ?_, ho74, ⟨rfl, rfl, trivial⟩⟩
  · omega
  · omega
  · rw [b1, a1, map_take_succ (F := encRowR) (by omega), backL_snoc, List.map_append, List.take_of_length_le (l := (gat encRowR r.S.Back.xs i).Cells.xs) (by omega)]; rfl
  · omega
 have hA : zs = List.map CellD.R (backL (r.S.Back.xs.map RowR.dat)) := by rw [a1, List.take_of_length_le (by omega)]
 refine WC.exit (hK57 _ _ (WC.seq (fun K93 hK93 => WC.r1 hs64 [0] rfl (WC.block ?_))))
 have hM98 := (St.grp1 (L1 := L60) [] ((((hs64.fr L1_8).fr L26).fb b20).fr L60))
 refine WC.lV [2, 3, 4, 5, 20, 34, 48, 55, 75, 76] rfl hM98 (fun k_ (a_ : Hp) f => ∃ (j : Nat) (ys : List Int) (A94 : Option Addr) (c95 : Nat) (L96 : Hp), k_ = r.S.Main.Cells.n - j ∧ a_ = L96 ∧ (j ≤ r.S.Main.Cells.n) ∧ (ys = zs ++ List.map CellD.R (r.S.Main.Cells.xs.take j)) ∧ (ys.length ≤ zs.length + j) ∧ OwnF encI 3 (.slice A94 (ys).length c95) (ys) L96 ∧ Sub [(9, .slice A94 (ys).length c95), (77, .int .i64 j)] f) (((fun (j : Nat) (ys : List Int) => r.S.Main.Cells.n - j) (0) (zs))) ?_ ?_
 ·refine ⟨0, zs, A58, c59, L60, rfl, rfl, ?_, ?_, ?_, ho61, ⟨rfl, rfl, trivial⟩⟩
  · exact Nat.zero_le _
  · simp
  · exact Nat.le_refl _
 rintro _ L96 f w ⟨j, ys, A94, c95, _, rfl, rfl, c0, c1, c2, ho97, hG⟩ hF hs99
 refine WC.sub _ (hG.app hF) ?_
 clear hG hF
 replace hs99 := St.ungrp1 [] hs99
 have hs100 := (hs99.fb b20)
 refine WC.r1 hs100 [] rfl (WC.seq (fun K101 hK101 => ?_))
 refine WC.cq rfl (fun h102 qh102 => ?_) (fun h102 qh102 => ?_)
 ·refine WC.skip (hK101 _ _ (WC.seq (fun K103 hK103 => WC.block (WC.sr ?_))))
  refine WL.val rfl rfl rfl (Run.idxK (j) Try.runUnderlying23 Try.sizeOf58 rfl rfl rfl ?_ ?_ ?_) ?_
  · exact SlF.some_ (ownTermR.ok (B := 549755813888) ho27 (hs100.ow L26) hsmr).S.Main.Cells
  · omega
  · omega
  refine WL.val rfl rfl rfl (Run.loadA Try.isAgg58 Try.sizeOf58 rfl rfl (SlF.whole (ownTermR.ok (B := 549755813888) ho27 (hs100.ow L26) hsmr).S.Main.Cells ?_)) ?_
  · omega
  refine WL.al hs100 Try.zeroValue58 rfl rfl (fun b104 _ hs105 => WL.st tbk hs105 0 rfl rfl (fun _ hs106 => WL.nil (WC.region (WL.r 3 hs106 [0] rfl (WL.buildSlice hs106 Try.runUnderlying28 Try.sizeOf3 Try.zeroValue3 rfl rfl rfl rfl rfl rfl rfl rfl rfl rfl (fun b107 whs108 hs108 => ?_))))))
  refine WL.appendG (hs108.fr L96) ho97 (srcI1 Try.underlying28 (hs108.own _ (nthL_mem (i := 0) rfl)).1) Try.underlying28 inf3 rfl rfl rfl rfl rfl rfl rfl rfl rfl rfl ?_ (fun A112 c113 L109 whs110 hs110 ho111 => ?_)
  · (try simp only [List.length_append, List.length_singleton]); omega
  replace hs110 := St.back [_, _, _] hs110
  refine WL.r 1 hs110 [] rfl (WL.nil (hK103 _ _ (WC.region (WL.r 2 hs110 [] rfl (WL.nil (tkN ?_))))))
  replace hs110 := hs110.d1.d1
  have hF114 := (St.grp1 (L1 := L109) [] ((((hs110.fr L1_8).fr L26).fb b20).fr L109))
  refine ⟨sbF rfl, _, hF114, _, ?_, j + 1, _, A112, c113, L109, rfl, rfl, ?_, ?_, ?_, ho111, ⟨rfl, rfl, trivial⟩⟩
  · omega
  · omega
  · rw [c1, map_take_succ (F := encCell) (by omega), List.append_assoc]
  · simp only [List.length_append, List.length_singleton]; omega
 have hAll : ys = List.map CellD.R (flatL r.dat.S) := by rw [c1, hA, List.take_of_length_le (by omega), ← List.map_append]; rfl
 obtain ⟨hL1, hL2, hL3⟩ := hT.2.all (by split <;> omega) hAll
 have hL1 : (ys.length : Int) = (1 + r13) * 2 + (r.S.Back.n : Int) * (1 + r13) := by rw [hL1]; show _ + (((r.S.Back.xs.map RowR.dat).length : Nat) : Int) * _ = _; rw [List.length_map, hl6]
 have hmm : 0 ≤ (r.S.Back.n : Int) * (1 + r13) ∧ (r.S.Back.n : Int) * (1 + r13) ≤ 8 * 4 := ⟨Int.mul_nonneg (by omega) (by omega), Int.mul_le_mul (by omega) (by omega) (by omega) (by omega)⟩
 refine WC.exit (hK93 _ _ (WC.seq (fun K115 hK115 => WC.r1 hs100 [] rfl (WC.block ?_))))
 refine WC.lS [4, 5, 9, 20, 34, 48, 55, 78, 87, 88] rfl hs100 (fun k_ f w' => ∃ (k : Nat), k_ = zs7.length - k ∧ (k ≤ zs7.length) ∧ Sub [(89, .int .i64 k)] f) ((fun (k : Nat) => zs7.length - k) (0)) ?_ ?_
 ·refine ⟨0, rfl, ?_, ⟨rfl, trivial⟩⟩
  · exact Nat.zero_le _
 clear hs100
 rintro _ f w ⟨k, rfl, d0, hG⟩ hF hs116
 refine WC.sub _ (hG.app hF) ?_
 clear hG hF
 refine WC.r1 hs116 [] rfl (WC.seq (fun K117 hK117 => ?_))
 refine WC.cq rfl (fun h118 qh118 => ?_) (fun h118 qh118 => ?_)
 ·have hkl : k < zs7.length := by have h9 := h118; simp at h9; omega
  have hky : k < ys.length := by omega
  have hke := hL3 k hkl
  refine WC.skip (hK117 _ _ (WC.seq (fun K119 hK119 => WC.block (WC.sr (WL.r 1 hs116 [] rfl ?_)))))
  refine WL.val rfl rfl rfl (Run.idxK (k) Try.runUnderlying28 Try.sizeOf3 rfl rfl rfl ?_ ?_ ?_) ?_
  · exact SlF.some_ (SlF.ofOwn ho9 (hs116.ow L1_8))
  · omega
  · omega
  refine WL.val rfl rfl rfl (Run.load Try.isAgg3 rfl rfl (SlF.one1 (SlF.ofOwn ho9 (hs116.ow L1_8)) ?_ rfl)) ?_
  · omega
  refine WL.r 2 hs116 [] rfl (WL.nil (WC.sr (WL.r 5 hs116 [] rfl ?_)))
  apply WL.gO 6 Acts.nil hs116 rfl
  ·intro g120 J121
   have qg120 := g120
   try simp only [bf, within_iff, within_not] at qg120
   refine WL.runA tbk 2 (Acts.nil.cons (j := 4) rfl g120) hs116 [] rfl trivial (WL.val (wantF rfl g120) rfl rfl (Run.idxK (k) Try.runUnderlying28 Try.sizeOf3 rfl rfl rfl ?_ ?_ ?_) ?_)
   · exact SlF.some_ (SlF.ofOwn ho97 (hs116.ow L96))
   · omega
   · omega
   refine WL.val (wantF rfl g120) rfl rfl (Run.load Try.isAgg3 rfl rfl (SlF.one1 (SlF.ofOwn ho97 (hs116.ow L96)) ?_ rfl)) ?_
   · omega
   refine WL.runA tbk 2 (Acts.nil.cons (j := 4) rfl g120) hs116 [] rfl trivial (WL.eO 6 Acts.nil J121 hs116 g120 rfl rfl)
  intro _ hs122
  refine WL.nil (WC.cq rfl (fun h123 qh123 => ?_) (fun h123 qh123 => ?_))
  ·exfalso; have h9 := h123; revert h9; have h8 : gat encI ys k = gat encI _ k := hke; simp; omega
  refine WC.skip (hK119 _ _ (WC.region (WL.r 2 hs122 [] rfl (WL.nil (tkN ?_)))))
  refine ⟨sbF rfl, hs122, _, ?_, k + 1, rfl, ?_, ⟨rfl, trivial⟩⟩
  · omega
  · omega
 refine WC.exit (hK115 _ _ (WC.r1 hs116 [0] rfl (WC.ret (retV1 rfl (resV.tmp rfl) (⟨congrArg Ending.returned (congrArg Value.bool ?_), hs116.nil⟩)))))
 rw [decide_eq_true_eq]; omega
open Go Go.RowKit Go.ChangeShapes Go.WideShapes Go.ChangeAt Go.Deep
section
variable {H : Type} {enc : TypeId × Value → H} {P : Program} {w : World} {base : Nat} {spare : Nat → Bool} {held : Bool} {fuel : Nat} {t e : TypeId} {cs : List Value} {x : DataW H × List MemPlace}
theorem open_SlB (ht : P.underlying t = some (.slice e)) (he : P.underlying e = some (.int .u8)) (hc : P.cellsOf e = 1) (h : DataW.trod enc P w base spare held fuel t cs = some x) :
  ∃ A n c xs, cs = [.slice A n c] ∧ SlB w A n xs ∧ n ≤ 9223372036854775807 := by
 rcases open_ints ht he hc h with ⟨rfl, _⟩ | ⟨a, l, c, zs, rfl, _, hl, hm, hz, _, hcell, hwz⟩
 ·exact ⟨none, 0, 0, [], rfl, ⟨rfl, SlR.nil _ _ _⟩, by omega⟩
 ·have hlz : l ≤ zs.length := by rw [hz]; split <;> omega
  refine ⟨some a, l, c, (zs.take l).map (fun z => UInt8.ofNat z.toNat), rfl, ⟨by simp; omega, ⟨by rw [rows_len]; simp [encB]; omega, fun _ => rfl, fun j v hv => ?_⟩⟩, by simp only [maxLen] at hm; omega⟩
  have hj : j < l := by
   have := (List.getElem?_eq_some_iff.1 hv).1
   simp [bytesV_len] at this; omega
  have hc1 := hcell j (by omega)
  have hw := hwz (zs.getD j 0) (by rw [List.getD_eq_getElem?_getD, List.getElem?_eq_getElem (show j < zs.length by omega)]; exact List.getElem_mem _)
  simp [Lit.wf, IntKind.min, IntKind.max, IntKind.signed, IntKind.bits] at hw
  show w.cell? (a.add j) = some v
  rw [hc1, ← hv]
  have hlt : j < zs.length := by omega
  have e1 : zs.getD j 0 = zs[j] := by rw [List.getD_eq_getElem?_getD, List.getElem?_eq_getElem hlt]; rfl
  rw [e1]
  simp only [List.getElem?_eq_getElem hlt, Option.getD_some] at hw
  simp [bytesV_map, hj, List.getElem?_eq_getElem hlt, UInt8.toNat_ofNat']
  omega
end
namespace fnWrite
open Go.ChangeShapes Go.WideShapes Go.ChangeAt Go.RowKit
theorem own : ownKnob Try.prog.godebug = none := by kernel_rfl
theorem laidOut : laidOutB Try.prog = true := by kernel_rfl
set_option maxRecDepth 100000 in
set_option maxHeartbeats 1000000 in
theorem lifted (os : Os) (started : os.Started) (H : Type) (enc : TypeId × Value → H) :
    ReturnsInHanded {} Try.checked os 5 .any (Rows.fnWriteSpec.pre6 enc Try.prog Try.f5 Rows.fnWriteRow.domain false) (Rows.fnWriteSpec.post enc Try.prog Try.f5 false true false false) := by
  refine returnsInHanded_of_change (C := Try.checked) own started (by kernel_rfl) Try.func5
    (ChangeSpec.witness6 (enc := enc) (C := Try.checked) false ⟨#[], #[.slice none 0 0], []⟩ 8 (by kernel_rfl) (by kernel_rfl) (by kernel_rfl) (by kernel_rfl)) ?_
  intro W base args ds gs before hval0 hW hcnd _
  have hval : ∀ (j : Nat) t v, Try.f5.params[j]? = some t → args[j]? = some v → Value.okWide Try.prog W .any base t v := hval0
  have hW' := hW
  obtain ⟨p, q, hA0, hV, rfl, hfz, hnd⟩ := hW
  have hA : DataW.TrodAll enc Try.prog W 0 (fun _ => true) true Try.f5.params.toList args.toList ds p := hA0
  rw [Try.params5] at hA hval
  obtain ⟨v0, vs0, d0, ds0, p0, q0, hargs, rfl, rfl, h0, r0⟩ := trodAll_cons hA
  obtain ⟨rfl, rfl, rfl⟩ := trodAll_nil r0
  obtain rfl : args = #[v0] := by cases args; simp_all
  obtain ⟨rfl, rfl⟩ := trodVars_none hV
  have k0 := h0
  have lt0 : ∀ x ∈ p0, x.block < W.heap.size := by obtain ⟨m, hm⟩ := k0; exact DataW.trod_lt m _ _ _ hm
  obtain ⟨a0, l0, q0, rfl⟩ := okWide_slice Try.underlying22 (hval 0 22 v0 rfl rfl)
  obtain ⟨fuel0, hf0⟩ := h0
  replace hf0 : DataW.trod _ _ _ _ _ _ _ 22 [.slice a0 l0 q0] = _ := hf0
  obtain ⟨A_aS, n_aS, c_aS, aS, e0, f_aS, w_aS⟩ := open_SlB Try.underlying22 Try.underlying5 (by kernel_rfl) hf0
  obtain ⟨rfl, rfl, rfl⟩ : A_aS = a0 ∧ n_aS = l0 ∧ c_aS = q0 := by cases e0; exact ⟨rfl, rfl, rfl⟩
  clear hA0 hval0
  refine (k99_ A_aS n_aS c_aS aS W f_aS).mono fun e W' ⟨he, hst⟩ => ?_
  have bel := hst.toBelow
  subst he
  exact ⟨_, rfl, _, _, _, [], _, [], hW', trodAll_mk1 (shut_bool Try.underlying4 _), (trodAll_cons_mk (Below.trod laidOut (by kernel_rfl) (of_decide_eq_true (by kernel_rfl)) k0 bel lt0) trodAll_mk0), rfl, bel.frame _, fun h => by cases h⟩
theorem over : Rows.fnWriteRow.holds Try.pinned (OpenSpec.ofChange Rows.fnWriteSpec) :=
  OpenClaim.holds_of_wide 5 Try.f5 rfl rfl rfl rfl rfl rfl rfl ⟨rfl, rfl, rfl, rfl, rfl⟩ rfl rfl rfl rfl rfl (by kernel_rfl) Try.func5 (by kernel_rfl)
    (of_decide_eq_true (by kernel_rfl)) (by unfold Func.isWrapper; first | (rw [if_pos (by decide +kernel)]; kernel_rfl) | (rw [if_neg (by decide +kernel)]; exact ⟨rfl, rfl⟩))
    (fun os started H enc _ => lifted os started H enc)
end fnWrite
theorem fnWrite_holds : Rows.FnWriteSaid := fnWrite.over
end Go.Proofs.Ytjmegoiclgancaa
