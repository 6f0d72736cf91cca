/- Walks of Go functions, printed by a program (wip/gen). -/
import Derived.Test.YtlmcekfdlgkffaaY1
namespace Go.Proofs.Ytlmcekfdlgkffaa
open Go Go.RowKit
set_option linter.unusedVariables false
set_option linter.unusedSimpArgs false
theorem c_impl_Term_bytes (t : TermR) (w : World) (f_t : okTermR 549755813888 w t) (hok : termOk t.dat = true) (hsm : smTerm 1048576 t.dat) :
    Calls Try.prog 129 #[.agg #[i64 t.P.State, .bool t.P.Mark, .slice t.P.Args.A t.P.Args.n t.P.Args.c, .slice t.P.Part.A t.P.Part.n t.P.Part.c, i64 t.S.W, i64 t.S.H, i64 t.S.Main.W, i64 t.S.Main.H, .slice t.S.Main.Cells.A t.S.Main.Cells.n t.S.Main.Cells.c, i64 t.S.Alt.W, i64 t.S.Alt.H, .slice t.S.Alt.Cells.A t.S.Alt.Cells.n t.S.Alt.Cells.c, .bool t.S.OnAlt, i64 t.S.X, i64 t.S.Y, .bool t.S.Wrap, i64 t.S.A.Fg, i64 t.S.A.Bg, .bool t.S.A.Bold, .bool t.S.A.Under, .bool t.S.A.Turn, i64 t.S.Top, i64 t.S.Bot, .bool t.S.NoWrap, .bool t.S.Hide, i64 t.S.SaveX, i64 t.S.SaveY, i64 t.S.SaveA.Fg, i64 t.S.SaveA.Bg, .bool t.S.SaveA.Bold, .bool t.S.SaveA.Under, .bool t.S.SaveA.Turn, .slice t.S.Tabs.A t.S.Tabs.n t.S.Tabs.c, i64 t.S.Limit, .slice t.S.Back.A t.S.Back.n t.S.Back.c]] w fun e w' => ∃ A c L1, e = .returned (.slice A (termL t.dat).length c) ∧ St w [] L1 w' ∧ OwnF encB 5 (.slice A (termL t.dat).length c) (termL t.dat) L1 := by
 have nb_t_P_Args := f_t.P.Args_n
 have nl_t_P_Args := f_t.P.Args.len
 have nb_t_P_Part := f_t.P.Part_n
 have nl_t_P_Part := f_t.P.Part.len
 have nb_t_S_Main_Cells := f_t.S.Main.Cells_n
 have nl_t_S_Main_Cells := f_t.S.Main.Cells.len
 have nb_t_S_Alt_Cells := f_t.S.Alt.Cells_n
 have nl_t_S_Alt_Cells := f_t.S.Alt.Cells.len
 have nb_t_S_Tabs := f_t.S.Tabs_n
 have nl_t_S_Tabs := f_t.S.Tabs.len
 have nb_t_S_Back := f_t.S.Back_n
 have nl_t_S_Back := f_t.S.Back.sl.len
 have hT0 := termOk_P hok
 obtain ⟨hv1, hv2, hv3⟩ := vpOk_bnd hT0.1
 obtain ⟨hgm, hga⟩ := scrOk_main hT0.2
 obtain ⟨hm1, hm2⟩ := gridOk_cells hgm
 obtain ⟨ha1, ha2⟩ := gridOk_cells hga
 have hh := headL_bnd hok
 have htb := scrOk_tabs hT0.2
 have hrw := scrOk_rows hT0.2
 obtain ⟨_, _, _, _, hb5, hb6⟩ := scrOk_bnd hT0.2
 have hp1 : t.P.Part.xs.length ≤ 1048576 := hsm.1.2
 have hp2 : t.S.Tabs.xs.length ≤ 1048576 := hsm.2.2.2.1
 have hp3 : t.P.Args.xs.length ≤ 8 := hv2
 have hp4 : t.S.Main.Cells.xs.length ≤ 4000 := hm1
 have hp5 : t.S.Alt.Cells.xs.length ≤ 4000 := ha1
 have hp6 : t.S.Back.xs.length ≤ 100 := by have h9 : ((t.S.Back.xs.map RowR.dat).length : Int) ≤ t.S.Limit := hb6; have h8 : t.S.Limit ≤ 100 := hb5.2; rw [List.length_map] at h9; omega
 have q1 := numsL_len (l := headL t.dat) (fun x hx => by have := (hh x hx).2; omega)
 have q2 := numsL_len (l := t.P.Args.xs) (fun x hx => by have := (hv3 x hx).2; omega)
 have q3 := numsL_len (l := partI t.P.Part.xs) (fun x hx => by have := (partI_bnd x hx).2; omega)
 rw [partI_len] at q3
 have q4 := numsL_len (l := t.S.Tabs.xs) (fun x hx => by have := (htb x hx).2; omega)
 have q5 : (cellsB t.S.Main.Cells.xs).length ≤ 15 * t.S.Main.Cells.xs.length := cellsB_len hm1 hm2
 have q6 : (cellsB t.S.Alt.Cells.xs).length ≤ 15 * t.S.Alt.Cells.xs.length := cellsB_len ha1 ha2
 have w1 := varL_len ((t.P.Args.n : Int)).toNat (by omega)
 have w2 := varL_len ((t.P.Part.n : Int)).toNat (by omega)
 have w3 := varL_len ((t.S.Tabs.n : Int)).toNat (by omega)
 have w4 := varL_len ((t.S.Back.n : Int)).toNat (by omega)
 have hhl : (headL t.dat).length = 13 := rfl
 refine enter (vs := [.agg #[i64 t.P.State, .bool t.P.Mark, .slice t.P.Args.A t.P.Args.n t.P.Args.c, .slice t.P.Part.A t.P.Part.n t.P.Part.c, i64 t.S.W, i64 t.S.H, i64 t.S.Main.W, i64 t.S.Main.H, .slice t.S.Main.Cells.A t.S.Main.Cells.n t.S.Main.Cells.c, i64 t.S.Alt.W, i64 t.S.Alt.H, .slice t.S.Alt.Cells.A t.S.Alt.Cells.n t.S.Alt.Cells.c, .bool t.S.OnAlt, i64 t.S.X, i64 t.S.Y, .bool t.S.Wrap, i64 t.S.A.Fg, i64 t.S.A.Bg, .bool t.S.A.Bold, .bool t.S.A.Under, .bool t.S.A.Turn, i64 t.S.Top, i64 t.S.Bot, .bool t.S.NoWrap, .bool t.S.Hide, i64 t.S.SaveX, i64 t.S.SaveY, i64 t.S.SaveA.Fg, i64 t.S.SaveA.Bg, .bool t.S.SaveA.Bold, .bool t.S.SaveA.Under, .bool t.S.SaveA.Turn, .slice t.S.Tabs.A t.S.Tabs.n t.S.Tabs.c, i64 t.S.Limit, .slice t.S.Back.A t.S.Back.n t.S.Back.c]]) 127 Try.func129 rfl Try.ntmps129 rfl rfl ?_
 have hs1 := St.init w
 refine WC.sr ?_
 refine WL.bx hs1 rfl (fun b2 _ hs3 => ?_)
 refine WL.run tbk 1 hs3 [] rfl trivial ?_
 refine WL.nil ?_
 refine WC.seq (fun K4 hK4 => ?_)
 refine WC.regionH2 (fun w' => St _ _ _ w') (fun w' => St _ _ _ w') mixed (St.drew hs3) (St.drew hs3) (fun whs5 hs5 => ?_)
 replace hs5 : St _ _ _ _ := hs5
 refine WH.take 0 rfl (by kernel_rfl) rfl rfl rfl hs5 (fun w_ hs_ => (Run.field Try.runUnderlying35 rfl rfl rfl Try.sizeOf33 rfl)) ?_
 refine WH.take 1 rfl (by kernel_rfl) rfl rfl rfl hs5 (fun w_ hs_ => (Run.loadLA (hs_ : St _ _ _ _) 0 Try.isAgg33 Try.sizeOf33 rfl rfl rfl rfl rfl)) ?_
 refine WH.take 2 rfl (by kernel_rfl) rfl rfl rfl hs5 (fun w_ hs_ => (Run.field Try.runUnderlying35 rfl rfl rfl Try.sizeOf25 rfl)) ?_
 refine WH.take 3 rfl (by kernel_rfl) rfl rfl rfl hs5 (fun w_ hs_ => (Run.loadLA (hs_ : St _ _ _ _) 0 Try.isAgg25 Try.sizeOf25 rfl rfl rfl rfl rfl)) ?_
 refine WH.all [4, 5] (by kernel_rfl) rfl (WHs.cons (i := 4) rfl ?_ (WHs.cons (i := 5) rfl ?_ WHs.nil))
 ·refine WL.al hs5 Try.zeroValue33 rfl rfl (fun b6 _ hs7 => ?_)
  refine WL.nil ⟨(St.drop hs7 (List.sublist_append_right [_] _)), ?_⟩
  refine WH.all [5] (by kernel_rfl) rfl (WHs.cons (i := 5) rfl ?_ WHs.nil)
  refine WL.al hs7 Try.zeroValue25 rfl rfl (fun b8 _ hs9 => ?_)
  refine WL.nil ⟨(St.drop hs9 (List.sublist_append_right [_, _] _)), ?_⟩
  refine WH.all [6] (by kernel_rfl) rfl (WHs.cons (i := 6) rfl ?_ WHs.nil)
  refine WL.st tbk hs9 1 rfl rfl (fun _ hs10 => ?_)
  refine WL.nil ⟨(St.drop hs10 (List.sublist_append_right [_, _] _)), ?_⟩
  refine WH.all [7] (by kernel_rfl) rfl (WHs.cons (i := 7) rfl ?_ WHs.nil)
  refine WL.st tbk hs10 0 rfl rfl (fun _ hs11 => ?_)
  refine WL.nil ⟨(St.drop hs11 (List.sublist_append_right [_, _] _)), ?_⟩
  refine WH.done (by kernel_rfl) ?_
  refine hK4 _ _ ?_
  refine WC.sq hs11 mixed (by kernel_rfl) ?_
  refine WQ.run tbk 2 [1] rfl ⟨rfl, trivial⟩ ?_
  refine WQ.call rfl rfl rfl (fun w_ hs_ => (Run.call Try.call173 rfl rfl rfl)) (fun w_ hs_ => (c_impl_bit _ _ _).mono fun e_ w_ h_ => ⟨h_.1, (hs_ : St _ _ _ _).call0 h_.2⟩) ?_
  refine WQ.run tbk 2 [1] rfl ⟨rfl, trivial⟩ ?_
  refine WQ.call rfl rfl rfl (fun w_ hs_ => (Run.call Try.call173 rfl rfl rfl)) (fun w_ hs_ => (c_impl_bit _ _ _).mono fun e_ w_ h_ => ⟨h_.1, (hs_ : St _ _ _ _).call0 h_.2⟩) ?_
  refine WQ.run tbk 3 [1] rfl ⟨rfl, ?_, trivial⟩ ?_
  · (have e1 : 0 ≤ bitI t.S.OnAlt 1 ∧ bitI t.S.OnAlt 1 ≤ 1 := bitI_bnd (by decide); have e2 : 0 ≤ bitI t.S.Wrap 2 ∧ bitI t.S.Wrap 2 ≤ 2 := bitI_bnd (by decide); have e3 : 0 ≤ bitI t.S.NoWrap 4 ∧ bitI t.S.NoWrap 4 ≤ 4 := bitI_bnd (by decide); have e4 : 0 ≤ bitI t.S.Hide 8 ∧ bitI t.S.Hide 8 ≤ 8 := bitI_bnd (by decide); have e5 : 0 ≤ bitI t.P.Mark 16 ∧ bitI t.P.Mark 16 ≤ 16 := bitI_bnd (by decide); constructor <;> omega)
  refine WQ.call rfl rfl rfl (fun w_ hs_ => (Run.call Try.call173 rfl rfl rfl)) (fun w_ hs_ => (c_impl_bit _ _ _).mono fun e_ w_ h_ => ⟨h_.1, (hs_ : St _ _ _ _).call0 h_.2⟩) ?_
  refine WQ.run tbk 3 [1] rfl ⟨rfl, ?_, trivial⟩ ?_
  · (have e1 : 0 ≤ bitI t.S.OnAlt 1 ∧ bitI t.S.OnAlt 1 ≤ 1 := bitI_bnd (by decide); have e2 : 0 ≤ bitI t.S.Wrap 2 ∧ bitI t.S.Wrap 2 ≤ 2 := bitI_bnd (by decide); have e3 : 0 ≤ bitI t.S.NoWrap 4 ∧ bitI t.S.NoWrap 4 ≤ 4 := bitI_bnd (by decide); have e4 : 0 ≤ bitI t.S.Hide 8 ∧ bitI t.S.Hide 8 ≤ 8 := bitI_bnd (by decide); have e5 : 0 ≤ bitI t.P.Mark 16 ∧ bitI t.P.Mark 16 ≤ 16 := bitI_bnd (by decide); constructor <;> omega)
  refine WQ.call rfl rfl rfl (fun w_ hs_ => (Run.call Try.call173 rfl rfl rfl)) (fun w_ hs_ => (c_impl_bit _ _ _).mono fun e_ w_ h_ => ⟨h_.1, (hs_ : St _ _ _ _).call0 h_.2⟩) ?_
  refine WQ.run tbk 3 [0] rfl ⟨rfl, ?_, trivial⟩ ?_
  · (have e1 : 0 ≤ bitI t.S.OnAlt 1 ∧ bitI t.S.OnAlt 1 ≤ 1 := bitI_bnd (by decide); have e2 : 0 ≤ bitI t.S.Wrap 2 ∧ bitI t.S.Wrap 2 ≤ 2 := bitI_bnd (by decide); have e3 : 0 ≤ bitI t.S.NoWrap 4 ∧ bitI t.S.NoWrap 4 ≤ 4 := bitI_bnd (by decide); have e4 : 0 ≤ bitI t.S.Hide 8 ∧ bitI t.S.Hide 8 ≤ 8 := bitI_bnd (by decide); have e5 : 0 ≤ bitI t.P.Mark 16 ∧ bitI t.P.Mark 16 ≤ 16 := bitI_bnd (by decide); constructor <;> omega)
  refine WQ.call rfl rfl rfl (fun w_ hs_ => (Run.call Try.call173 rfl rfl rfl)) (fun w_ hs_ => (c_impl_bit _ _ _).mono fun e_ w_ h_ => ⟨h_.1, (hs_ : St _ _ _ _).call0 h_.2⟩) ?_
  refine WQ.run tbk 2 [] rfl ⟨?_, trivial⟩ ?_
  · (have e1 : 0 ≤ bitI t.S.OnAlt 1 ∧ bitI t.S.OnAlt 1 ≤ 1 := bitI_bnd (by decide); have e2 : 0 ≤ bitI t.S.Wrap 2 ∧ bitI t.S.Wrap 2 ≤ 2 := bitI_bnd (by decide); have e3 : 0 ≤ bitI t.S.NoWrap 4 ∧ bitI t.S.NoWrap 4 ≤ 4 := bitI_bnd (by decide); have e4 : 0 ≤ bitI t.S.Hide 8 ∧ bitI t.S.Hide 8 ≤ 8 := bitI_bnd (by decide); have e5 : 0 ≤ bitI t.P.Mark 16 ∧ bitI t.P.Mark 16 ≤ 16 := bitI_bnd (by decide); constructor <;> omega)
  refine WQ.nil (fun _ (hs12 : St _ _ _ _) => ?_)
  refine WC.seq (fun K13 hK13 => ?_)
  refine WC.regionH2 (fun w' => St _ _ _ w') (fun w' => St _ _ _ w') mixed (St.drew hs12) (St.drew hs12) (fun whs14 hs14 => ?_)
  replace hs14 : St _ _ _ _ := hs14
  refine WH.take 0 rfl (by kernel_rfl) rfl rfl rfl hs14 (fun w_ hs_ => (Run.field Try.runUnderlying33 rfl rfl rfl Try.sizeOf3 rfl)) ?_
  refine WH.take 1 rfl (by kernel_rfl) rfl rfl rfl hs14 (fun w_ hs_ => (Run.loadL (hs_ : St _ _ _ _) 1 Try.isAgg3 rfl rfl rfl rfl)) ?_
  refine WH.take 2 rfl (by kernel_rfl) rfl rfl rfl hs14 (fun w_ hs_ => (Run.field Try.runUnderlying33 rfl rfl rfl Try.sizeOf3 rfl)) ?_
  refine WH.take 3 rfl (by kernel_rfl) rfl rfl rfl hs14 (fun w_ hs_ => (Run.loadL (hs_ : St _ _ _ _) 1 Try.isAgg3 rfl rfl rfl rfl)) ?_
  refine WH.take 4 rfl (by kernel_rfl) rfl rfl rfl hs14 (fun w_ hs_ => (Run.move rfl rfl)) ?_
  refine WH.take 5 rfl (by kernel_rfl) rfl rfl rfl hs14 (fun w_ hs_ => (Run.field Try.runUnderlying33 rfl rfl rfl Try.sizeOf3 rfl)) ?_
  refine WH.take 6 rfl (by kernel_rfl) rfl rfl rfl hs14 (fun w_ hs_ => (Run.loadL (hs_ : St _ _ _ _) 1 Try.isAgg3 rfl rfl rfl rfl)) ?_
  refine WH.take 7 rfl (by kernel_rfl) rfl rfl rfl hs14 (fun w_ hs_ => (Run.field Try.runUnderlying33 rfl rfl rfl Try.sizeOf3 rfl)) ?_
  refine WH.take 8 rfl (by kernel_rfl) rfl rfl rfl hs14 (fun w_ hs_ => (Run.loadL (hs_ : St _ _ _ _) 1 Try.isAgg3 rfl rfl rfl rfl)) ?_
  refine WH.take 9 rfl (by kernel_rfl) rfl rfl rfl hs14 (fun w_ hs_ => (Run.field Try.runUnderlying33 rfl rfl rfl Try.sizeOf30 rfl)) ?_
  refine WH.take 10 rfl (by kernel_rfl) rfl rfl rfl hs14 (fun w_ hs_ => (Run.loadLA (hs_ : St _ _ _ _) 1 Try.isAgg30 Try.sizeOf30 rfl rfl rfl rfl rfl)) ?_
  refine WH.take 12 rfl (by kernel_rfl) rfl rfl rfl hs14 (fun w_ hs_ => (Run.field Try.runUnderlying33 rfl rfl rfl Try.sizeOf3 rfl)) ?_
  refine WH.take 13 rfl (by kernel_rfl) rfl rfl rfl hs14 (fun w_ hs_ => (Run.loadL (hs_ : St _ _ _ _) 1 Try.isAgg3 rfl rfl rfl rfl)) ?_
  refine WH.take 14 rfl (by kernel_rfl) rfl rfl rfl hs14 (fun w_ hs_ => (Run.field Try.runUnderlying33 rfl rfl rfl Try.sizeOf3 rfl)) ?_
  refine WH.take 15 rfl (by kernel_rfl) rfl rfl rfl hs14 (fun w_ hs_ => (Run.loadL (hs_ : St _ _ _ _) 1 Try.isAgg3 rfl rfl rfl rfl)) ?_
  refine WH.take 16 rfl (by kernel_rfl) rfl rfl rfl hs14 (fun w_ hs_ => (Run.field Try.runUnderlying33 rfl rfl rfl Try.sizeOf3 rfl)) ?_
  refine WH.take 17 rfl (by kernel_rfl) rfl rfl rfl hs14 (fun w_ hs_ => (Run.loadL (hs_ : St _ _ _ _) 1 Try.isAgg3 rfl rfl rfl rfl)) ?_
  refine WH.take 18 rfl (by kernel_rfl) rfl rfl rfl hs14 (fun w_ hs_ => (Run.field Try.runUnderlying33 rfl rfl rfl Try.sizeOf3 rfl)) ?_
  refine WH.take 19 rfl (by kernel_rfl) rfl rfl rfl hs14 (fun w_ hs_ => (Run.loadL (hs_ : St _ _ _ _) 1 Try.isAgg3 rfl rfl rfl rfl)) ?_
  refine WH.take 20 rfl (by kernel_rfl) rfl rfl rfl hs14 (fun w_ hs_ => (Run.field Try.runUnderlying33 rfl rfl rfl Try.sizeOf30 rfl)) ?_
  refine WH.take 21 rfl (by kernel_rfl) rfl rfl rfl hs14 (fun w_ hs_ => (Run.loadLA (hs_ : St _ _ _ _) 1 Try.isAgg30 Try.sizeOf30 rfl rfl rfl rfl rfl)) ?_
  refine WH.take 23 rfl (by kernel_rfl) rfl rfl rfl hs14 (fun w_ hs_ => (Run.field Try.runUnderlying33 rfl rfl rfl Try.sizeOf3 rfl)) ?_
  refine WH.take 24 rfl (by kernel_rfl) rfl rfl rfl hs14 (fun w_ hs_ => (Run.loadL (hs_ : St _ _ _ _) 1 Try.isAgg3 rfl rfl rfl rfl)) ?_
  refine WH.take 25 rfl (by kernel_rfl) rfl rfl rfl hs14 (fun w_ hs_ => (Run.field Try.runUnderlying25 rfl rfl rfl Try.sizeOf3 rfl)) ?_
  refine WH.take 26 rfl (by kernel_rfl) rfl rfl rfl hs14 (fun w_ hs_ => (Run.loadL (hs_ : St _ _ _ _) 0 Try.isAgg3 rfl rfl rfl rfl)) ?_
  refine WH.all [11] (by kernel_rfl) rfl (WHs.cons (i := 11) rfl ?_ WHs.nil)
  refine WL.call rfl rfl rfl (Run.call Try.call175 rfl rfl rfl) (c_impl_AttrNum _ _ _ _ _ _) ?_
  rintro _ whs15 ⟨rfl, hs15⟩
  replace hs15 := hs14.call0 hs15
  refine ⟨_, rfl, ?_⟩
  refine WL.nil ⟨hs15, ?_⟩
  refine WH.all [22] (by kernel_rfl) rfl (WHs.cons (i := 22) rfl ?_ WHs.nil)
  refine WL.call rfl rfl rfl (Run.call Try.call175 rfl rfl rfl) (c_impl_AttrNum _ _ _ _ _ _) ?_
  rintro _ whs16 ⟨rfl, hs16⟩
  replace hs16 := hs15.call0 hs16
  refine ⟨_, rfl, ?_⟩
  refine WL.nil ⟨hs16, ?_⟩
  refine WH.all [27] (by kernel_rfl) rfl (WHs.cons (i := 27) rfl ?_ WHs.nil)
  refine WL.buildF (F := encI) hs16 ((headL t.dat)) Try.runUnderlying22 Try.sizeOf3 Try.zeroValue3 rfl rfl rfl rfl rfl rfl rfl rfl rfl rfl rfl rfl (fun A20 c21 L17 whs18 hs18 ho19 => ?_)
  replace hs18 := St.back [_, _, _] hs18
  refine WL.nil ⟨(St.drop (St.perm hs18 (L' := L17 ++ _) (perm_front (A := [_, _, _]) (List.Perm.refl _))) (List.sublist_append_right L17 _)), ?_⟩
  refine WH.all [28] (by kernel_rfl) rfl (WHs.cons (i := 28) rfl ?_ WHs.nil)
  refine WL.call rfl rfl rfl (Run.call Try.call174 rfl rfl rfl) (c_impl_putVars _ _ _ _ _ _ _ _ (OwnF.nil _ _) (by simp) (SlF.ofOwn ho19 (fun p_ hp_ => (hs18.own p_ (List.mem_append_right [_, _, _] (List.mem_append_left _ hp_))).1)) sep_nil ?_ ?_) ?_
  · first | exact fun x hx => (by have := hh x hx; omega) | exact fun x hx => (by have := hv3 x hx; omega) | exact fun x hx => (by have := htb x hx; omega)
  · first | omega | (simp only [List.length_append, List.length_nil, partI_len, List.length_take]; omega)
  rintro _ whs22 ⟨A23, c24, L1_25, rfl, hs22, ho26⟩
  replace hs22 := St.lend (A := []) hs18 hs22
  refine ⟨_, rfl, ?_⟩
  replace hs22 := St.back [_, _, _] hs22
  refine WL.nil ⟨(St.drop (St.perm (St.drop (St.perm hs22 (L' := L1_25 ++ _) (perm_front (A := [_, _, _]) (List.Perm.refl _))) (List.sublist_append_right L1_25 _)) (L' := L17 ++ _) (perm_front (A := [_, _, _]) (List.Perm.refl _))) (List.sublist_append_right L17 _)), ?_⟩
  refine WH.take 29 rfl (by kernel_rfl) rfl rfl rfl (St.drop (St.perm (St.drop (St.perm hs22 (L' := L1_25 ++ _) (perm_front (A := [_, _, _]) (List.Perm.refl _))) (List.sublist_append_right L1_25 _)) (L' := L17 ++ _) (perm_front (A := [_, _, _]) (List.Perm.refl _))) (List.sublist_append_right L17 _)) (fun w_ hs_ => (Run.assign rfl rfl)) ?_
  refine WH.done (by kernel_rfl) ?_
  refine hK13 _ _ ?_
  refine WC.seq (fun K27 hK27 => ?_)
  refine WC.regionH2 (fun w' => St _ _ _ w') (fun w' => St _ _ _ w') mixed (St.drew (St.drop (St.perm hs22 (L' := L1_25 ++ _) (perm_front (A := [_, _, _]) (List.Perm.refl _))) (List.sublist_append_right L1_25 _))) (St.drew hs22) (fun whs28 hs28 => ?_)
  replace hs28 : St _ _ _ _ := hs28
  refine WH.take 0 rfl (by kernel_rfl) rfl rfl rfl (St.drop (St.perm hs28 (L' := L1_25 ++ _) (perm_front (A := [_, _, _]) (List.Perm.refl _))) (List.sublist_append_right L1_25 _)) (fun w_ hs_ => (Run.move rfl rfl)) ?_
  refine WH.take 1 rfl (by kernel_rfl) rfl rfl rfl (St.drop (St.perm hs28 (L' := L1_25 ++ _) (perm_front (A := [_, _, _]) (List.Perm.refl _))) (List.sublist_append_right L1_25 _)) (fun w_ hs_ => (Run.field Try.runUnderlying25 rfl rfl rfl Try.sizeOf22 rfl)) ?_
  refine WH.take 2 rfl (by kernel_rfl) rfl rfl rfl (St.drop (St.perm hs28 (L' := L1_25 ++ _) (perm_front (A := [_, _, _]) (List.Perm.refl _))) (List.sublist_append_right L1_25 _)) (fun w_ hs_ => (Run.loadL (hs_ : St _ _ _ _) 0 Try.isAgg22 rfl rfl rfl rfl)) ?_
  refine WH.take 3 rfl (by kernel_rfl) rfl rfl rfl (St.drop (St.perm hs28 (L' := L1_25 ++ _) (perm_front (A := [_, _, _]) (List.Perm.refl _))) (List.sublist_append_right L1_25 _)) (fun w_ hs_ => (Run.lenSl Try.runUnderlying22 rfl rfl)) ?_
  refine WH.take 5 rfl (by kernel_rfl) rfl rfl rfl (St.drop (St.perm hs28 (L' := L1_25 ++ _) (perm_front (A := [_, _, _]) (List.Perm.refl _))) (List.sublist_append_right L1_25 _)) (fun w_ hs_ => (Run.field Try.runUnderlying25 rfl rfl rfl Try.sizeOf22 rfl)) ?_
  refine WH.take 6 rfl (by kernel_rfl) rfl rfl rfl (St.drop (St.perm hs28 (L' := L1_25 ++ _) (perm_front (A := [_, _, _]) (List.Perm.refl _))) (List.sublist_append_right L1_25 _)) (fun w_ hs_ => (Run.loadL (hs_ : St _ _ _ _) 0 Try.isAgg22 rfl rfl rfl rfl)) ?_
  refine WH.all [4] (by kernel_rfl) rfl (WHs.cons (i := 4) rfl ?_ WHs.nil)
  refine WL.call rfl rfl rfl (Run.call Try.call176 rfl rfl rfl) (c_impl_putVar _ _ _ _ _ ho26 (fun p_ hp_ => (hs28.own p_ (List.mem_append_right [_, _, _] (List.mem_append_left _ hp_))).1) ?_ ?_ ?_) ?_
  · first | omega | exact hbv.1
  · first | omega | exact hbv.2
  · first | omega | (simp only [List.length_append, List.length_nil, partI_len, List.length_take]; omega)
  rintro _ whs29 ⟨A30, c31, L1_32, rfl, hs29, ho33⟩
  replace hs29 := St.lend (St.perm hs28 (L' := L1_25 ++ _) (perm_front (A := [_, _, _]) (List.Perm.refl _))) hs29
  refine ⟨_, rfl, ?_⟩
  replace hs29 := St.back [_, _, _] hs29
  refine WL.nil ⟨(St.drop (St.perm hs29 (L' := L1_32 ++ _) (perm_front (A := [_, _, _]) (List.Perm.refl _))) (List.sublist_append_right L1_32 _)), ?_⟩
  refine WH.all [7] (by kernel_rfl) rfl (WHs.cons (i := 7) rfl ?_ WHs.nil)
  refine WL.call rfl rfl rfl (Run.call Try.call174 rfl rfl rfl) (c_impl_putVars _ _ _ _ _ _ _ _ ho33 (fun p_ hp_ => (hs29.own p_ (List.mem_append_right [_, _, _] (List.mem_append_left _ hp_))).1) (SlF.st0 f_t.P.Args hs29) (St.sep (St.perm hs29 (L' := L1_32 ++ _) (perm_front (A := [_, _, _]) (List.Perm.refl _))) f_t.P.Args) ?_ ?_) ?_
  · first | exact fun x hx => (by have := hh x hx; omega) | exact fun x hx => (by have := hv3 x hx; omega) | exact fun x hx => (by have := htb x hx; omega)
  · first | omega | (simp only [List.length_append, List.length_nil, partI_len, List.length_take]; omega)
  rintro _ whs34 ⟨A35, c36, L1_37, rfl, hs34, ho38⟩
  replace hs34 := St.lend (St.perm hs29 (L' := L1_32 ++ _) (perm_front (A := [_, _, _]) (List.Perm.refl _))) hs34
  refine ⟨_, rfl, ?_⟩
  replace hs34 := St.back [_, _, _] hs34
  refine WL.nil ⟨(St.drop (St.perm hs34 (L' := L1_37 ++ _) (perm_front (A := [_, _, _]) (List.Perm.refl _))) (List.sublist_append_right L1_37 _)), ?_⟩
  refine WH.take 8 rfl (by kernel_rfl) rfl rfl rfl (St.drop (St.perm hs34 (L' := L1_37 ++ _) (perm_front (A := [_, _, _]) (List.Perm.refl _))) (List.sublist_append_right L1_37 _)) (fun w_ hs_ => (Run.assign rfl rfl)) ?_
  refine WH.done (by kernel_rfl) ?_
  refine hK27 _ _ ?_
  refine WC.sr ?_
  refine WL.run tbk 4 hs34 [0] rfl ⟨rfl, trivial⟩ ?_
  refine WL.call rfl rfl rfl (Run.call Try.call176 rfl rfl rfl) (c_impl_putVar _ _ _ _ _ ho38 (fun p_ hp_ => (hs34.own p_ (List.mem_append_right [_, _, _] (List.mem_append_left _ hp_))).1) ?_ ?_ ?_) ?_
  · first | omega | exact hbv.1
  · first | omega | exact hbv.2
  · first | omega | (simp only [List.length_append, List.length_nil, partI_len, List.length_take]; omega)
  rintro _ whs39 ⟨A40, c41, L1_42, rfl, hs39, ho43⟩
  replace hs39 := St.lend (St.perm hs34 (L' := L1_37 ++ _) (perm_front (A := [_, _, _]) (List.Perm.refl _))) hs39
  refine ⟨_, rfl, ?_⟩
  replace hs39 := St.back [_, _, _] hs39
  refine WL.run tbk 1 hs39 [] rfl trivial ?_
  refine WL.nil ?_
  refine WC.seq (fun K44 hK44 => ?_)
  refine WC.rr tbk hs39 [0] rfl ⟨rfl, trivial⟩ ?_
  refine WC.block ?_
  refine WC.loopO [(2, _), (3, _), (77, _), (78, _)] ⟨rfl, rfl, rfl, rfl, trivial⟩ (St.perm hs39 (L' := L1_42 ++ _) (perm_front (A := [_, _, _]) (List.Perm.refl _))) (fun k_ f L_ => ∃ (zs : List UInt8) (i : Nat) (A45 : Option Addr) (c46 : Nat), k_ = t.P.Part.n - i ∧ (i ≤ t.P.Part.n) ∧ (zs = [] ++ numsL (headL t.dat) ++ varL ((t.P.Args.n : Int)).toNat ++ numsL t.P.Args.xs ++ varL ((t.P.Part.n : Int)).toNat ++ numsL (partI (t.P.Part.xs.take i))) ∧ OwnF encB 5 (.slice A45 (zs.length) c46) (zs) L_ ∧ Sub [(6, .slice A45 (zs.length) c46), (79, .int .i64 i)] f) (t.P.Part.n) ?_ ?_
  ·refine ⟨[] ++ numsL (headL t.dat) ++ varL ((t.P.Args.n : Int)).toNat ++ numsL t.P.Args.xs ++ varL ((t.P.Part.n : Int)).toNat, 0, _, _, rfl, ?_, ?_, ho43, ⟨rfl, rfl, trivial⟩⟩
   · exact Nat.zero_le _
   · simp [partI, numsL]
  ·clear hs39
   rintro _ f w L47 ⟨zs, i, A45, c46, rfl, p0, p1, ho48, hG⟩ hF hs49
   refine WC.sub _ (hG.app hF) ?_
   clear hG hF
   replace hs49 := St.back [_, _, _] hs49
   have hz1 : zs.length ≤ 6000000 := by rw [p1]; have q7 := numsL_len (l := partI (t.P.Part.xs.take i)) (fun x hx => by have := (partI_bnd x hx).2; omega); rw [partI_len] at q7; simp only [List.length_take] at q7; simp only [List.length_append, List.length_nil]; omega
   refine WC.rr tbk hs49 [] rfl trivial ?_
   refine WC.seq (fun K50 hK50 => ?_)
   refine WC.cond rfl (fun h51 => ?_) (fun h51 => ?_)
   ·have qh51 := h51
    try simp only [bf, within_iff, within_not] at qh51
    have hbv : 0 ≤ ((gat encB t.P.Part.xs i).toNat : Int) ∧ ((gat encB t.P.Part.xs i).toNat : Int) ≤ 34359738367 := by have := (gat encB t.P.Part.xs i).toNat_lt; omega
    refine WC.skip ?_
    refine hK50 _ _ ?_
    refine WC.seq (fun K52 hK52 => ?_)
    refine WC.block ?_
    refine WC.sr ?_
    refine WL.val rfl rfl rfl (Run.idxN Try.runUnderlying23 Try.sizeOf5 rfl rfl rfl ?_ ?_ ?_) ?_
    · exact SlF.some_ (SlF.st0 f_t.P.Part hs49)
    · omega
    · omega
    refine WL.val rfl rfl rfl (Run.load Try.isAgg5 rfl rfl (SlF.one1 (SlF.st0 f_t.P.Part hs49) ?_ rfl)) ?_
    · omega
    refine WL.run tbk 1 hs49 [] rfl trivial ?_
    refine WL.nil ?_
    refine WC.region ?_
    refine WL.run tbk 3 hs49 [] rfl ⟨(u8_in _), trivial⟩ ?_
    refine WL.call rfl rfl rfl (Run.call Try.call176 rfl rfl rfl) (c_impl_putVar _ _ _ _ _ ho48 (fun p_ hp_ => (hs49.own p_ (List.mem_append_right [_, _, _] (List.mem_append_left _ hp_))).1) ?_ ?_ ?_) ?_
    · first | omega | exact hbv.1
    · first | omega | exact hbv.2
    · first | omega | (simp only [List.length_append, List.length_nil, partI_len, List.length_take]; omega)
    rintro _ whs53 ⟨A54, c55, L1_56, rfl, hs53, ho57⟩
    replace hs53 := St.lend (St.perm hs49 (L' := L47 ++ _) (perm_front (A := [_, _, _]) (List.Perm.refl _))) hs53
    refine ⟨_, rfl, ?_⟩
    replace hs53 := St.back [_, _, _] hs53
    refine WL.run tbk 1 hs53 [] rfl trivial ?_
    refine WL.nil ?_
    refine hK52 _ _ ?_
    refine WC.region ?_
    refine WL.run tbk 2 hs53 [] rfl ⟨by omega, trivial⟩ ?_
    refine WL.nil ?_
    refine tkN ?_
    refine ⟨⟨rfl, rfl, rfl, rfl, trivial⟩, _, (St.perm hs53 (L' := L1_56 ++ _) (perm_front (A := [_, _, _]) (List.Perm.refl _))), _, ?_, _, i + 1, _, _, rfl, ?_, ?_, ho57, ⟨rfl, rfl, trivial⟩⟩
    · omega
    · omega
    · rw [p1, partI_take (by omega), numsL_append, numsL_one]; simp only [List.append_assoc]; try rfl
   ·have qh51 := h51
    try simp only [bf, within_iff, within_not] at qh51
    have hin : i = t.P.Part.n := by omega
    have hz3 : zs = [] ++ numsL (headL t.dat) ++ varL ((t.P.Args.n : Int)).toNat ++ numsL t.P.Args.xs ++ varL ((t.P.Part.n : Int)).toNat ++ numsL (partI t.P.Part.xs) := by rw [p1, hin, List.take_of_length_le (by omega)]
    subst hz3
    refine WC.exit ?_
    refine hK44 _ _ ?_
    refine WC.seq (fun K58 hK58 => ?_)
    refine WC.regionH2 (fun w' => St _ _ _ w') (fun w' => St _ _ _ w') mixed (St.drew (St.drop (St.perm hs49 (L' := L47 ++ _) (perm_front (A := [_, _, _]) (List.Perm.refl _))) (List.sublist_append_right L47 _))) (St.drew hs49) (fun whs59 hs59 => ?_)
    replace hs59 : St _ _ _ _ := hs59
    refine WH.take 0 rfl (by kernel_rfl) rfl rfl rfl (St.drop (St.perm hs59 (L' := L47 ++ _) (perm_front (A := [_, _, _]) (List.Perm.refl _))) (List.sublist_append_right L47 _)) (fun w_ hs_ => (Run.move rfl rfl)) ?_
    refine WH.take 1 rfl (by kernel_rfl) rfl rfl rfl (St.drop (St.perm hs59 (L' := L47 ++ _) (perm_front (A := [_, _, _]) (List.Perm.refl _))) (List.sublist_append_right L47 _)) (fun w_ hs_ => (Run.field Try.runUnderlying33 rfl rfl rfl Try.sizeOf22 rfl)) ?_
    refine WH.take 2 rfl (by kernel_rfl) rfl rfl rfl (St.drop (St.perm hs59 (L' := L47 ++ _) (perm_front (A := [_, _, _]) (List.Perm.refl _))) (List.sublist_append_right L47 _)) (fun w_ hs_ => (Run.loadL (hs_ : St _ _ _ _) 1 Try.isAgg22 rfl rfl rfl rfl)) ?_
    refine WH.take 3 rfl (by kernel_rfl) rfl rfl rfl (St.drop (St.perm hs59 (L' := L47 ++ _) (perm_front (A := [_, _, _]) (List.Perm.refl _))) (List.sublist_append_right L47 _)) (fun w_ hs_ => (Run.lenSl Try.runUnderlying22 rfl rfl)) ?_
    refine WH.take 5 rfl (by kernel_rfl) rfl rfl rfl (St.drop (St.perm hs59 (L' := L47 ++ _) (perm_front (A := [_, _, _]) (List.Perm.refl _))) (List.sublist_append_right L47 _)) (fun w_ hs_ => (Run.field Try.runUnderlying33 rfl rfl rfl Try.sizeOf22 rfl)) ?_
    refine WH.take 6 rfl (by kernel_rfl) rfl rfl rfl (St.drop (St.perm hs59 (L' := L47 ++ _) (perm_front (A := [_, _, _]) (List.Perm.refl _))) (List.sublist_append_right L47 _)) (fun w_ hs_ => (Run.loadL (hs_ : St _ _ _ _) 1 Try.isAgg22 rfl rfl rfl rfl)) ?_
    refine WH.all [4] (by kernel_rfl) rfl (WHs.cons (i := 4) rfl ?_ WHs.nil)
    refine WL.call rfl rfl rfl (Run.call Try.call176 rfl rfl rfl) (c_impl_putVar _ _ _ _ _ ho48 (fun p_ hp_ => (hs59.own p_ (List.mem_append_right [_, _, _] (List.mem_append_left _ hp_))).1) ?_ ?_ ?_) ?_
    · first | omega | exact hbv.1
    · first | omega | exact hbv.2
    · first | omega | (simp only [List.length_append, List.length_nil, partI_len, List.length_take]; omega)
    rintro _ whs60 ⟨A61, c62, L1_63, rfl, hs60, ho64⟩
    replace hs60 := St.lend (St.perm hs59 (L' := L47 ++ _) (perm_front (A := [_, _, _]) (List.Perm.refl _))) hs60
    refine ⟨_, rfl, ?_⟩
    replace hs60 := St.back [_, _, _] hs60
    refine WL.nil ⟨(St.drop (St.perm hs60 (L' := L1_63 ++ _) (perm_front (A := [_, _, _]) (List.Perm.refl _))) (List.sublist_append_right L1_63 _)), ?_⟩
    refine WH.all [7] (by kernel_rfl) rfl (WHs.cons (i := 7) rfl ?_ WHs.nil)
    refine WL.call rfl rfl rfl (Run.call Try.call174 rfl rfl rfl) (c_impl_putVars _ _ _ _ _ _ _ _ ho64 (fun p_ hp_ => (hs60.own p_ (List.mem_append_right [_, _, _] (List.mem_append_left _ hp_))).1) (SlF.st0 f_t.S.Tabs hs60) (St.sep (St.perm hs60 (L' := L1_63 ++ _) (perm_front (A := [_, _, _]) (List.Perm.refl _))) f_t.S.Tabs) ?_ ?_) ?_
    · first | exact fun x hx => (by have := hh x hx; omega) | exact fun x hx => (by have := hv3 x hx; omega) | exact fun x hx => (by have := htb x hx; omega)
    · first | omega | (simp only [List.length_append, List.length_nil, partI_len, List.length_take]; omega)
    rintro _ whs65 ⟨A66, c67, L1_68, rfl, hs65, ho69⟩
    replace hs65 := St.lend (St.perm hs60 (L' := L1_63 ++ _) (perm_front (A := [_, _, _]) (List.Perm.refl _))) hs65
    refine ⟨_, rfl, ?_⟩
    replace hs65 := St.back [_, _, _] hs65
    refine WL.nil ⟨(St.drop (St.perm hs65 (L' := L1_68 ++ _) (perm_front (A := [_, _, _]) (List.Perm.refl _))) (List.sublist_append_right L1_68 _)), ?_⟩
    refine WH.take 8 rfl (by kernel_rfl) rfl rfl rfl (St.drop (St.perm hs65 (L' := L1_68 ++ _) (perm_front (A := [_, _, _]) (List.Perm.refl _))) (List.sublist_append_right L1_68 _)) (fun w_ hs_ => (Run.assign rfl rfl)) ?_
    refine WH.done (by kernel_rfl) ?_
    refine hK58 _ _ ?_
    refine WC.seq (fun K70 hK70 => ?_)
    refine WC.regionH2 (fun w' => St _ _ _ w') (fun w' => St _ _ _ w') mixed (St.drew (St.drop (St.perm hs65 (L' := L1_68 ++ _) (perm_front (A := [_, _, _]) (List.Perm.refl _))) (List.sublist_append_right L1_68 _))) (St.drew hs65) (fun whs71 hs71 => ?_)
    replace hs71 : St _ _ _ _ := hs71
    refine WH.take 0 rfl (by kernel_rfl) rfl rfl rfl (St.drop (St.perm hs71 (L' := L1_68 ++ _) (perm_front (A := [_, _, _]) (List.Perm.refl _))) (List.sublist_append_right L1_68 _)) (fun w_ hs_ => (Run.move rfl rfl)) ?_
    refine WH.take 1 rfl (by kernel_rfl) rfl rfl rfl (St.drop (St.perm hs71 (L' := L1_68 ++ _) (perm_front (A := [_, _, _]) (List.Perm.refl _))) (List.sublist_append_right L1_68 _)) (fun w_ hs_ => (Run.field Try.runUnderlying33 rfl rfl rfl Try.sizeOf28 rfl)) ?_
    refine WH.take 2 rfl (by kernel_rfl) rfl rfl rfl (St.drop (St.perm hs71 (L' := L1_68 ++ _) (perm_front (A := [_, _, _]) (List.Perm.refl _))) (List.sublist_append_right L1_68 _)) (fun w_ hs_ => (Run.field Try.runUnderlying28 rfl rfl rfl Try.sizeOf26 rfl)) ?_
    refine WH.take 3 rfl (by kernel_rfl) rfl rfl rfl (St.drop (St.perm hs71 (L' := L1_68 ++ _) (perm_front (A := [_, _, _]) (List.Perm.refl _))) (List.sublist_append_right L1_68 _)) (fun w_ hs_ => (Run.loadL (hs_ : St _ _ _ _) 1 Try.isAgg26 rfl rfl rfl rfl)) ?_
    refine WH.take 5 rfl (by kernel_rfl) rfl rfl rfl (St.drop (St.perm hs71 (L' := L1_68 ++ _) (perm_front (A := [_, _, _]) (List.Perm.refl _))) (List.sublist_append_right L1_68 _)) (fun w_ hs_ => (Run.field Try.runUnderlying33 rfl rfl rfl Try.sizeOf28 rfl)) ?_
    refine WH.take 6 rfl (by kernel_rfl) rfl rfl rfl (St.drop (St.perm hs71 (L' := L1_68 ++ _) (perm_front (A := [_, _, _]) (List.Perm.refl _))) (List.sublist_append_right L1_68 _)) (fun w_ hs_ => (Run.field Try.runUnderlying28 rfl rfl rfl Try.sizeOf26 rfl)) ?_
    refine WH.take 7 rfl (by kernel_rfl) rfl rfl rfl (St.drop (St.perm hs71 (L' := L1_68 ++ _) (perm_front (A := [_, _, _]) (List.Perm.refl _))) (List.sublist_append_right L1_68 _)) (fun w_ hs_ => (Run.loadL (hs_ : St _ _ _ _) 1 Try.isAgg26 rfl rfl rfl rfl)) ?_
    refine WH.all [4] (by kernel_rfl) rfl (WHs.cons (i := 4) rfl ?_ WHs.nil)
    refine WL.call rfl rfl rfl (Run.call Try.call177 rfl rfl rfl) (c_impl_putCells _ _ _ _ _ _ _ _ ho69 (fun p_ hp_ => (hs71.own p_ (List.mem_append_right [_, _, _] (List.mem_append_left _ hp_))).1) (SlF.st0 f_t.S.Main.Cells hs71) (St.sep (St.perm hs71 (L' := L1_68 ++ _) (perm_front (A := [_, _, _]) (List.Perm.refl _))) f_t.S.Main.Cells) ?_ ?_ ?_) ?_
    · omega
    · first | exact hm2 | exact ha2 | exact hrc2
    · first | omega | (simp only [List.length_append, List.length_nil, partI_len, List.length_take]; omega)
    rintro _ whs72 ⟨A73, c74, L1_75, rfl, hs72, ho76⟩
    replace hs72 := St.lend (St.perm hs71 (L' := L1_68 ++ _) (perm_front (A := [_, _, _]) (List.Perm.refl _))) hs72
    refine ⟨_, rfl, ?_⟩
    replace hs72 := St.back [_, _, _] hs72
    refine WL.nil ⟨(St.drop (St.perm hs72 (L' := L1_75 ++ _) (perm_front (A := [_, _, _]) (List.Perm.refl _))) (List.sublist_append_right L1_75 _)), ?_⟩
    refine WH.all [8] (by kernel_rfl) rfl (WHs.cons (i := 8) rfl ?_ WHs.nil)
    refine WL.call rfl rfl rfl (Run.call Try.call177 rfl rfl rfl) (c_impl_putCells _ _ _ _ _ _ _ _ ho76 (fun p_ hp_ => (hs72.own p_ (List.mem_append_right [_, _, _] (List.mem_append_left _ hp_))).1) (SlF.st0 f_t.S.Alt.Cells hs72) (St.sep (St.perm hs72 (L' := L1_75 ++ _) (perm_front (A := [_, _, _]) (List.Perm.refl _))) f_t.S.Alt.Cells) ?_ ?_ ?_) ?_
    · omega
    · first | exact hm2 | exact ha2 | exact hrc2
    · first | omega | (simp only [List.length_append, List.length_nil, partI_len, List.length_take]; omega)
    rintro _ whs77 ⟨A78, c79, L1_80, rfl, hs77, ho81⟩
    replace hs77 := St.lend (St.perm hs72 (L' := L1_75 ++ _) (perm_front (A := [_, _, _]) (List.Perm.refl _))) hs77
    refine ⟨_, rfl, ?_⟩
    replace hs77 := St.back [_, _, _] hs77
    refine WL.nil ⟨(St.drop (St.perm hs77 (L' := L1_80 ++ _) (perm_front (A := [_, _, _]) (List.Perm.refl _))) (List.sublist_append_right L1_80 _)), ?_⟩
    refine WH.take 9 rfl (by kernel_rfl) rfl rfl rfl (St.drop (St.perm hs77 (L' := L1_80 ++ _) (perm_front (A := [_, _, _]) (List.Perm.refl _))) (List.sublist_append_right L1_80 _)) (fun w_ hs_ => (Run.assign rfl rfl)) ?_
    refine WH.done (by kernel_rfl) ?_
    refine hK70 _ _ ?_
    refine WC.sr ?_
    refine WL.run tbk 4 hs77 [1] rfl ⟨rfl, trivial⟩ ?_
    refine WL.call rfl rfl rfl (Run.call Try.call176 rfl rfl rfl) (c_impl_putVar _ _ _ _ _ ho81 (fun p_ hp_ => (hs77.own p_ (List.mem_append_right [_, _, _] (List.mem_append_left _ hp_))).1) ?_ ?_ ?_) ?_
    · first | omega | exact hbv.1
    · first | omega | exact hbv.2
    · first | omega | (simp only [List.length_append, List.length_nil, partI_len, List.length_take]; omega)
    rintro _ whs82 ⟨A83, c84, L1_85, rfl, hs82, ho86⟩
    replace hs82 := St.lend (St.perm hs77 (L' := L1_80 ++ _) (perm_front (A := [_, _, _]) (List.Perm.refl _))) hs82
    refine ⟨_, rfl, ?_⟩
    replace hs82 := St.back [_, _, _] hs82
    refine WL.run tbk 1 hs82 [] rfl trivial ?_
    refine WL.nil ?_
    refine WC.seq (fun K87 hK87 => ?_)
    refine WC.rr tbk hs82 [1] rfl ⟨rfl, trivial⟩ ?_
    refine WC.block ?_
    refine WC.loopO [(2, _), (80, _), (111, _), (112, _)] ⟨rfl, rfl, rfl, rfl, trivial⟩ (St.perm hs82 (L' := L1_85 ++ _) (perm_front (A := [_, _, _]) (List.Perm.refl _))) (fun k_ f L_ => ∃ (zs : List UInt8) (i : Nat) (A88 : Option Addr) (c89 : Nat), k_ = t.S.Back.n - i ∧ (i ≤ t.S.Back.n) ∧ (zs = [] ++ numsL (headL t.dat) ++ varL ((t.P.Args.n : Int)).toNat ++ numsL t.P.Args.xs ++ varL ((t.P.Part.n : Int)).toNat ++ numsL (partI t.P.Part.xs) ++ varL ((t.S.Tabs.n : Int)).toNat ++ numsL t.S.Tabs.xs ++ cellsB t.S.Main.Cells.xs ++ cellsB t.S.Alt.Cells.xs ++ varL ((t.S.Back.n : Int)).toNat ++ rowsL ((t.S.Back.xs.take i).map RowR.dat)) ∧ OwnF encB 5 (.slice A88 (zs.length) c89) (zs) L_ ∧ Sub [(6, .slice A88 (zs.length) c89), (113, .int .i64 i)] f) (t.S.Back.n) ?_ ?_
    ·refine ⟨[] ++ numsL (headL t.dat) ++ varL ((t.P.Args.n : Int)).toNat ++ numsL t.P.Args.xs ++ varL ((t.P.Part.n : Int)).toNat ++ numsL (partI t.P.Part.xs) ++ varL ((t.S.Tabs.n : Int)).toNat ++ numsL t.S.Tabs.xs ++ cellsB t.S.Main.Cells.xs ++ cellsB t.S.Alt.Cells.xs ++ varL ((t.S.Back.n : Int)).toNat, 0, _, _, rfl, ?_, ?_, ho86, ⟨rfl, rfl, trivial⟩⟩
     · exact Nat.zero_le _
     · simp [rowsL]
    ·clear hs82
     rintro _ f w L90 ⟨zs, i, A88, c89, rfl, r0, r1, ho91, hG⟩ hF hs92
     refine WC.sub _ (hG.app hF) ?_
     clear hG hF
     replace hs92 := St.back [_, _, _] hs92
     have hz2 : zs.length ≤ 20000000 := by rw [r1]; have q8 := rowsL_len (b := (t.S.Back.xs.take i).map RowR.dat) (fun r hr => hrw r (by obtain ⟨y, hy, rfl⟩ := List.mem_map.1 hr; exact List.mem_map_of_mem (List.mem_of_mem_take hy))); rw [List.length_map, List.length_take] at q8; simp only [List.length_append, List.length_nil, partI_len]; omega
     refine WC.rr tbk hs92 [] rfl trivial ?_
     refine WC.seq (fun K93 hK93 => ?_)
     refine WC.cond rfl (fun h94 => ?_) (fun h94 => ?_)
     ·have qh94 := h94
      try simp only [bf, within_iff, within_not] at qh94
      have hrk := rowOk_cells (hrw (RowR.dat (gat encRowR t.S.Back.xs i)) (List.mem_map_of_mem (gat_mem (by omega))))
      have hrc1 : (gat encRowR t.S.Back.xs i).Cells.xs.length ≤ 120 := hrk.1
      have hrc2 : cellsOk (gat encRowR t.S.Back.xs i).Cells.xs = true := hrk.2
      have hrn := (SlN.nth f_t.S.Back (show i < t.S.Back.n by omega)).Cells.len
      have w5 := varL_len (((gat encRowR t.S.Back.xs i).Cells.n : Int)).toNat (by omega)
      refine WC.skip ?_
      refine hK93 _ _ ?_
      refine WC.seq (fun K95 hK95 => ?_)
      refine WC.block ?_
      refine WC.sr ?_
      refine WL.val rfl rfl rfl (Run.idxN Try.runUnderlying31 Try.sizeOf98 rfl rfl rfl ?_ ?_ ?_) ?_
      · exact SlF.some_ (SlF.st0 f_t.S.Back.sl hs92)
      · omega
      · omega
      refine WL.val rfl rfl rfl (Run.loadA Try.isAgg98 Try.sizeOf98 rfl rfl (SlF.whole (SlF.st0 f_t.S.Back.sl hs92) ?_)) ?_
      · omega
      refine WL.al hs92 Try.zeroValue98 rfl rfl (fun b96 _ hs97 => ?_)
      refine WL.st tbk hs97 0 rfl rfl (fun _ hs98 => ?_)
      refine WL.nil ?_
      refine WC.regionH2 (fun w' => St _ _ _ w') (fun w' => St _ _ _ w') mixed (St.drew (St.drop (St.perm hs98 (L' := L90 ++ _) (perm_front (A := [_, _, _, _]) (List.Perm.refl _))) (List.sublist_append_right L90 _))) (St.drew hs98) (fun whs99 hs99 => ?_)
      replace hs99 : St _ _ _ _ := hs99
      refine WH.take 0 rfl (by kernel_rfl) rfl rfl rfl (St.drop (St.perm hs99 (L' := L90 ++ _) (perm_front (A := [_, _, _, _]) (List.Perm.refl _))) (List.sublist_append_right L90 _)) (fun w_ hs_ => (Run.move rfl rfl)) ?_
      refine WH.take 1 rfl (by kernel_rfl) rfl rfl rfl (St.drop (St.perm hs99 (L' := L90 ++ _) (perm_front (A := [_, _, _, _]) (List.Perm.refl _))) (List.sublist_append_right L90 _)) (fun w_ hs_ => (Run.field Try.runUnderlying98 rfl rfl rfl Try.sizeOf26 rfl)) ?_
      refine WH.take 2 rfl (by kernel_rfl) rfl rfl rfl (St.drop (St.perm hs99 (L' := L90 ++ _) (perm_front (A := [_, _, _, _]) (List.Perm.refl _))) (List.sublist_append_right L90 _)) (fun w_ hs_ => (Run.loadL (hs_ : St _ _ _ _) 0 Try.isAgg26 rfl rfl rfl rfl)) ?_
      refine WH.take 3 rfl (by kernel_rfl) rfl rfl rfl (St.drop (St.perm hs99 (L' := L90 ++ _) (perm_front (A := [_, _, _, _]) (List.Perm.refl _))) (List.sublist_append_right L90 _)) (fun w_ hs_ => (Run.lenSl Try.runUnderlying26 rfl rfl)) ?_
      refine WH.take 5 rfl (by kernel_rfl) rfl rfl rfl (St.drop (St.perm hs99 (L' := L90 ++ _) (perm_front (A := [_, _, _, _]) (List.Perm.refl _))) (List.sublist_append_right L90 _)) (fun w_ hs_ => (Run.field Try.runUnderlying98 rfl rfl rfl Try.sizeOf26 rfl)) ?_
      refine WH.take 6 rfl (by kernel_rfl) rfl rfl rfl (St.drop (St.perm hs99 (L' := L90 ++ _) (perm_front (A := [_, _, _, _]) (List.Perm.refl _))) (List.sublist_append_right L90 _)) (fun w_ hs_ => (Run.loadL (hs_ : St _ _ _ _) 0 Try.isAgg26 rfl rfl rfl rfl)) ?_
      refine WH.all [4] (by kernel_rfl) rfl (WHs.cons (i := 4) rfl ?_ WHs.nil)
      refine WL.call rfl rfl rfl (Run.call Try.call176 rfl rfl rfl) (c_impl_putVar _ _ _ _ _ ho91 (fun p_ hp_ => (hs99.own p_ (List.mem_append_right [_, _, _, _] (List.mem_append_left _ hp_))).1) ?_ ?_ ?_) ?_
      · first | omega | exact hbv.1
      · first | omega | exact hbv.2
      · first | omega | (simp only [List.length_append, List.length_nil, partI_len, List.length_take]; omega)
      rintro _ whs100 ⟨A101, c102, L1_103, rfl, hs100, ho104⟩
      replace hs100 := St.lend (St.perm hs99 (L' := L90 ++ _) (perm_front (A := [_, _, _, _]) (List.Perm.refl _))) hs100
      refine ⟨_, rfl, ?_⟩
      replace hs100 := St.back [_, _, _, _] hs100
      refine WL.nil ⟨(St.drop (St.perm hs100 (L' := L1_103 ++ _) (perm_front (A := [_, _, _, _]) (List.Perm.refl _))) (List.sublist_append_right L1_103 _)), ?_⟩
      refine WH.all [7] (by kernel_rfl) rfl (WHs.cons (i := 7) rfl ?_ WHs.nil)
      refine WL.call rfl rfl rfl (Run.call Try.call177 rfl rfl rfl) (c_impl_putCells _ _ _ _ _ _ _ _ ho104 (fun p_ hp_ => (hs100.own p_ (List.mem_append_right [_, _, _, _] (List.mem_append_left _ hp_))).1) (SlF.st0 (SlN.nth f_t.S.Back (by omega)).Cells hs100) (St.sep (St.perm hs100 (L' := L1_103 ++ _) (perm_front (A := [_, _, _, _]) (List.Perm.refl _))) (SlN.nth f_t.S.Back (by omega)).Cells) ?_ ?_ ?_) ?_
      · omega
      · first | exact hm2 | exact ha2 | exact hrc2
      · first | omega | (simp only [List.length_append, List.length_nil, partI_len, List.length_take]; omega)
      rintro _ whs105 ⟨A106, c107, L1_108, rfl, hs105, ho109⟩
      replace hs105 := St.lend (St.perm hs100 (L' := L1_103 ++ _) (perm_front (A := [_, _, _, _]) (List.Perm.refl _))) hs105
      refine ⟨_, rfl, ?_⟩
      replace hs105 := St.back [_, _, _, _] hs105
      refine WL.nil ⟨(St.drop (St.perm hs105 (L' := L1_108 ++ _) (perm_front (A := [_, _, _, _]) (List.Perm.refl _))) (List.sublist_append_right L1_108 _)), ?_⟩
      refine WH.take 8 rfl (by kernel_rfl) rfl rfl rfl (St.drop (St.perm hs105 (L' := L1_108 ++ _) (perm_front (A := [_, _, _, _]) (List.Perm.refl _))) (List.sublist_append_right L1_108 _)) (fun w_ hs_ => (Run.assign rfl rfl)) ?_
      refine WH.done (by kernel_rfl) ?_
      refine hK95 _ _ ?_
      refine WC.region ?_
      refine WL.run tbk 2 hs105 [] rfl ⟨by omega, trivial⟩ ?_
      refine WL.nil ?_
      refine tkN ?_
      replace hs105 := St.drop hs105 (List.sublist_append_right [_] _)
      refine ⟨⟨rfl, rfl, rfl, rfl, trivial⟩, _, (St.perm hs105 (L' := L1_108 ++ _) (perm_front (A := [_, _, _]) (List.Perm.refl _))), _, ?_, _, i + 1, _, _, rfl, ?_, ?_, ho109, ⟨rfl, rfl, trivial⟩⟩
      · omega
      · omega
      · rw [r1, rowsL_take (by omega)]; simp only [List.append_assoc, Int.toNat_natCast, hrn]; try rfl
     ·have qh94 := h94
      try simp only [bf, within_iff, within_not] at qh94
      refine WC.exit ?_
      refine hK87 _ _ ?_
      refine WC.rr tbk hs92 [] rfl trivial ?_
      refine WC.ret ?_
      refine retV1 rfl (resV.tmp rfl) ?_
      have hx_ := OwnF.eqOf (xs := termL t.dat) ho91 (by rw [r1, List.take_of_length_le (by omega)]; unfold termL; simp only [Int.toNat_natCast, List.append_assoc, List.nil_append]; have e_ : t.dat.S.Back.length = t.S.Back.n := (List.length_map _).trans nl_t_S_Back; rw [e_, ← nl_t_P_Args, ← nl_t_P_Part, ← nl_t_S_Tabs]; rfl)
      rw [← hx_]
      first | exact ⟨_, _, _, rfl, (St.keep1 (St.perm hs92 (L' := L90 ++ _) (perm_front (A := [_, _, _]) (List.Perm.refl _)))), ho91⟩ | exact ⟨A88, c89, _, by rw [OwnF.len_ ho91], (St.keep1 (St.perm hs92 (L' := L90 ++ _) (perm_front (A := [_, _, _]) (List.Perm.refl _)))), by rw [OwnF.len_ ho91]; exact ho91⟩
 ·refine WL.al hs5 Try.zeroValue25 rfl rfl (fun b110 _ hs111 => ?_)
  refine WL.nil ⟨(St.drop hs111 (List.sublist_append_right [_] _)), ?_⟩
  refine WH.all [4] (by kernel_rfl) rfl (WHs.cons (i := 4) rfl ?_ WHs.nil)
  refine WL.al hs111 Try.zeroValue33 rfl rfl (fun b112 _ hs113 => ?_)
  refine WL.nil ⟨(St.drop hs113 (List.sublist_append_right [_, _] _)), ?_⟩
  refine WH.all [6] (by kernel_rfl) rfl (WHs.cons (i := 6) rfl ?_ WHs.nil)
  refine WL.st tbk hs113 0 rfl rfl (fun _ hs114 => ?_)
  refine WL.nil ⟨(St.drop hs114 (List.sublist_append_right [_, _] _)), ?_⟩
  refine WH.all [7] (by kernel_rfl) rfl (WHs.cons (i := 7) rfl ?_ WHs.nil)
  refine WL.st tbk hs114 1 rfl rfl (fun _ hs115 => ?_)
  refine WL.nil ⟨(St.drop hs115 (List.sublist_append_right [_, _] _)), ?_⟩
  refine WH.done (by kernel_rfl) ?_
  refine hK4 _ _ ?_
  refine WC.sq hs115 mixed (by kernel_rfl) ?_
  refine WQ.run tbk 2 [0] rfl ⟨rfl, trivial⟩ ?_
  refine WQ.call rfl rfl rfl (fun w_ hs_ => (Run.call Try.call173 rfl rfl rfl)) (fun w_ hs_ => (c_impl_bit _ _ _).mono fun e_ w_ h_ => ⟨h_.1, (hs_ : St _ _ _ _).call0 h_.2⟩) ?_
  refine WQ.run tbk 2 [0] rfl ⟨rfl, trivial⟩ ?_
  refine WQ.call rfl rfl rfl (fun w_ hs_ => (Run.call Try.call173 rfl rfl rfl)) (fun w_ hs_ => (c_impl_bit _ _ _).mono fun e_ w_ h_ => ⟨h_.1, (hs_ : St _ _ _ _).call0 h_.2⟩) ?_
  refine WQ.run tbk 3 [0] rfl ⟨rfl, ?_, trivial⟩ ?_
  · (have e1 : 0 ≤ bitI t.S.OnAlt 1 ∧ bitI t.S.OnAlt 1 ≤ 1 := bitI_bnd (by decide); have e2 : 0 ≤ bitI t.S.Wrap 2 ∧ bitI t.S.Wrap 2 ≤ 2 := bitI_bnd (by decide); have e3 : 0 ≤ bitI t.S.NoWrap 4 ∧ bitI t.S.NoWrap 4 ≤ 4 := bitI_bnd (by decide); have e4 : 0 ≤ bitI t.S.Hide 8 ∧ bitI t.S.Hide 8 ≤ 8 := bitI_bnd (by decide); have e5 : 0 ≤ bitI t.P.Mark 16 ∧ bitI t.P.Mark 16 ≤ 16 := bitI_bnd (by decide); constructor <;> omega)
  refine WQ.call rfl rfl rfl (fun w_ hs_ => (Run.call Try.call173 rfl rfl rfl)) (fun w_ hs_ => (c_impl_bit _ _ _).mono fun e_ w_ h_ => ⟨h_.1, (hs_ : St _ _ _ _).call0 h_.2⟩) ?_
  refine WQ.run tbk 3 [0] rfl ⟨rfl, ?_, trivial⟩ ?_
  · (have e1 : 0 ≤ bitI t.S.OnAlt 1 ∧ bitI t.S.OnAlt 1 ≤ 1 := bitI_bnd (by decide); have e2 : 0 ≤ bitI t.S.Wrap 2 ∧ bitI t.S.Wrap 2 ≤ 2 := bitI_bnd (by decide); have e3 : 0 ≤ bitI t.S.NoWrap 4 ∧ bitI t.S.NoWrap 4 ≤ 4 := bitI_bnd (by decide); have e4 : 0 ≤ bitI t.S.Hide 8 ∧ bitI t.S.Hide 8 ≤ 8 := bitI_bnd (by decide); have e5 : 0 ≤ bitI t.P.Mark 16 ∧ bitI t.P.Mark 16 ≤ 16 := bitI_bnd (by decide); constructor <;> omega)
  refine WQ.call rfl rfl rfl (fun w_ hs_ => (Run.call Try.call173 rfl rfl rfl)) (fun w_ hs_ => (c_impl_bit _ _ _).mono fun e_ w_ h_ => ⟨h_.1, (hs_ : St _ _ _ _).call0 h_.2⟩) ?_
  refine WQ.run tbk 3 [1] rfl ⟨rfl, ?_, trivial⟩ ?_
  · (have e1 : 0 ≤ bitI t.S.OnAlt 1 ∧ bitI t.S.OnAlt 1 ≤ 1 := bitI_bnd (by decide); have e2 : 0 ≤ bitI t.S.Wrap 2 ∧ bitI t.S.Wrap 2 ≤ 2 := bitI_bnd (by decide); have e3 : 0 ≤ bitI t.S.NoWrap 4 ∧ bitI t.S.NoWrap 4 ≤ 4 := bitI_bnd (by decide); have e4 : 0 ≤ bitI t.S.Hide 8 ∧ bitI t.S.Hide 8 ≤ 8 := bitI_bnd (by decide); have e5 : 0 ≤ bitI t.P.Mark 16 ∧ bitI t.P.Mark 16 ≤ 16 := bitI_bnd (by decide); constructor <;> omega)
  refine WQ.call rfl rfl rfl (fun w_ hs_ => (Run.call Try.call173 rfl rfl rfl)) (fun w_ hs_ => (c_impl_bit _ _ _).mono fun e_ w_ h_ => ⟨h_.1, (hs_ : St _ _ _ _).call0 h_.2⟩) ?_
  refine WQ.run tbk 2 [] rfl ⟨?_, trivial⟩ ?_
  · (have e1 : 0 ≤ bitI t.S.OnAlt 1 ∧ bitI t.S.OnAlt 1 ≤ 1 := bitI_bnd (by decide); have e2 : 0 ≤ bitI t.S.Wrap 2 ∧ bitI t.S.Wrap 2 ≤ 2 := bitI_bnd (by decide); have e3 : 0 ≤ bitI t.S.NoWrap 4 ∧ bitI t.S.NoWrap 4 ≤ 4 := bitI_bnd (by decide); have e4 : 0 ≤ bitI t.S.Hide 8 ∧ bitI t.S.Hide 8 ≤ 8 := bitI_bnd (by decide); have e5 : 0 ≤ bitI t.P.Mark 16 ∧ bitI t.P.Mark 16 ≤ 16 := bitI_bnd (by decide); constructor <;> omega)
  refine WQ.nil (fun _ (hs116 : St _ _ _ _) => ?_)
  refine WC.seq (fun K117 hK117 => ?_)
  refine WC.regionH2 (fun w' => St _ _ _ w') (fun w' => St _ _ _ w') mixed (St.drew hs116) (St.drew hs116) (fun whs118 hs118 => ?_)
  replace hs118 : St _ _ _ _ := hs118
  refine WH.take 0 rfl (by kernel_rfl) rfl rfl rfl hs118 (fun w_ hs_ => (Run.field Try.runUnderlying33 rfl rfl rfl Try.sizeOf3 rfl)) ?_
  refine WH.take 1 rfl (by kernel_rfl) rfl rfl rfl hs118 (fun w_ hs_ => (Run.loadL (hs_ : St _ _ _ _) 0 Try.isAgg3 rfl rfl rfl rfl)) ?_
  refine WH.take 2 rfl (by kernel_rfl) rfl rfl rfl hs118 (fun w_ hs_ => (Run.field Try.runUnderlying33 rfl rfl rfl Try.sizeOf3 rfl)) ?_
  refine WH.take 3 rfl (by kernel_rfl) rfl rfl rfl hs118 (fun w_ hs_ => (Run.loadL (hs_ : St _ _ _ _) 0 Try.isAgg3 rfl rfl rfl rfl)) ?_
  refine WH.take 4 rfl (by kernel_rfl) rfl rfl rfl hs118 (fun w_ hs_ => (Run.move rfl rfl)) ?_
  refine WH.take 5 rfl (by kernel_rfl) rfl rfl rfl hs118 (fun w_ hs_ => (Run.field Try.runUnderlying33 rfl rfl rfl Try.sizeOf3 rfl)) ?_
  refine WH.take 6 rfl (by kernel_rfl) rfl rfl rfl hs118 (fun w_ hs_ => (Run.loadL (hs_ : St _ _ _ _) 0 Try.isAgg3 rfl rfl rfl rfl)) ?_
  refine WH.take 7 rfl (by kernel_rfl) rfl rfl rfl hs118 (fun w_ hs_ => (Run.field Try.runUnderlying33 rfl rfl rfl Try.sizeOf3 rfl)) ?_
  refine WH.take 8 rfl (by kernel_rfl) rfl rfl rfl hs118 (fun w_ hs_ => (Run.loadL (hs_ : St _ _ _ _) 0 Try.isAgg3 rfl rfl rfl rfl)) ?_
  refine WH.take 9 rfl (by kernel_rfl) rfl rfl rfl hs118 (fun w_ hs_ => (Run.field Try.runUnderlying33 rfl rfl rfl Try.sizeOf30 rfl)) ?_
  refine WH.take 10 rfl (by kernel_rfl) rfl rfl rfl hs118 (fun w_ hs_ => (Run.loadLA (hs_ : St _ _ _ _) 0 Try.isAgg30 Try.sizeOf30 rfl rfl rfl rfl rfl)) ?_
  refine WH.take 12 rfl (by kernel_rfl) rfl rfl rfl hs118 (fun w_ hs_ => (Run.field Try.runUnderlying33 rfl rfl rfl Try.sizeOf3 rfl)) ?_
  refine WH.take 13 rfl (by kernel_rfl) rfl rfl rfl hs118 (fun w_ hs_ => (Run.loadL (hs_ : St _ _ _ _) 0 Try.isAgg3 rfl rfl rfl rfl)) ?_
  refine WH.take 14 rfl (by kernel_rfl) rfl rfl rfl hs118 (fun w_ hs_ => (Run.field Try.runUnderlying33 rfl rfl rfl Try.sizeOf3 rfl)) ?_
  refine WH.take 15 rfl (by kernel_rfl) rfl rfl rfl hs118 (fun w_ hs_ => (Run.loadL (hs_ : St _ _ _ _) 0 Try.isAgg3 rfl rfl rfl rfl)) ?_
  refine WH.take 16 rfl (by kernel_rfl) rfl rfl rfl hs118 (fun w_ hs_ => (Run.field Try.runUnderlying33 rfl rfl rfl Try.sizeOf3 rfl)) ?_
  refine WH.take 17 rfl (by kernel_rfl) rfl rfl rfl hs118 (fun w_ hs_ => (Run.loadL (hs_ : St _ _ _ _) 0 Try.isAgg3 rfl rfl rfl rfl)) ?_
  refine WH.take 18 rfl (by kernel_rfl) rfl rfl rfl hs118 (fun w_ hs_ => (Run.field Try.runUnderlying33 rfl rfl rfl Try.sizeOf3 rfl)) ?_
  refine WH.take 19 rfl (by kernel_rfl) rfl rfl rfl hs118 (fun w_ hs_ => (Run.loadL (hs_ : St _ _ _ _) 0 Try.isAgg3 rfl rfl rfl rfl)) ?_
  refine WH.take 20 rfl (by kernel_rfl) rfl rfl rfl hs118 (fun w_ hs_ => (Run.field Try.runUnderlying33 rfl rfl rfl Try.sizeOf30 rfl)) ?_
  refine WH.take 21 rfl (by kernel_rfl) rfl rfl rfl hs118 (fun w_ hs_ => (Run.loadLA (hs_ : St _ _ _ _) 0 Try.isAgg30 Try.sizeOf30 rfl rfl rfl rfl rfl)) ?_
  refine WH.take 23 rfl (by kernel_rfl) rfl rfl rfl hs118 (fun w_ hs_ => (Run.field Try.runUnderlying33 rfl rfl rfl Try.sizeOf3 rfl)) ?_
  refine WH.take 24 rfl (by kernel_rfl) rfl rfl rfl hs118 (fun w_ hs_ => (Run.loadL (hs_ : St _ _ _ _) 0 Try.isAgg3 rfl rfl rfl rfl)) ?_
  refine WH.take 25 rfl (by kernel_rfl) rfl rfl rfl hs118 (fun w_ hs_ => (Run.field Try.runUnderlying25 rfl rfl rfl Try.sizeOf3 rfl)) ?_
  refine WH.take 26 rfl (by kernel_rfl) rfl rfl rfl hs118 (fun w_ hs_ => (Run.loadL (hs_ : St _ _ _ _) 1 Try.isAgg3 rfl rfl rfl rfl)) ?_
  refine WH.all [11] (by kernel_rfl) rfl (WHs.cons (i := 11) rfl ?_ WHs.nil)
  refine WL.call rfl rfl rfl (Run.call Try.call175 rfl rfl rfl) (c_impl_AttrNum _ _ _ _ _ _) ?_
  rintro _ whs119 ⟨rfl, hs119⟩
  replace hs119 := hs118.call0 hs119
  refine ⟨_, rfl, ?_⟩
  refine WL.nil ⟨hs119, ?_⟩
  refine WH.all [22] (by kernel_rfl) rfl (WHs.cons (i := 22) rfl ?_ WHs.nil)
  refine WL.call rfl rfl rfl (Run.call Try.call175 rfl rfl rfl) (c_impl_AttrNum _ _ _ _ _ _) ?_
  rintro _ whs120 ⟨rfl, hs120⟩
  replace hs120 := hs119.call0 hs120
  refine ⟨_, rfl, ?_⟩
  refine WL.nil ⟨hs120, ?_⟩
  refine WH.all [27] (by kernel_rfl) rfl (WHs.cons (i := 27) rfl ?_ WHs.nil)
  refine WL.buildF (F := encI) hs120 ((headL t.dat)) Try.runUnderlying22 Try.sizeOf3 Try.zeroValue3 rfl rfl rfl rfl rfl rfl rfl rfl rfl rfl rfl rfl (fun A124 c125 L121 whs122 hs122 ho123 => ?_)
  replace hs122 := St.back [_, _, _] hs122
  refine WL.nil ⟨(St.drop (St.perm hs122 (L' := L121 ++ _) (perm_front (A := [_, _, _]) (List.Perm.refl _))) (List.sublist_append_right L121 _)), ?_⟩
  refine WH.all [28] (by kernel_rfl) rfl (WHs.cons (i := 28) rfl ?_ WHs.nil)
  refine WL.call rfl rfl rfl (Run.call Try.call174 rfl rfl rfl) (c_impl_putVars _ _ _ _ _ _ _ _ (OwnF.nil _ _) (by simp) (SlF.ofOwn ho123 (fun p_ hp_ => (hs122.own p_ (List.mem_append_right [_, _, _] (List.mem_append_left _ hp_))).1)) sep_nil ?_ ?_) ?_
  · first | exact fun x hx => (by have := hh x hx; omega) | exact fun x hx => (by have := hv3 x hx; omega) | exact fun x hx => (by have := htb x hx; omega)
  · first | omega | (simp only [List.length_append, List.length_nil, partI_len, List.length_take]; omega)
  rintro _ whs126 ⟨A127, c128, L1_129, rfl, hs126, ho130⟩
  replace hs126 := St.lend (A := []) hs122 hs126
  refine ⟨_, rfl, ?_⟩
  replace hs126 := St.back [_, _, _] hs126
  refine WL.nil ⟨(St.drop (St.perm (St.drop (St.perm hs126 (L' := L1_129 ++ _) (perm_front (A := [_, _, _]) (List.Perm.refl _))) (List.sublist_append_right L1_129 _)) (L' := L121 ++ _) (perm_front (A := [_, _, _]) (List.Perm.refl _))) (List.sublist_append_right L121 _)), ?_⟩
  refine WH.take 29 rfl (by kernel_rfl) rfl rfl rfl (St.drop (St.perm (St.drop (St.perm hs126 (L' := L1_129 ++ _) (perm_front (A := [_, _, _]) (List.Perm.refl _))) (List.sublist_append_right L1_129 _)) (L' := L121 ++ _) (perm_front (A := [_, _, _]) (List.Perm.refl _))) (List.sublist_append_right L121 _)) (fun w_ hs_ => (Run.assign rfl rfl)) ?_
  refine WH.done (by kernel_rfl) ?_
  refine hK117 _ _ ?_
  refine WC.seq (fun K131 hK131 => ?_)
  refine WC.regionH2 (fun w' => St _ _ _ w') (fun w' => St _ _ _ w') mixed (St.drew (St.drop (St.perm hs126 (L' := L1_129 ++ _) (perm_front (A := [_, _, _]) (List.Perm.refl _))) (List.sublist_append_right L1_129 _))) (St.drew hs126) (fun whs132 hs132 => ?_)
  replace hs132 : St _ _ _ _ := hs132
  refine WH.take 0 rfl (by kernel_rfl) rfl rfl rfl (St.drop (St.perm hs132 (L' := L1_129 ++ _) (perm_front (A := [_, _, _]) (List.Perm.refl _))) (List.sublist_append_right L1_129 _)) (fun w_ hs_ => (Run.move rfl rfl)) ?_
  refine WH.take 1 rfl (by kernel_rfl) rfl rfl rfl (St.drop (St.perm hs132 (L' := L1_129 ++ _) (perm_front (A := [_, _, _]) (List.Perm.refl _))) (List.sublist_append_right L1_129 _)) (fun w_ hs_ => (Run.field Try.runUnderlying25 rfl rfl rfl Try.sizeOf22 rfl)) ?_
  refine WH.take 2 rfl (by kernel_rfl) rfl rfl rfl (St.drop (St.perm hs132 (L' := L1_129 ++ _) (perm_front (A := [_, _, _]) (List.Perm.refl _))) (List.sublist_append_right L1_129 _)) (fun w_ hs_ => (Run.loadL (hs_ : St _ _ _ _) 1 Try.isAgg22 rfl rfl rfl rfl)) ?_
  refine WH.take 3 rfl (by kernel_rfl) rfl rfl rfl (St.drop (St.perm hs132 (L' := L1_129 ++ _) (perm_front (A := [_, _, _]) (List.Perm.refl _))) (List.sublist_append_right L1_129 _)) (fun w_ hs_ => (Run.lenSl Try.runUnderlying22 rfl rfl)) ?_
  refine WH.take 5 rfl (by kernel_rfl) rfl rfl rfl (St.drop (St.perm hs132 (L' := L1_129 ++ _) (perm_front (A := [_, _, _]) (List.Perm.refl _))) (List.sublist_append_right L1_129 _)) (fun w_ hs_ => (Run.field Try.runUnderlying25 rfl rfl rfl Try.sizeOf22 rfl)) ?_
  refine WH.take 6 rfl (by kernel_rfl) rfl rfl rfl (St.drop (St.perm hs132 (L' := L1_129 ++ _) (perm_front (A := [_, _, _]) (List.Perm.refl _))) (List.sublist_append_right L1_129 _)) (fun w_ hs_ => (Run.loadL (hs_ : St _ _ _ _) 1 Try.isAgg22 rfl rfl rfl rfl)) ?_
  refine WH.all [4] (by kernel_rfl) rfl (WHs.cons (i := 4) rfl ?_ WHs.nil)
  refine WL.call rfl rfl rfl (Run.call Try.call176 rfl rfl rfl) (c_impl_putVar _ _ _ _ _ ho130 (fun p_ hp_ => (hs132.own p_ (List.mem_append_right [_, _, _] (List.mem_append_left _ hp_))).1) ?_ ?_ ?_) ?_
  · first | omega | exact hbv.1
  · first | omega | exact hbv.2
  · first | omega | (simp only [List.length_append, List.length_nil, partI_len, List.length_take]; omega)
  rintro _ whs133 ⟨A134, c135, L1_136, rfl, hs133, ho137⟩
  replace hs133 := St.lend (St.perm hs132 (L' := L1_129 ++ _) (perm_front (A := [_, _, _]) (List.Perm.refl _))) hs133
  refine ⟨_, rfl, ?_⟩
  replace hs133 := St.back [_, _, _] hs133
  refine WL.nil ⟨(St.drop (St.perm hs133 (L' := L1_136 ++ _) (perm_front (A := [_, _, _]) (List.Perm.refl _))) (List.sublist_append_right L1_136 _)), ?_⟩
  refine WH.all [7] (by kernel_rfl) rfl (WHs.cons (i := 7) rfl ?_ WHs.nil)
  refine WL.call rfl rfl rfl (Run.call Try.call174 rfl rfl rfl) (c_impl_putVars _ _ _ _ _ _ _ _ ho137 (fun p_ hp_ => (hs133.own p_ (List.mem_append_right [_, _, _] (List.mem_append_left _ hp_))).1) (SlF.st0 f_t.P.Args hs133) (St.sep (St.perm hs133 (L' := L1_136 ++ _) (perm_front (A := [_, _, _]) (List.Perm.refl _))) f_t.P.Args) ?_ ?_) ?_
  · first | exact fun x hx => (by have := hh x hx; omega) | exact fun x hx => (by have := hv3 x hx; omega) | exact fun x hx => (by have := htb x hx; omega)
  · first | omega | (simp only [List.length_append, List.length_nil, partI_len, List.length_take]; omega)
  rintro _ whs138 ⟨A139, c140, L1_141, rfl, hs138, ho142⟩
  replace hs138 := St.lend (St.perm hs133 (L' := L1_136 ++ _) (perm_front (A := [_, _, _]) (List.Perm.refl _))) hs138
  refine ⟨_, rfl, ?_⟩
  replace hs138 := St.back [_, _, _] hs138
  refine WL.nil ⟨(St.drop (St.perm hs138 (L' := L1_141 ++ _) (perm_front (A := [_, _, _]) (List.Perm.refl _))) (List.sublist_append_right L1_141 _)), ?_⟩
  refine WH.take 8 rfl (by kernel_rfl) rfl rfl rfl (St.drop (St.perm hs138 (L' := L1_141 ++ _) (perm_front (A := [_, _, _]) (List.Perm.refl _))) (List.sublist_append_right L1_141 _)) (fun w_ hs_ => (Run.assign rfl rfl)) ?_
  refine WH.done (by kernel_rfl) ?_
  refine hK131 _ _ ?_
  refine WC.sr ?_
  refine WL.run tbk 4 hs138 [1] rfl ⟨rfl, trivial⟩ ?_
  refine WL.call rfl rfl rfl (Run.call Try.call176 rfl rfl rfl) (c_impl_putVar _ _ _ _ _ ho142 (fun p_ hp_ => (hs138.own p_ (List.mem_append_right [_, _, _] (List.mem_append_left _ hp_))).1) ?_ ?_ ?_) ?_
  · first | omega | exact hbv.1
  · first | omega | exact hbv.2
  · first | omega | (simp only [List.length_append, List.length_nil, partI_len, List.length_take]; omega)
  rintro _ whs143 ⟨A144, c145, L1_146, rfl, hs143, ho147⟩
  replace hs143 := St.lend (St.perm hs138 (L' := L1_141 ++ _) (perm_front (A := [_, _, _]) (List.Perm.refl _))) hs143
  refine ⟨_, rfl, ?_⟩
  replace hs143 := St.back [_, _, _] hs143
  refine WL.run tbk 1 hs143 [] rfl trivial ?_
  refine WL.nil ?_
  refine WC.seq (fun K148 hK148 => ?_)
  refine WC.rr tbk hs143 [1] rfl ⟨rfl, trivial⟩ ?_
  refine WC.block ?_
  refine WC.loopO [(2, _), (3, _), (77, _), (78, _)] ⟨rfl, rfl, rfl, rfl, trivial⟩ (St.perm hs143 (L' := L1_146 ++ _) (perm_front (A := [_, _, _]) (List.Perm.refl _))) (fun k_ f L_ => ∃ (zs : List UInt8) (i : Nat) (A149 : Option Addr) (c150 : Nat), k_ = t.P.Part.n - i ∧ (i ≤ t.P.Part.n) ∧ (zs = [] ++ numsL (headL t.dat) ++ varL ((t.P.Args.n : Int)).toNat ++ numsL t.P.Args.xs ++ varL ((t.P.Part.n : Int)).toNat ++ numsL (partI (t.P.Part.xs.take i))) ∧ OwnF encB 5 (.slice A149 (zs.length) c150) (zs) L_ ∧ Sub [(6, .slice A149 (zs.length) c150), (79, .int .i64 i)] f) (t.P.Part.n) ?_ ?_
  ·refine ⟨[] ++ numsL (headL t.dat) ++ varL ((t.P.Args.n : Int)).toNat ++ numsL t.P.Args.xs ++ varL ((t.P.Part.n : Int)).toNat, 0, _, _, rfl, ?_, ?_, ho147, ⟨rfl, rfl, trivial⟩⟩
   · exact Nat.zero_le _
   · simp [partI, numsL]
  ·clear hs143
   rintro _ f w L151 ⟨zs, i, A149, c150, rfl, p0, p1, ho152, hG⟩ hF hs153
   refine WC.sub _ (hG.app hF) ?_
   clear hG hF
   replace hs153 := St.back [_, _, _] hs153
   have hz1 : zs.length ≤ 6000000 := by rw [p1]; have q7 := numsL_len (l := partI (t.P.Part.xs.take i)) (fun x hx => by have := (partI_bnd x hx).2; omega); rw [partI_len] at q7; simp only [List.length_take] at q7; simp only [List.length_append, List.length_nil]; omega
   refine WC.rr tbk hs153 [] rfl trivial ?_
   refine WC.seq (fun K154 hK154 => ?_)
   refine WC.cond rfl (fun h155 => ?_) (fun h155 => ?_)
   ·have qh155 := h155
    try simp only [bf, within_iff, within_not] at qh155
    have hbv : 0 ≤ ((gat encB t.P.Part.xs i).toNat : Int) ∧ ((gat encB t.P.Part.xs i).toNat : Int) ≤ 34359738367 := by have := (gat encB t.P.Part.xs i).toNat_lt; omega
    refine WC.skip ?_
    refine hK154 _ _ ?_
    refine WC.seq (fun K156 hK156 => ?_)
    refine WC.block ?_
    refine WC.sr ?_
    refine WL.val rfl rfl rfl (Run.idxN Try.runUnderlying23 Try.sizeOf5 rfl rfl rfl ?_ ?_ ?_) ?_
    · exact SlF.some_ (SlF.st0 f_t.P.Part hs153)
    · omega
    · omega
    refine WL.val rfl rfl rfl (Run.load Try.isAgg5 rfl rfl (SlF.one1 (SlF.st0 f_t.P.Part hs153) ?_ rfl)) ?_
    · omega
    refine WL.run tbk 1 hs153 [] rfl trivial ?_
    refine WL.nil ?_
    refine WC.region ?_
    refine WL.run tbk 3 hs153 [] rfl ⟨(u8_in _), trivial⟩ ?_
    refine WL.call rfl rfl rfl (Run.call Try.call176 rfl rfl rfl) (c_impl_putVar _ _ _ _ _ ho152 (fun p_ hp_ => (hs153.own p_ (List.mem_append_right [_, _, _] (List.mem_append_left _ hp_))).1) ?_ ?_ ?_) ?_
    · first | omega | exact hbv.1
    · first | omega | exact hbv.2
    · first | omega | (simp only [List.length_append, List.length_nil, partI_len, List.length_take]; omega)
    rintro _ whs157 ⟨A158, c159, L1_160, rfl, hs157, ho161⟩
    replace hs157 := St.lend (St.perm hs153 (L' := L151 ++ _) (perm_front (A := [_, _, _]) (List.Perm.refl _))) hs157
    refine ⟨_, rfl, ?_⟩
    replace hs157 := St.back [_, _, _] hs157
    refine WL.run tbk 1 hs157 [] rfl trivial ?_
    refine WL.nil ?_
    refine hK156 _ _ ?_
    refine WC.region ?_
    refine WL.run tbk 2 hs157 [] rfl ⟨by omega, trivial⟩ ?_
    refine WL.nil ?_
    refine tkN ?_
    refine ⟨⟨rfl, rfl, rfl, rfl, trivial⟩, _, (St.perm hs157 (L' := L1_160 ++ _) (perm_front (A := [_, _, _]) (List.Perm.refl _))), _, ?_, _, i + 1, _, _, rfl, ?_, ?_, ho161, ⟨rfl, rfl, trivial⟩⟩
    · omega
    · omega
    · rw [p1, partI_take (by omega), numsL_append, numsL_one]; simp only [List.append_assoc]; try rfl
   ·have qh155 := h155
    try simp only [bf, within_iff, within_not] at qh155
    have hin : i = t.P.Part.n := by omega
    have hz3 : zs = [] ++ numsL (headL t.dat) ++ varL ((t.P.Args.n : Int)).toNat ++ numsL t.P.Args.xs ++ varL ((t.P.Part.n : Int)).toNat ++ numsL (partI t.P.Part.xs) := by rw [p1, hin, List.take_of_length_le (by omega)]
    subst hz3
    refine WC.exit ?_
    refine hK148 _ _ ?_
    refine WC.seq (fun K162 hK162 => ?_)
    refine WC.regionH2 (fun w' => St _ _ _ w') (fun w' => St _ _ _ w') mixed (St.drew (St.drop (St.perm hs153 (L' := L151 ++ _) (perm_front (A := [_, _, _]) (List.Perm.refl _))) (List.sublist_append_right L151 _))) (St.drew hs153) (fun whs163 hs163 => ?_)
    replace hs163 : St _ _ _ _ := hs163
    refine WH.take 0 rfl (by kernel_rfl) rfl rfl rfl (St.drop (St.perm hs163 (L' := L151 ++ _) (perm_front (A := [_, _, _]) (List.Perm.refl _))) (List.sublist_append_right L151 _)) (fun w_ hs_ => (Run.move rfl rfl)) ?_
    refine WH.take 1 rfl (by kernel_rfl) rfl rfl rfl (St.drop (St.perm hs163 (L' := L151 ++ _) (perm_front (A := [_, _, _]) (List.Perm.refl _))) (List.sublist_append_right L151 _)) (fun w_ hs_ => (Run.field Try.runUnderlying33 rfl rfl rfl Try.sizeOf22 rfl)) ?_
    refine WH.take 2 rfl (by kernel_rfl) rfl rfl rfl (St.drop (St.perm hs163 (L' := L151 ++ _) (perm_front (A := [_, _, _]) (List.Perm.refl _))) (List.sublist_append_right L151 _)) (fun w_ hs_ => (Run.loadL (hs_ : St _ _ _ _) 0 Try.isAgg22 rfl rfl rfl rfl)) ?_
    refine WH.take 3 rfl (by kernel_rfl) rfl rfl rfl (St.drop (St.perm hs163 (L' := L151 ++ _) (perm_front (A := [_, _, _]) (List.Perm.refl _))) (List.sublist_append_right L151 _)) (fun w_ hs_ => (Run.lenSl Try.runUnderlying22 rfl rfl)) ?_
    refine WH.take 5 rfl (by kernel_rfl) rfl rfl rfl (St.drop (St.perm hs163 (L' := L151 ++ _) (perm_front (A := [_, _, _]) (List.Perm.refl _))) (List.sublist_append_right L151 _)) (fun w_ hs_ => (Run.field Try.runUnderlying33 rfl rfl rfl Try.sizeOf22 rfl)) ?_
    refine WH.take 6 rfl (by kernel_rfl) rfl rfl rfl (St.drop (St.perm hs163 (L' := L151 ++ _) (perm_front (A := [_, _, _]) (List.Perm.refl _))) (List.sublist_append_right L151 _)) (fun w_ hs_ => (Run.loadL (hs_ : St _ _ _ _) 0 Try.isAgg22 rfl rfl rfl rfl)) ?_
    refine WH.all [4] (by kernel_rfl) rfl (WHs.cons (i := 4) rfl ?_ WHs.nil)
    refine WL.call rfl rfl rfl (Run.call Try.call176 rfl rfl rfl) (c_impl_putVar _ _ _ _ _ ho152 (fun p_ hp_ => (hs163.own p_ (List.mem_append_right [_, _, _] (List.mem_append_left _ hp_))).1) ?_ ?_ ?_) ?_
    · first | omega | exact hbv.1
    · first | omega | exact hbv.2
    · first | omega | (simp only [List.length_append, List.length_nil, partI_len, List.length_take]; omega)
    rintro _ whs164 ⟨A165, c166, L1_167, rfl, hs164, ho168⟩
    replace hs164 := St.lend (St.perm hs163 (L' := L151 ++ _) (perm_front (A := [_, _, _]) (List.Perm.refl _))) hs164
    refine ⟨_, rfl, ?_⟩
    replace hs164 := St.back [_, _, _] hs164
    refine WL.nil ⟨(St.drop (St.perm hs164 (L' := L1_167 ++ _) (perm_front (A := [_, _, _]) (List.Perm.refl _))) (List.sublist_append_right L1_167 _)), ?_⟩
    refine WH.all [7] (by kernel_rfl) rfl (WHs.cons (i := 7) rfl ?_ WHs.nil)
    refine WL.call rfl rfl rfl (Run.call Try.call174 rfl rfl rfl) (c_impl_putVars _ _ _ _ _ _ _ _ ho168 (fun p_ hp_ => (hs164.own p_ (List.mem_append_right [_, _, _] (List.mem_append_left _ hp_))).1) (SlF.st0 f_t.S.Tabs hs164) (St.sep (St.perm hs164 (L' := L1_167 ++ _) (perm_front (A := [_, _, _]) (List.Perm.refl _))) f_t.S.Tabs) ?_ ?_) ?_
    · first | exact fun x hx => (by have := hh x hx; omega) | exact fun x hx => (by have := hv3 x hx; omega) | exact fun x hx => (by have := htb x hx; omega)
    · first | omega | (simp only [List.length_append, List.length_nil, partI_len, List.length_take]; omega)
    rintro _ whs169 ⟨A170, c171, L1_172, rfl, hs169, ho173⟩
    replace hs169 := St.lend (St.perm hs164 (L' := L1_167 ++ _) (perm_front (A := [_, _, _]) (List.Perm.refl _))) hs169
    refine ⟨_, rfl, ?_⟩
    replace hs169 := St.back [_, _, _] hs169
    refine WL.nil ⟨(St.drop (St.perm hs169 (L' := L1_172 ++ _) (perm_front (A := [_, _, _]) (List.Perm.refl _))) (List.sublist_append_right L1_172 _)), ?_⟩
    refine WH.take 8 rfl (by kernel_rfl) rfl rfl rfl (St.drop (St.perm hs169 (L' := L1_172 ++ _) (perm_front (A := [_, _, _]) (List.Perm.refl _))) (List.sublist_append_right L1_172 _)) (fun w_ hs_ => (Run.assign rfl rfl)) ?_
    refine WH.done (by kernel_rfl) ?_
    refine hK162 _ _ ?_
    refine WC.seq (fun K174 hK174 => ?_)
    refine WC.regionH2 (fun w' => St _ _ _ w') (fun w' => St _ _ _ w') mixed (St.drew (St.drop (St.perm hs169 (L' := L1_172 ++ _) (perm_front (A := [_, _, _]) (List.Perm.refl _))) (List.sublist_append_right L1_172 _))) (St.drew hs169) (fun whs175 hs175 => ?_)
    replace hs175 : St _ _ _ _ := hs175
    refine WH.take 0 rfl (by kernel_rfl) rfl rfl rfl (St.drop (St.perm hs175 (L' := L1_172 ++ _) (perm_front (A := [_, _, _]) (List.Perm.refl _))) (List.sublist_append_right L1_172 _)) (fun w_ hs_ => (Run.move rfl rfl)) ?_
    refine WH.take 1 rfl (by kernel_rfl) rfl rfl rfl (St.drop (St.perm hs175 (L' := L1_172 ++ _) (perm_front (A := [_, _, _]) (List.Perm.refl _))) (List.sublist_append_right L1_172 _)) (fun w_ hs_ => (Run.field Try.runUnderlying33 rfl rfl rfl Try.sizeOf28 rfl)) ?_
    refine WH.take 2 rfl (by kernel_rfl) rfl rfl rfl (St.drop (St.perm hs175 (L' := L1_172 ++ _) (perm_front (A := [_, _, _]) (List.Perm.refl _))) (List.sublist_append_right L1_172 _)) (fun w_ hs_ => (Run.field Try.runUnderlying28 rfl rfl rfl Try.sizeOf26 rfl)) ?_
    refine WH.take 3 rfl (by kernel_rfl) rfl rfl rfl (St.drop (St.perm hs175 (L' := L1_172 ++ _) (perm_front (A := [_, _, _]) (List.Perm.refl _))) (List.sublist_append_right L1_172 _)) (fun w_ hs_ => (Run.loadL (hs_ : St _ _ _ _) 0 Try.isAgg26 rfl rfl rfl rfl)) ?_
    refine WH.take 5 rfl (by kernel_rfl) rfl rfl rfl (St.drop (St.perm hs175 (L' := L1_172 ++ _) (perm_front (A := [_, _, _]) (List.Perm.refl _))) (List.sublist_append_right L1_172 _)) (fun w_ hs_ => (Run.field Try.runUnderlying33 rfl rfl rfl Try.sizeOf28 rfl)) ?_
    refine WH.take 6 rfl (by kernel_rfl) rfl rfl rfl (St.drop (St.perm hs175 (L' := L1_172 ++ _) (perm_front (A := [_, _, _]) (List.Perm.refl _))) (List.sublist_append_right L1_172 _)) (fun w_ hs_ => (Run.field Try.runUnderlying28 rfl rfl rfl Try.sizeOf26 rfl)) ?_
    refine WH.take 7 rfl (by kernel_rfl) rfl rfl rfl (St.drop (St.perm hs175 (L' := L1_172 ++ _) (perm_front (A := [_, _, _]) (List.Perm.refl _))) (List.sublist_append_right L1_172 _)) (fun w_ hs_ => (Run.loadL (hs_ : St _ _ _ _) 0 Try.isAgg26 rfl rfl rfl rfl)) ?_
    refine WH.all [4] (by kernel_rfl) rfl (WHs.cons (i := 4) rfl ?_ WHs.nil)
    refine WL.call rfl rfl rfl (Run.call Try.call177 rfl rfl rfl) (c_impl_putCells _ _ _ _ _ _ _ _ ho173 (fun p_ hp_ => (hs175.own p_ (List.mem_append_right [_, _, _] (List.mem_append_left _ hp_))).1) (SlF.st0 f_t.S.Main.Cells hs175) (St.sep (St.perm hs175 (L' := L1_172 ++ _) (perm_front (A := [_, _, _]) (List.Perm.refl _))) f_t.S.Main.Cells) ?_ ?_ ?_) ?_
    · omega
    · first | exact hm2 | exact ha2 | exact hrc2
    · first | omega | (simp only [List.length_append, List.length_nil, partI_len, List.length_take]; omega)
    rintro _ whs176 ⟨A177, c178, L1_179, rfl, hs176, ho180⟩
    replace hs176 := St.lend (St.perm hs175 (L' := L1_172 ++ _) (perm_front (A := [_, _, _]) (List.Perm.refl _))) hs176
    refine ⟨_, rfl, ?_⟩
    replace hs176 := St.back [_, _, _] hs176
    refine WL.nil ⟨(St.drop (St.perm hs176 (L' := L1_179 ++ _) (perm_front (A := [_, _, _]) (List.Perm.refl _))) (List.sublist_append_right L1_179 _)), ?_⟩
    refine WH.all [8] (by kernel_rfl) rfl (WHs.cons (i := 8) rfl ?_ WHs.nil)
    refine WL.call rfl rfl rfl (Run.call Try.call177 rfl rfl rfl) (c_impl_putCells _ _ _ _ _ _ _ _ ho180 (fun p_ hp_ => (hs176.own p_ (List.mem_append_right [_, _, _] (List.mem_append_left _ hp_))).1) (SlF.st0 f_t.S.Alt.Cells hs176) (St.sep (St.perm hs176 (L' := L1_179 ++ _) (perm_front (A := [_, _, _]) (List.Perm.refl _))) f_t.S.Alt.Cells) ?_ ?_ ?_) ?_
    · omega
    · first | exact hm2 | exact ha2 | exact hrc2
    · first | omega | (simp only [List.length_append, List.length_nil, partI_len, List.length_take]; omega)
    rintro _ whs181 ⟨A182, c183, L1_184, rfl, hs181, ho185⟩
    replace hs181 := St.lend (St.perm hs176 (L' := L1_179 ++ _) (perm_front (A := [_, _, _]) (List.Perm.refl _))) hs181
    refine ⟨_, rfl, ?_⟩
    replace hs181 := St.back [_, _, _] hs181
    refine WL.nil ⟨(St.drop (St.perm hs181 (L' := L1_184 ++ _) (perm_front (A := [_, _, _]) (List.Perm.refl _))) (List.sublist_append_right L1_184 _)), ?_⟩
    refine WH.take 9 rfl (by kernel_rfl) rfl rfl rfl (St.drop (St.perm hs181 (L' := L1_184 ++ _) (perm_front (A := [_, _, _]) (List.Perm.refl _))) (List.sublist_append_right L1_184 _)) (fun w_ hs_ => (Run.assign rfl rfl)) ?_
    refine WH.done (by kernel_rfl) ?_
    refine hK174 _ _ ?_
    refine WC.sr ?_
    refine WL.run tbk 4 hs181 [0] rfl ⟨rfl, trivial⟩ ?_
    refine WL.call rfl rfl rfl (Run.call Try.call176 rfl rfl rfl) (c_impl_putVar _ _ _ _ _ ho185 (fun p_ hp_ => (hs181.own p_ (List.mem_append_right [_, _, _] (List.mem_append_left _ hp_))).1) ?_ ?_ ?_) ?_
    · first | omega | exact hbv.1
    · first | omega | exact hbv.2
    · first | omega | (simp only [List.length_append, List.length_nil, partI_len, List.length_take]; omega)
    rintro _ whs186 ⟨A187, c188, L1_189, rfl, hs186, ho190⟩
    replace hs186 := St.lend (St.perm hs181 (L' := L1_184 ++ _) (perm_front (A := [_, _, _]) (List.Perm.refl _))) hs186
    refine ⟨_, rfl, ?_⟩
    replace hs186 := St.back [_, _, _] hs186
    refine WL.run tbk 1 hs186 [] rfl trivial ?_
    refine WL.nil ?_
    refine WC.seq (fun K191 hK191 => ?_)
    refine WC.rr tbk hs186 [0] rfl ⟨rfl, trivial⟩ ?_
    refine WC.block ?_
    refine WC.loopO [(2, _), (80, _), (111, _), (112, _)] ⟨rfl, rfl, rfl, rfl, trivial⟩ (St.perm hs186 (L' := L1_189 ++ _) (perm_front (A := [_, _, _]) (List.Perm.refl _))) (fun k_ f L_ => ∃ (zs : List UInt8) (i : Nat) (A192 : Option Addr) (c193 : Nat), k_ = t.S.Back.n - i ∧ (i ≤ t.S.Back.n) ∧ (zs = [] ++ numsL (headL t.dat) ++ varL ((t.P.Args.n : Int)).toNat ++ numsL t.P.Args.xs ++ varL ((t.P.Part.n : Int)).toNat ++ numsL (partI t.P.Part.xs) ++ varL ((t.S.Tabs.n : Int)).toNat ++ numsL t.S.Tabs.xs ++ cellsB t.S.Main.Cells.xs ++ cellsB t.S.Alt.Cells.xs ++ varL ((t.S.Back.n : Int)).toNat ++ rowsL ((t.S.Back.xs.take i).map RowR.dat)) ∧ OwnF encB 5 (.slice A192 (zs.length) c193) (zs) L_ ∧ Sub [(6, .slice A192 (zs.length) c193), (113, .int .i64 i)] f) (t.S.Back.n) ?_ ?_
    ·refine ⟨[] ++ numsL (headL t.dat) ++ varL ((t.P.Args.n : Int)).toNat ++ numsL t.P.Args.xs ++ varL ((t.P.Part.n : Int)).toNat ++ numsL (partI t.P.Part.xs) ++ varL ((t.S.Tabs.n : Int)).toNat ++ numsL t.S.Tabs.xs ++ cellsB t.S.Main.Cells.xs ++ cellsB t.S.Alt.Cells.xs ++ varL ((t.S.Back.n : Int)).toNat, 0, _, _, rfl, ?_, ?_, ho190, ⟨rfl, rfl, trivial⟩⟩
     · exact Nat.zero_le _
     · simp [rowsL]
    ·clear hs186
     rintro _ f w L194 ⟨zs, i, A192, c193, rfl, r0, r1, ho195, hG⟩ hF hs196
     refine WC.sub _ (hG.app hF) ?_
     clear hG hF
     replace hs196 := St.back [_, _, _] hs196
     have hz2 : zs.length ≤ 20000000 := by rw [r1]; have q8 := rowsL_len (b := (t.S.Back.xs.take i).map RowR.dat) (fun r hr => hrw r (by obtain ⟨y, hy, rfl⟩ := List.mem_map.1 hr; exact List.mem_map_of_mem (List.mem_of_mem_take hy))); rw [List.length_map, List.length_take] at q8; simp only [List.length_append, List.length_nil, partI_len]; omega
     refine WC.rr tbk hs196 [] rfl trivial ?_
     refine WC.seq (fun K197 hK197 => ?_)
     refine WC.cond rfl (fun h198 => ?_) (fun h198 => ?_)
     ·have qh198 := h198
      try simp only [bf, within_iff, within_not] at qh198
      have hrk := rowOk_cells (hrw (RowR.dat (gat encRowR t.S.Back.xs i)) (List.mem_map_of_mem (gat_mem (by omega))))
      have hrc1 : (gat encRowR t.S.Back.xs i).Cells.xs.length ≤ 120 := hrk.1
      have hrc2 : cellsOk (gat encRowR t.S.Back.xs i).Cells.xs = true := hrk.2
      have hrn := (SlN.nth f_t.S.Back (show i < t.S.Back.n by omega)).Cells.len
      have w5 := varL_len (((gat encRowR t.S.Back.xs i).Cells.n : Int)).toNat (by omega)
      refine WC.skip ?_
      refine hK197 _ _ ?_
      refine WC.seq (fun K199 hK199 => ?_)
      refine WC.block ?_
      refine WC.sr ?_
      refine WL.val rfl rfl rfl (Run.idxN Try.runUnderlying31 Try.sizeOf98 rfl rfl rfl ?_ ?_ ?_) ?_
      · exact SlF.some_ (SlF.st0 f_t.S.Back.sl hs196)
      · omega
      · omega
      refine WL.val rfl rfl rfl (Run.loadA Try.isAgg98 Try.sizeOf98 rfl rfl (SlF.whole (SlF.st0 f_t.S.Back.sl hs196) ?_)) ?_
      · omega
      refine WL.al hs196 Try.zeroValue98 rfl rfl (fun b200 _ hs201 => ?_)
      refine WL.st tbk hs201 0 rfl rfl (fun _ hs202 => ?_)
      refine WL.nil ?_
      refine WC.regionH2 (fun w' => St _ _ _ w') (fun w' => St _ _ _ w') mixed (St.drew (St.drop (St.perm hs202 (L' := L194 ++ _) (perm_front (A := [_, _, _, _]) (List.Perm.refl _))) (List.sublist_append_right L194 _))) (St.drew hs202) (fun whs203 hs203 => ?_)
      replace hs203 : St _ _ _ _ := hs203
      refine WH.take 0 rfl (by kernel_rfl) rfl rfl rfl (St.drop (St.perm hs203 (L' := L194 ++ _) (perm_front (A := [_, _, _, _]) (List.Perm.refl _))) (List.sublist_append_right L194 _)) (fun w_ hs_ => (Run.move rfl rfl)) ?_
      refine WH.take 1 rfl (by kernel_rfl) rfl rfl rfl (St.drop (St.perm hs203 (L' := L194 ++ _) (perm_front (A := [_, _, _, _]) (List.Perm.refl _))) (List.sublist_append_right L194 _)) (fun w_ hs_ => (Run.field Try.runUnderlying98 rfl rfl rfl Try.sizeOf26 rfl)) ?_
      refine WH.take 2 rfl (by kernel_rfl) rfl rfl rfl (St.drop (St.perm hs203 (L' := L194 ++ _) (perm_front (A := [_, _, _, _]) (List.Perm.refl _))) (List.sublist_append_right L194 _)) (fun w_ hs_ => (Run.loadL (hs_ : St _ _ _ _) 0 Try.isAgg26 rfl rfl rfl rfl)) ?_
      refine WH.take 3 rfl (by kernel_rfl) rfl rfl rfl (St.drop (St.perm hs203 (L' := L194 ++ _) (perm_front (A := [_, _, _, _]) (List.Perm.refl _))) (List.sublist_append_right L194 _)) (fun w_ hs_ => (Run.lenSl Try.runUnderlying26 rfl rfl)) ?_
      refine WH.take 5 rfl (by kernel_rfl) rfl rfl rfl (St.drop (St.perm hs203 (L' := L194 ++ _) (perm_front (A := [_, _, _, _]) (List.Perm.refl _))) (List.sublist_append_right L194 _)) (fun w_ hs_ => (Run.field Try.runUnderlying98 rfl rfl rfl Try.sizeOf26 rfl)) ?_
      refine WH.take 6 rfl (by kernel_rfl) rfl rfl rfl (St.drop (St.perm hs203 (L' := L194 ++ _) (perm_front (A := [_, _, _, _]) (List.Perm.refl _))) (List.sublist_append_right L194 _)) (fun w_ hs_ => (Run.loadL (hs_ : St _ _ _ _) 0 Try.isAgg26 rfl rfl rfl rfl)) ?_
      refine WH.all [4] (by kernel_rfl) rfl (WHs.cons (i := 4) rfl ?_ WHs.nil)
      refine WL.call rfl rfl rfl (Run.call Try.call176 rfl rfl rfl) (c_impl_putVar _ _ _ _ _ ho195 (fun p_ hp_ => (hs203.own p_ (List.mem_append_right [_, _, _, _] (List.mem_append_left _ hp_))).1) ?_ ?_ ?_) ?_
      · first | omega | exact hbv.1
      · first | omega | exact hbv.2
      · first | omega | (simp only [List.length_append, List.length_nil, partI_len, List.length_take]; omega)
      rintro _ whs204 ⟨A205, c206, L1_207, rfl, hs204, ho208⟩
      replace hs204 := St.lend (St.perm hs203 (L' := L194 ++ _) (perm_front (A := [_, _, _, _]) (List.Perm.refl _))) hs204
      refine ⟨_, rfl, ?_⟩
      replace hs204 := St.back [_, _, _, _] hs204
      refine WL.nil ⟨(St.drop (St.perm hs204 (L' := L1_207 ++ _) (perm_front (A := [_, _, _, _]) (List.Perm.refl _))) (List.sublist_append_right L1_207 _)), ?_⟩
      refine WH.all [7] (by kernel_rfl) rfl (WHs.cons (i := 7) rfl ?_ WHs.nil)
      refine WL.call rfl rfl rfl (Run.call Try.call177 rfl rfl rfl) (c_impl_putCells _ _ _ _ _ _ _ _ ho208 (fun p_ hp_ => (hs204.own p_ (List.mem_append_right [_, _, _, _] (List.mem_append_left _ hp_))).1) (SlF.st0 (SlN.nth f_t.S.Back (by omega)).Cells hs204) (St.sep (St.perm hs204 (L' := L1_207 ++ _) (perm_front (A := [_, _, _, _]) (List.Perm.refl _))) (SlN.nth f_t.S.Back (by omega)).Cells) ?_ ?_ ?_) ?_
      · omega
      · first | exact hm2 | exact ha2 | exact hrc2
      · first | omega | (simp only [List.length_append, List.length_nil, partI_len, List.length_take]; omega)
      rintro _ whs209 ⟨A210, c211, L1_212, rfl, hs209, ho213⟩
      replace hs209 := St.lend (St.perm hs204 (L' := L1_207 ++ _) (perm_front (A := [_, _, _, _]) (List.Perm.refl _))) hs209
      refine ⟨_, rfl, ?_⟩
      replace hs209 := St.back [_, _, _, _] hs209
      refine WL.nil ⟨(St.drop (St.perm hs209 (L' := L1_212 ++ _) (perm_front (A := [_, _, _, _]) (List.Perm.refl _))) (List.sublist_append_right L1_212 _)), ?_⟩
      refine WH.take 8 rfl (by kernel_rfl) rfl rfl rfl (St.drop (St.perm hs209 (L' := L1_212 ++ _) (perm_front (A := [_, _, _, _]) (List.Perm.refl _))) (List.sublist_append_right L1_212 _)) (fun w_ hs_ => (Run.assign rfl rfl)) ?_
      refine WH.done (by kernel_rfl) ?_
      refine hK199 _ _ ?_
      refine WC.region ?_
      refine WL.run tbk 2 hs209 [] rfl ⟨by omega, trivial⟩ ?_
      refine WL.nil ?_
      refine tkN ?_
      replace hs209 := St.drop hs209 (List.sublist_append_right [_] _)
      refine ⟨⟨rfl, rfl, rfl, rfl, trivial⟩, _, (St.perm hs209 (L' := L1_212 ++ _) (perm_front (A := [_, _, _]) (List.Perm.refl _))), _, ?_, _, i + 1, _, _, rfl, ?_, ?_, ho213, ⟨rfl, rfl, trivial⟩⟩
      · omega
      · omega
      · rw [r1, rowsL_take (by omega)]; simp only [List.append_assoc, Int.toNat_natCast, hrn]; try rfl
     ·have qh198 := h198
      try simp only [bf, within_iff, within_not] at qh198
      refine WC.exit ?_
      refine hK191 _ _ ?_
      refine WC.rr tbk hs196 [] rfl trivial ?_
      refine WC.ret ?_
      refine retV1 rfl (resV.tmp rfl) ?_
      have hx_ := OwnF.eqOf (xs := termL t.dat) ho195 (by rw [r1, List.take_of_length_le (by omega)]; unfold termL; simp only [Int.toNat_natCast, List.append_assoc, List.nil_append]; have e_ : t.dat.S.Back.length = t.S.Back.n := (List.length_map _).trans nl_t_S_Back; rw [e_, ← nl_t_P_Args, ← nl_t_P_Part, ← nl_t_S_Tabs]; rfl)
      rw [← hx_]
      first | exact ⟨_, _, _, rfl, (St.keep1 (St.perm hs196 (L' := L194 ++ _) (perm_front (A := [_, _, _]) (List.Perm.refl _)))), ho195⟩ | exact ⟨A192, c193, _, by rw [OwnF.len_ ho195], (St.keep1 (St.perm hs196 (L' := L194 ++ _) (perm_front (A := [_, _, _]) (List.Perm.refl _)))), by rw [OwnF.len_ ho195]; exact ho195⟩
end Go.Proofs.Ytlmcekfdlgkffaa
