/-
  What the proof stands on, part 5.
-/
import Derived.Test.YthfhhldbglaieaaGreatKB4
namespace Go.Proofs.YthfhhldbglaieaaGreat
open Go Go.RowKit
set_option linter.unusedVariables false
set_option linter.unusedSimpArgs false
set_option maxHeartbeats 4000000 in
theorem k132_ (p : PaneR) (w : World) (f_p : okPaneR 549755813888 w p) :
    Calls Tryz.prog 121 #[.agg #[i64 p.Id, .string p.Cmd, .string p.Dir, i64 p.Life, i64 p.Code, i64 p.Pid, i64 p.Term.P.State, .bool p.Term.P.Mark, .slice p.Term.P.Args.A p.Term.P.Args.n p.Term.P.Args.c, .slice p.Term.P.Part.A p.Term.P.Part.n p.Term.P.Part.c, i64 p.Term.S.W, i64 p.Term.S.H, i64 p.Term.S.Main.W, i64 p.Term.S.Main.H, .slice p.Term.S.Main.Cells.A p.Term.S.Main.Cells.n p.Term.S.Main.Cells.c, i64 p.Term.S.Alt.W, i64 p.Term.S.Alt.H, .slice p.Term.S.Alt.Cells.A p.Term.S.Alt.Cells.n p.Term.S.Alt.Cells.c, .bool p.Term.S.OnAlt, i64 p.Term.S.X, i64 p.Term.S.Y, .bool p.Term.S.Wrap, i64 p.Term.S.A.Fg, i64 p.Term.S.A.Bg, .bool p.Term.S.A.Bold, .bool p.Term.S.A.Under, .bool p.Term.S.A.Turn, i64 p.Term.S.Top, i64 p.Term.S.Bot, .bool p.Term.S.NoWrap, .bool p.Term.S.Hide, i64 p.Term.S.SaveX, i64 p.Term.S.SaveY, i64 p.Term.S.SaveA.Fg, i64 p.Term.S.SaveA.Bg, .bool p.Term.S.SaveA.Bold, .bool p.Term.S.SaveA.Under, .bool p.Term.S.SaveA.Turn, .slice p.Term.S.Tabs.A p.Term.S.Tabs.n p.Term.S.Tabs.c, i64 p.Term.S.Limit, .slice p.Term.S.Back.A p.Term.S.Back.n p.Term.S.Back.c]] w fun e w' => e = .returned (.bool (paneOk p.dat)) ∧ St w [] [] w' := by
 have nz_p_Cmd := f_p.Cmd_z
 have nz_p_Dir := f_p.Dir_z
 have nb_p_Term_P_Args := f_p.Term.P.Args_n
 have nl_p_Term_P_Args := f_p.Term.P.Args.len
 have nb_p_Term_P_Part := f_p.Term.P.Part_n
 have nl_p_Term_P_Part := f_p.Term.P.Part.len
 have nb_p_Term_S_Main_Cells := f_p.Term.S.Main.Cells_n
 have nl_p_Term_S_Main_Cells := f_p.Term.S.Main.Cells.len
 have nb_p_Term_S_Alt_Cells := f_p.Term.S.Alt.Cells_n
 have nl_p_Term_S_Alt_Cells := f_p.Term.S.Alt.Cells.len
 have nb_p_Term_S_Tabs := f_p.Term.S.Tabs_n
 have nl_p_Term_S_Tabs := f_p.Term.S.Tabs.len
 have nb_p_Term_S_Back := f_p.Term.S.Back_n
 have nl_p_Term_S_Back := f_p.Term.S.Back.sl.len
 refine enter 57 Tryz.func121 rfl Tryz.ntmps121 rfl rfl ?_
 have hs1 := St.init w
 refine WC.sr (WL.bx hs1 rfl (fun b2 _ hs3 => WL.r 1 hs3 [] rfl (WL.nil (WC.seq (fun K4 hK4 => WC.sr (WL.r 2 hs3 [0] rfl (WL.cl Tryz.call59 rfl (k1_ _ _) ?_)))))))
 rintro _ whs5 ⟨rfl, hs5⟩
 replace hs5 := hs3.call0 hs5
 refine ⟨_, rfl, WL.r 2 hs5 [] rfl ?_⟩
 apply WL.gO 4 Acts.nil hs5 rfl
 ·intro g6 J7
  have qg6 := g6
  try simp only [bf, within_iff, within_not] at qg6
  refine WL.runA tbk 2 (Acts.nil.cons (j := 4) rfl g6) hs5 [0] rfl ⟨rfl, trivial⟩ (WL.call (wantF rfl g6) rfl rfl (Run.call Tryz.call176 rfl rfl rfl) (k2_ _ _) ?_)
  rintro _ whs8 ⟨rfl, hs8⟩
  replace hs8 := hs5.call0 hs8
  refine ⟨_, rfl, WL.runA tbk 1 (Acts.nil.cons (j := 4) rfl g6) hs8 [] rfl trivial (WL.eO 4 Acts.nil J7 hs8 g6 rfl rfl)⟩
 intro _ hs9
 refine WL.r 1 hs9 [] rfl ?_
 apply WL.gO 4 Acts.nil hs9 rfl
 ·intro g10 J11
  have qg10 := g10
  try simp only [bf, within_iff, within_not] at qg10
  refine WL.runA tbk 2 (Acts.nil.cons (j := 10) rfl g10) hs9 [0] rfl ⟨rfl, trivial⟩ (WL.call (wantF rfl g10) rfl rfl (Run.call Tryz.call176 rfl rfl rfl) (k2_ _ _) ?_)
  rintro _ whs12 ⟨rfl, hs12⟩
  replace hs12 := hs9.call0 hs12
  refine ⟨_, rfl, WL.runA tbk 1 (Acts.nil.cons (j := 10) rfl g10) hs12 [] rfl trivial (WL.eO 4 Acts.nil J11 hs12 g10 rfl rfl)⟩
 intro _ hs13
 refine WL.r 1 hs13 [] rfl ?_
 apply WL.gO 4 Acts.nil hs13 rfl
 ·intro g14 J15
  have qg14 := g14
  try simp only [bf, within_iff, within_not] at qg14
  refine WL.runA tbk 2 (Acts.nil.cons (j := 16) rfl g14) hs13 [0] rfl ⟨rfl, trivial⟩ (WL.call (wantF rfl g14) rfl rfl (Run.call Tryz.call150 rfl rfl rfl) (k64_ p.Term _ (okTermR.st0 f_p.Term hs13)) ?_)
  rintro _ whs16 ⟨rfl, hs16⟩
  replace hs16 := hs13.call0 hs16
  refine ⟨_, rfl, WL.runA tbk 1 (Acts.nil.cons (j := 16) rfl g14) hs16 [] rfl trivial (WL.eO 4 Acts.nil J15 hs16 g14 rfl rfl)⟩
 intro _ hs17
 refine WL.nil (WC.cq rfl (fun h18 qh18 => ?_) (fun h18 qh18 => ?_))
 ·refine WC.r1 hs17 [] rfl (WC.ret (tkR ?_))
  clear hK4
  refine retV1 rfl (resV.tmp rfl) (⟨congrArg Ending.returned (congrArg Value.bool ?_), hs17.nil⟩)
  unfold paneOk; show _ = ((((isId p.Id && isCmd p.Cmd) && isCmd p.Dir) && termOk p.Term.dat) && lifeOk p.Life p.Code p.Pid)
  simp only [lifeOk, isId, isCmd, within] at *; grind
 refine WC.skip (hK4 _ _ (WC.seq (fun K19 hK19 => WC.r1 hs17 [0] rfl (WC.block (WC.r1 hs17 [] rfl ?_)))))
 refine WC.cq rfl (fun h20 qh20 => ?_) (fun h20 qh20 => ?_)
 ·refine WC.sr (WL.r 2 hs17 [0] rfl (WL.cl Tryz.call59 rfl (k1_ _ _) ?_))
  rintro _ whs21 ⟨rfl, hs21⟩
  replace hs21 := hs17.call0 hs21
  refine ⟨_, rfl, WL.r 1 hs21 [] rfl (WL.pA tbk 3 Acts.nil hs21 [0] rfl rfl rfl rfl (fun g_ => ⟨rfl, trivial⟩) (WL.r 1 hs21 [] rfl (WL.nil (WC.ret (ibR (tkR ?_))))))⟩
  clear hK19
  refine retV1 rfl (resV.tmp rfl) (⟨congrArg Ending.returned (congrArg Value.bool ?_), hs21.nil⟩)
  unfold paneOk; show _ = ((((isId p.Id && isCmd p.Cmd) && isCmd p.Dir) && termOk p.Term.dat) && lifeOk p.Life p.Code p.Pid)
  simp only [lifeOk, isId, isCmd, within] at *; grind
 refine WC.r1 hs17 [] rfl (WC.cq rfl (fun h22 qh22 => ?_) (fun h22 qh22 => ?_))
 ·refine WC.sr (WL.r 2 hs17 [0] rfl (WL.cl Tryz.call58 rfl (k0_ _ _ _ _) ?_))
  rintro _ whs23 ⟨rfl, hs23⟩
  replace hs23 := hs17.call0 hs23
  refine ⟨_, rfl, WL.r 1 hs23 [] rfl (WL.pA tbk 3 Acts.nil hs23 [0] rfl rfl rfl rfl (fun g_ => ⟨rfl, trivial⟩) (WL.r 1 hs23 [] rfl (WL.nil (WC.ret (ibR (tkR ?_))))))⟩
  clear hK19
  refine retV1 rfl (resV.tmp rfl) (⟨congrArg Ending.returned (congrArg Value.bool ?_), hs23.nil⟩)
  unfold paneOk; show _ = ((((isId p.Id && isCmd p.Cmd) && isCmd p.Dir) && termOk p.Term.dat) && lifeOk p.Life p.Code p.Pid)
  simp only [lifeOk, isId, isCmd, within] at *; grind
 refine WC.r1 hs17 [] rfl (WC.cq rfl (fun h24 qh24 => ?_) (fun h24 qh24 => ?_))
 ·refine WC.sr (WL.r 4 hs17 [0] rfl (WL.pA tbk 3 Acts.nil hs17 [0] rfl rfl rfl rfl (fun g_ => ⟨rfl, trivial⟩) (WL.r 1 hs17 [] rfl (WL.nil (WC.ret (ibR (tkR ?_)))))))
  clear hK19
  refine retV1 rfl (resV.tmp rfl) (⟨congrArg Ending.returned (congrArg Value.bool ?_), hs17.nil⟩)
  unfold paneOk; show _ = ((((isId p.Id && isCmd p.Cmd) && isCmd p.Dir) && termOk p.Term.dat) && lifeOk p.Life p.Code p.Pid)
  simp only [lifeOk, isId, isCmd, within] at *; grind
 refine WC.skip (hK19 _ _ (WC.r1 hs17 [] rfl (WC.ret (retV1 rfl (resV.tmp rfl) (⟨congrArg Ending.returned (congrArg Value.bool ?_), hs17.nil⟩)))))
 unfold paneOk; show _ = ((((isId p.Id && isCmd p.Cmd) && isCmd p.Dir) && termOk p.Term.dat) && lifeOk p.Life p.Code p.Pid)
 simp only [lifeOk, isId, isCmd, within] at *; grind
set_option maxHeartbeats 4000000 in
theorem k133_ (p : PaneR) (w : World) (f_p : okPaneR 549755813888 w p) :
    Calls Tryz.prog 120 #[.agg #[i64 p.Id, .string p.Cmd, .string p.Dir, i64 p.Life, i64 p.Code, i64 p.Pid, i64 p.Term.P.State, .bool p.Term.P.Mark, .slice p.Term.P.Args.A p.Term.P.Args.n p.Term.P.Args.c, .slice p.Term.P.Part.A p.Term.P.Part.n p.Term.P.Part.c, i64 p.Term.S.W, i64 p.Term.S.H, i64 p.Term.S.Main.W, i64 p.Term.S.Main.H, .slice p.Term.S.Main.Cells.A p.Term.S.Main.Cells.n p.Term.S.Main.Cells.c, i64 p.Term.S.Alt.W, i64 p.Term.S.Alt.H, .slice p.Term.S.Alt.Cells.A p.Term.S.Alt.Cells.n p.Term.S.Alt.Cells.c, .bool p.Term.S.OnAlt, i64 p.Term.S.X, i64 p.Term.S.Y, .bool p.Term.S.Wrap, i64 p.Term.S.A.Fg, i64 p.Term.S.A.Bg, .bool p.Term.S.A.Bold, .bool p.Term.S.A.Under, .bool p.Term.S.A.Turn, i64 p.Term.S.Top, i64 p.Term.S.Bot, .bool p.Term.S.NoWrap, .bool p.Term.S.Hide, i64 p.Term.S.SaveX, i64 p.Term.S.SaveY, i64 p.Term.S.SaveA.Fg, i64 p.Term.S.SaveA.Bg, .bool p.Term.S.SaveA.Bold, .bool p.Term.S.SaveA.Under, .bool p.Term.S.SaveA.Turn, .slice p.Term.S.Tabs.A p.Term.S.Tabs.n p.Term.S.Tabs.c, i64 p.Term.S.Limit, .slice p.Term.S.Back.A p.Term.S.Back.n p.Term.S.Back.c]] w fun e w' => e = .returned (.bool (paneOk p.dat)) ∧ St w [] [] w' := by
 have nz_p_Cmd := f_p.Cmd_z
 have nz_p_Dir := f_p.Dir_z
 have nb_p_Term_P_Args := f_p.Term.P.Args_n
 have nl_p_Term_P_Args := f_p.Term.P.Args.len
 have nb_p_Term_P_Part := f_p.Term.P.Part_n
 have nl_p_Term_P_Part := f_p.Term.P.Part.len
 have nb_p_Term_S_Main_Cells := f_p.Term.S.Main.Cells_n
 have nl_p_Term_S_Main_Cells := f_p.Term.S.Main.Cells.len
 have nb_p_Term_S_Alt_Cells := f_p.Term.S.Alt.Cells_n
 have nl_p_Term_S_Alt_Cells := f_p.Term.S.Alt.Cells.len
 have nb_p_Term_S_Tabs := f_p.Term.S.Tabs_n
 have nl_p_Term_S_Tabs := f_p.Term.S.Tabs.len
 have nb_p_Term_S_Back := f_p.Term.S.Back_n
 have nl_p_Term_S_Back := f_p.Term.S.Back.sl.len
 refine enter 71 Tryz.func120 rfl Tryz.ntmps120 rfl rfl ?_
 have hs1 := St.init w
 refine WC.sr (WL.bx hs1 rfl (fun b2 _ hs3 => WL.r 1 hs3 [] rfl (WL.nil (WC.seq (fun K4 hK4 => WC.sr (WL.r 4 hs3 [0] rfl (WL.pO tbk 3 Acts.nil hs3 [0] rfl rfl rfl rfl (fun g_ => ⟨rfl, trivial⟩) ?_)))))))
 refine WL.r 1 hs3 [] rfl (WL.pO tbk 4 Acts.nil hs3 [0] rfl rfl rfl rfl (fun g_ => ⟨rfl, trivial⟩) (WL.r 1 hs3 [] rfl (WL.pO tbk 4 Acts.nil hs3 [0] rfl rfl rfl rfl (fun g_ => ⟨rfl, trivial⟩) (WL.r 1 hs3 [] rfl ?_))))
 apply WL.gO 4 Acts.nil hs3 rfl
 ·intro g5 J6
  have qg5 := g5
  try simp only [bf, within_iff, within_not] at qg5
  refine WL.runA tbk 2 (Acts.nil.cons (j := 20) rfl g5) hs3 [0] rfl ⟨rfl, trivial⟩ (WL.call (wantF rfl g5) rfl rfl (Run.call Tryz.call136 rfl rfl rfl) (k131_ p.Term _ (okTermR.st0 f_p.Term hs3)) ?_)
  rintro _ whs7 ⟨rfl, hs7⟩
  replace hs7 := hs3.call0 hs7
  refine ⟨_, rfl, WL.runA tbk 1 (Acts.nil.cons (j := 20) rfl g5) hs7 [] rfl trivial (WL.eO 4 Acts.nil J6 hs7 g5 rfl rfl)⟩
 intro _ hs8
 refine WL.nil (WC.cq rfl (fun h9 qh9 => ?_) (fun h9 qh9 => ?_))
 ·refine WC.r1 hs8 [] rfl (WC.ret (tkR ?_))
  clear hK4
  refine retV1 rfl (resV.tmp rfl) (⟨congrArg Ending.returned (congrArg Value.bool ?_), hs8.nil⟩)
  unfold paneOk; show _ = ((((isId p.Id && isCmd p.Cmd) && isCmd p.Dir) && termOk p.Term.dat) && lifeOk p.Life p.Code p.Pid)
  simp only [lifeOk, isId, isCmd, within] at *; grind
 refine WC.skip (hK4 _ _ (WC.seq (fun K10 hK10 => WC.r1 hs8 [0] rfl (WC.block (WC.r1 hs8 [] rfl ?_)))))
 refine WC.cq rfl (fun h11 qh11 => ?_) (fun h11 qh11 => ?_)
 ·refine WC.sr (WL.r 4 hs8 [0] rfl (WL.pA tbk 3 Acts.nil hs8 [0] rfl rfl rfl rfl (fun g_ => ⟨rfl, trivial⟩) (WL.r 1 hs8 [] rfl (WL.pA tbk 3 Acts.nil hs8 [0] rfl rfl rfl rfl (fun g_ => ⟨rfl, trivial⟩) (WL.r 1 hs8 [] rfl (WL.nil (WC.ret ?_)))))))
  refine ibR (tkR ?_)
  clear hK10
  refine retV1 rfl (resV.tmp rfl) (⟨congrArg Ending.returned (congrArg Value.bool ?_), hs8.nil⟩)
  unfold paneOk; show _ = ((((isId p.Id && isCmd p.Cmd) && isCmd p.Dir) && termOk p.Term.dat) && lifeOk p.Life p.Code p.Pid)
  simp only [lifeOk, isId, isCmd, within] at *; grind
 refine WC.r1 hs8 [] rfl (WC.cq rfl (fun h12 qh12 => ?_) (fun h12 qh12 => ?_))
 ·refine WC.sr (WL.r 4 hs8 [0] rfl (WL.pA tbk 3 Acts.nil hs8 [0] rfl rfl rfl rfl (fun g_ => ⟨rfl, trivial⟩) (WL.r 1 hs8 [] rfl (WL.pA tbk 3 Acts.nil hs8 [0] rfl rfl rfl rfl (fun g_ => ⟨rfl, trivial⟩) (WL.r 1 hs8 [] rfl (WL.nil (WC.ret ?_)))))))
  refine ibR (tkR ?_)
  clear hK10
  refine retV1 rfl (resV.tmp rfl) (⟨congrArg Ending.returned (congrArg Value.bool ?_), hs8.nil⟩)
  unfold paneOk; show _ = ((((isId p.Id && isCmd p.Cmd) && isCmd p.Dir) && termOk p.Term.dat) && lifeOk p.Life p.Code p.Pid)
  simp only [lifeOk, isId, isCmd, within] at *; grind
 refine WC.r1 hs8 [] rfl (WC.cq rfl (fun h13 qh13 => ?_) (fun h13 qh13 => ?_))
 ·refine WC.sr (WL.r 4 hs8 [0] rfl (WL.pA tbk 3 Acts.nil hs8 [0] rfl rfl rfl rfl (fun g_ => ⟨rfl, trivial⟩) (WL.r 1 hs8 [] rfl (WL.nil (WC.ret (ibR (tkR ?_)))))))
  clear hK10
  refine retV1 rfl (resV.tmp rfl) (⟨congrArg Ending.returned (congrArg Value.bool ?_), hs8.nil⟩)
  unfold paneOk; show _ = ((((isId p.Id && isCmd p.Cmd) && isCmd p.Dir) && termOk p.Term.dat) && lifeOk p.Life p.Code p.Pid)
  simp only [lifeOk, isId, isCmd, within] at *; grind
 refine WC.skip (hK10 _ _ (WC.r1 hs8 [] rfl (WC.ret (retV1 rfl (resV.tmp rfl) (⟨congrArg Ending.returned (congrArg Value.bool ?_), hs8.nil⟩)))))
 unfold paneOk; show _ = ((((isId p.Id && isCmd p.Cmd) && isCmd p.Dir) && termOk p.Term.dat) && lifeOk p.Life p.Code p.Pid)
 simp only [lifeOk, isId, isCmd, within] at *; grind
theorem nthL_eq : ∀ (L : Hp) (i : Nat), nthL L i = L[i]?
 | [], _ => rfl
 | _ :: _, 0 => rfl
 | _ :: L, i + 1 => (nthL_eq L i).trans (by simp)
section
variable {P : Program} {w0 w : World} {T : List Nat} {L : Hp} {n : Nat} {ol : List Oper} {o : Oper} {rest : List Oper} {f : Fr} {d : Nat} {K : Fr → World → Prop}
theorem St.setObj (h : St w0 T L w) {i b : Nat} {o1 : Obj} (hi : nthL L i = some (b, o1)) (o2 : Obj) : St w0 T (setL L i o2) { w with heap := w.heap.setIfInBounds b o2 } := by
 have hb := (h.own _ (nthL_mem hi))
 have hlt := lt_of_heap hb.1
 have hother : ∀ k, k ≠ b → (w.heap.setIfInBounds b o2)[k]? = w.heap[k]? := fun k hk => by
  rw [Array.getElem?_setIfInBounds]; rw [if_neg (fun h => hk h.symm)]
 refine ⟨h.os, h.tape, h.output, by simpa using h.size, fun k hk hT => ?_, fun p hp => ?_, by rw [setL_keys]; exact h.nodup⟩
 ·refine (hother k ?_).trans (h.keep k hk hT)
  rintro rfl
  rcases hb.2 with h1 | h1
  ·simp at h1; omega
  ·exact hT h1
 ·rcases setL_mem hi h.nodup hp with rfl | ⟨hm, hne⟩
  ·refine ⟨?_, hb.2⟩
   show (w.heap.setIfInBounds b o2)[b]? = some o2
   rw [Array.getElem?_setIfInBounds, if_pos rfl]
   simp only at hlt
   rw [if_pos hlt]
  ·exact ⟨(hother p.1 hne).trans (h.own p hm).1, (h.own p hm).2⟩
theorem WL.makeMap {t : TypeId} (hst : St w0 T L w) (ho : o.op = .makeMap t none) (hw : want ol o f = some true) (hd : o.dst = some d) (hn : Nat.blt d n = true)
  (k : ∀ b w', St w0 T ((b, .map #[] 0) :: L) w' → WL P n ol rest K ((d, .map (some b)) :: f) w') : WL P n ol (o :: rest) K f w := by
 refine WL.val (w' := w.alloc (.map #[] 0)) hw hd hn (fun ρ hρ => ?_) (k _ _ (hst.alloc _))
 simp [execOp, ho, Instr.makeMap]
theorem St.neq (h : St w0 T L w) {i j : Nat} {p q : Nat × Obj} (hi : nthL L i = some p) (hj : nthL L j = some q) (hij : i ≠ j) : p.1 ≠ q.1 := by
 intro he
 rw [nthL_eq] at hi hj
 have h1 : (L.map (·.1))[i]? = some p.1 := by rw [List.getElem?_map, hi]; rfl
 have h2 : (L.map (·.1))[j]? = some q.1 := by rw [List.getElem?_map, hj]; rfl
 exact hij ((List.getElem?_inj (List.getElem?_eq_some_iff.1 h1).1 h.nodup).1 (h1.trans (he ▸ h2.symm)))
end
def BM (es : Array MapEntry) (q : Int → Bool) : Prop :=
 (∀ x ∈ es.toList, ∃ n v, x.key = .int .i64 n ∧ x.val = .bool v ∧ q n = v) ∧ (∀ n, q n = true → ∃ x ∈ es.toList, x.key = .int .i64 n)
theorem BM.nil : BM #[] (fun _ => false) := ⟨by simp, by simp⟩
theorem BM.keys {es : Array MapEntry} {q : Int → Bool} (h : BM es q) : ∀ x ∈ es.toList, MapKept.IsKey (.int .i64) x.key := by
 intro x hx
 obtain ⟨n, v, hk, _, _⟩ := h.1 x hx
 rw [hk]; rfl
theorem BM.find {es : Array MapEntry} {q : Int → Bool} (h : BM es q) (n : Int) :
  (Instr.findNow (.int .i64) (.int .i64 n) es.toList 0 = some none ∧ q n = false ∧ ∀ x ∈ es.toList, x.key ≠ .int .i64 n) ∨ ∃ j e, Instr.findNow (.int .i64) (.int .i64 n) es.toList 0 = some (some (j, .bool (q n))) ∧ es[j]? = some e ∧ e.key = .int .i64 n := by
 rcases MapKept.findNow_spec (d := .int .i64) (k := .int .i64 n) rfl es.toList 0 h.keys with ⟨h1, h2⟩ | ⟨j, e, h1, h2, h3⟩
 ·refine .inl ⟨h1, ?_, h2⟩
  cases hq : q n with
  | false => rfl
  | true =>
   obtain ⟨x, hx, hk⟩ := h.2 n hq
   exact absurd hk (h2 x hx)
 ·refine .inr ⟨j, e, ?_, by simpa using h2, h3⟩
  obtain ⟨m, v, hk, hv, hq⟩ := h.1 e (List.mem_of_getElem? h2)
  rw [hk] at h3
  cases h3
  rw [h1, hv, hq, Nat.zero_add]
theorem BM.put {es : Array MapEntry} {q : Int → Bool} (h : BM es q) {n : Int} {v : Bool} {clock : Nat} (hn : ∀ x ∈ es.toList, x.key ≠ .int .i64 n) : BM (es.push { key := .int .i64 n, val := .bool v, born := clock }) (fun m => if m = n then v else q m) := by
 refine ⟨fun x hx => ?_, fun m hm => ?_⟩
 ·simp only [Array.toList_push, List.mem_append, List.mem_singleton] at hx
  rcases hx with hx | rfl
  ·obtain ⟨m, u, hk, hv, hq⟩ := h.1 x hx
   refine ⟨m, u, hk, hv, ?_⟩
   show (if m = n then v else q m) = u
   rw [if_neg (fun e => hn x hx (by rw [hk, e]))]; exact hq
  ·exact ⟨n, v, rfl, rfl, by simp⟩
 ·by_cases he : m = n
  ·subst he
   exact ⟨{ key := .int .i64 m, val := .bool v, born := clock }, by simp, rfl⟩
  ·simp only [if_neg he] at hm
   obtain ⟨x, hx, hk⟩ := h.2 m hm
   exact ⟨x, by simp [hx], hk⟩
theorem BM.set {es : Array MapEntry} {q : Int → Bool} (h : BM es q) {n : Int} {v : Bool} {j : Nat} {e : MapEntry} (hj : es[j]? = some e) (hk : e.key = .int .i64 n) (hu : (es.toList.map (·.key)).Nodup) : BM (es.modify j fun e => { e with key := .int .i64 n, val := .bool v }) (fun m => if m = n then v else q m) := by
 have hmem : ∀ x, x ∈ (es.modify j fun e => { e with key := .int .i64 n, val := .bool v }).toList ↔ ∃ i y, es[i]? = some y ∧ x = if i = j then { y with key := .int .i64 n, val := .bool v } else y := by
  intro x
  rw [Array.mem_toList_iff, Array.mem_iff_getElem?]
  constructor
  ·rintro ⟨i, hi⟩
   rw [Array.getElem?_modify] at hi
   by_cases hij : j = i
   ·rw [if_pos hij] at hi
    obtain ⟨y, hy, rfl⟩ := Option.map_eq_some_iff.1 hi
    exact ⟨i, y, hy, by rw [if_pos hij.symm]⟩
   ·rw [if_neg hij] at hi
    exact ⟨i, x, hi, by rw [if_neg (fun h => hij h.symm)]⟩
  ·rintro ⟨i, y, hy, rfl⟩
   refine ⟨i, ?_⟩
   rw [Array.getElem?_modify]
   by_cases hij : j = i
   ·subst hij; rw [if_pos rfl, hy, if_pos rfl]; rfl
   ·rw [if_neg hij, hy, if_neg (fun h => hij h.symm)]
 have huniq : ∀ (i : Nat) (y : MapEntry), es[i]? = some y → y.key = .int .i64 n → i = j := by
  intro i y hy hky
  have e1 : (es.toList.map (·.key))[i]? = some (.int .i64 n) := by rw [List.getElem?_map, Array.getElem?_toList, hy, ← hky]; rfl
  have e2 : (es.toList.map (·.key))[j]? = some (.int .i64 n) := by rw [List.getElem?_map, Array.getElem?_toList, hj, ← hk]; rfl
  exact (List.getElem?_inj (List.getElem?_eq_some_iff.1 e1).1 hu).1 (e1.trans e2.symm)
 refine ⟨fun x hx => ?_, fun m hm => ?_⟩
 ·obtain ⟨i, y, hy, rfl⟩ := (hmem x).1 hx
  by_cases hij : i = j
  ·rw [if_pos hij]; exact ⟨n, v, rfl, rfl, by simp⟩
  ·rw [if_neg hij]
   obtain ⟨m, u, hk', hv, hq⟩ := h.1 y (by rw [← Array.getElem?_toList] at hy; exact List.mem_of_getElem? hy)
   refine ⟨m, u, hk', hv, ?_⟩
   show (if m = n then v else q m) = u
   rw [if_neg (fun he => hij (huniq i y hy (by rw [hk', he])))]; exact hq
 ·by_cases he : m = n
  ·subst he
   exact ⟨_, (hmem _).2 ⟨j, e, hj, rfl⟩, by rw [if_pos rfl]⟩
  ·simp only [if_neg he] at hm
   obtain ⟨x, hx, hkx⟩ := h.2 m hm
   obtain ⟨i, hi⟩ := List.mem_iff_getElem?.1 hx
   rw [Array.getElem?_toList] at hi
   by_cases hij : i = j
   ·subst hij
    rw [hj] at hi; cases hi
    rw [hk] at hkx; cases hkx; exact absurd rfl he
   ·exact ⟨x, (hmem x).2 ⟨i, x, hi, by rw [if_neg hij]⟩, hkx⟩
theorem BM.cast {es : Array MapEntry} {q q' : Int → Bool} (h : BM es q) (e : ∀ x, q x = q' x) : BM es q' := by
 have : q = q' := funext e
 rw [← this]; exact h
theorem SlF.varA {α : Type} {F : Enc α} {P : Program} {w : World} {a : Addr} {x : α} (h : SlF F w (some a) 1 [x]) : (loadCells a F.sz).run P w = .ok (F.enc x).toArray w := by
 have h1 := SlF.whole (P := P) (k := 0) h (by omega)
 have e : (adr (some a)).add (0 * F.sz) = a := by
  rw [Nat.zero_mul]
  show a.add 0 = a
  unfold Addr.add
  split <;> simp_all
 rw [e] at h1
 exact h1
section
variable {P : Program} {w0 w : World} {T : List Nat} {L : Hp} {n : Nat} {ol : List Oper} {o : Oper} {rest : List Oper} {f : Fr} {d : Nat} {K : Fr → World → Prop}
theorem Run.addS {t t' : TypeId} {x y : Operand} {a b : ByteArray} (ho : o.op = .binOp .add t x y t') (hx : ev f x = some (.string a)) (hy : ev f y = some (.string b)) (hb : a.size + b.size ≤ 9223372036854775807) : Run P o f w (.value (.string (a ++ b))) w := fun ρ hρ => by
 have h : ¬ (((a.size + b.size : Nat) : Int) > IntKind.i64.max) := by
  have e : IntKind.i64.max = 9223372036854775807 := rfl
  rw [e]; omega
 simp only [Int.natCast_add] at h
 simp [execOp, ho, hρ _ _ hx, hρ _ _ hy, eqGuard, binOp, Op.stringOp, h]
 omega
theorem Run.askM {t kt et : TypeId} {x y : Operand} {b clock : Nat} {es : Array MapEntry} {q : Int → Bool} {m : Int} (hm : P.underlying t = some (.map kt et)) (hkd : P.underlying kt = some (.int .i64)) (hz : ∀ w, (zeroValue et).run P w = .ok (.bool false) w) (ho : o.op = .lookup t x y false) (hx : ev f x = some (.map (some b))) (hy : ev f y = some (.int .i64 m))
  (hb : w.heap[b]? = some (.map es clock)) (hq : BM es q) : Run P o f w (.value (.bool (q m))) w := fun ρ hρ => by
 rcases hq.find m with ⟨h1, h2, _⟩ | ⟨j, e, h1, _⟩
 ·rw [h2]
  simp [execOp, ho, hρ _ _ hx, hρ _ _ hy, Instr.lookup, run_underlying hm, MapKept.run_getObj_map hb, MapKept.run_checkKey hkd (d := .int .i64) (k := .int .i64 m) rfl, MapKept.run_findKey hkd h1, hz, Result.andThen]
 ·simp [execOp, ho, hρ _ _ hx, hρ _ _ hy, Instr.lookup, run_underlying hm, MapKept.run_getObj_map hb, MapKept.run_checkKey hkd (d := .int .i64) (k := .int .i64 m) rfl, MapKept.run_findKey hkd h1, Result.andThen]
theorem WL.putM {L' : Array MapEntry → Nat → Hp} {t kt et : TypeId} {x y z : Operand} {b clock : Nat} {es : Array MapEntry} {q : Int → Bool} {m : Int} {v : Bool} (hst : St w0 T L w) (i : Nat) (hi : nthL L i = some (b, .map es clock)) (hm : P.underlying t = some (.map kt et)) (hkd : P.underlying kt = some (.int .i64))
  (ho : o.op = .mapUpdate t x y z) (hw : want ol o f = some true) (hd : o.dst = none) (hx : ev f x = some (.map (some b))) (hy : ev f y = some (.int .i64 m)) (hz : ev f z = some (.bool v)) (hL : ∀ e c, setLK L i (.map e c) some = some (L' e c)) (hq : BM es q) (hu : (es.toList.map (·.key)).Nodup)
  (k : ∀ es' clock' w', BM es' (fun j => if j = m then v else q j) → (es'.toList.map (·.key)).Nodup → St w0 T (L' es' clock') w' → WL P n ol rest K f w') : WL P n ol (o :: rest) K f w := by
 have hb := (hst.own _ (nthL_mem hi)).1
 rcases hq.find m with ⟨h1, h2, h3⟩ | ⟨j, e, h1, h2, h3⟩
 ·refine WL.unit (w' := { w with heap := w.heap.setIfInBounds b (.map (es.push { key := .int .i64 m, val := .bool v, born := clock }) (clock + 1)) }) hw hd (fun ρ hρ => ?_) (k _ _ _ (hq.put h3) ?_ (Option.some.inj (setLK_some (hL _ _)) ▸ hst.setObj hi _))
  ·simp [execOp, ho, hρ _ _ hx, hρ _ _ hy, hρ _ _ hz, Instr.mapUpdate, run_underlying hm, MapKept.run_getObj_map hb, MapKept.run_checkKey hkd (d := .int .i64) (k := .int .i64 m) rfl, MapKept.run_findKey hkd h1, MapKept.run_setObj_map _ hb, Result.andThen]
  ·rw [Array.toList_push, List.map_append, List.map_cons, List.map_nil, List.nodup_append]
   refine ⟨hu, by simp, ?_⟩
   intro a ha c hc
   simp only [List.mem_singleton] at hc
   subst hc
   obtain ⟨x, hx2, rfl⟩ := List.mem_map.1 ha
   exact h3 x hx2
 ·refine WL.unit (w' := { w with heap := w.heap.setIfInBounds b (.map (es.modify j fun e => { e with key := .int .i64 m, val := .bool v }) clock) }) hw hd (fun ρ hρ => ?_) (k _ _ _ (hq.set h2 h3 hu) ?_ (Option.some.inj (setLK_some (hL _ _)) ▸ hst.setObj hi _))
  ·simp [execOp, ho, hρ _ _ hx, hρ _ _ hy, hρ _ _ hz, Instr.mapUpdate, run_underlying hm, MapKept.run_getObj_map hb, MapKept.run_checkKey hkd (d := .int .i64) (k := .int .i64 m) rfl, MapKept.run_findKey hkd h1, h2, h3, MapKept.run_keyThatStays (d := .int .i64) (k := .int .i64 m) rfl, MapKept.run_setObj_map _ hb, Result.andThen]
  ·rw [MapKept.modify_keys j _ (fun e' he' => by rw [h2] at he'; cases he'; exact h3.symm)]
   exact hu
end
set_option maxHeartbeats 4000000 in
theorem k134_ (s : StateR) (w : World) (f_s : okStateR 549755813888 w s) (hT : totState s.dat ≤ 1048576) :
    Calls Tryz.prog 60 #[.agg #[i64 s.W, i64 s.H, i64 s.Limit, i64 s.Next, .slice s.Panes.A s.Panes.n s.Panes.c, .slice s.Wins.A s.Wins.n s.Wins.c, .slice s.Sess.A s.Sess.n s.Sess.c]] w fun e w' => e = .returned (.bool (panesOkI s.dat)) ∧ St w [] [] w' := by
 have nb_s_Panes := f_s.Panes_n
 have nl_s_Panes := f_s.Panes.sl.len
 have nb_s_Wins := f_s.Wins_n
 have nl_s_Wins := f_s.Wins.sl.len
 have nb_s_Sess := f_s.Sess_n
 have nl_s_Sess := f_s.Sess.sl.len
 have hsm0 : smState 1048576 s.dat := totState_sm hT
 have hlP : s.dat.Panes.length = s.Panes.xs.length := List.length_map _
 have hlW : s.dat.Wins.length = s.Wins.xs.length := List.length_map _
 have hlS : s.dat.Sess.length = s.Sess.xs.length := List.length_map _
 have hnP : s.dat.Panes.length ≤ 1048576 := hsm0.1
 have hnW : s.dat.Wins.length ≤ 1048576 := hsm0.2.2.1
 have hnS : s.dat.Sess.length ≤ 1048576 := hsm0.2.2.2.2.1
 have hWn : ∀ y, y ∈ s.Wins.xs → y.Tree.n ≤ 1048576 := fun y hy => by have h1 := (f_s.Wins.all y hy).Tree.len; have h2 : y.Tree.xs.length ≤ 1048576 := (hsm0.2.2.2.1 _ (List.mem_map_of_mem hy)).2; omega
 refine enter 83 Tryz.func60 rfl Tryz.ntmps60 rfl rfl ?_
 have hs1 := St.init w
 refine WC.sr (WL.bx hs1 rfl (fun b2 _ hs3 => WL.r 1 hs3 [] rfl (WL.nil (WC.sr (WL.makeMap hs3 rfl rfl rfl rfl (fun b4 whs5 hs5 => WL.r 1 hs5 [] rfl (WL.nil ?_)))))))
 refine WC.seq (fun K6 hK6 => WC.r1 hs5 [1] rfl (WC.block ?_))
 have hM7 := (St.grp0 [_] ((hs5.fb b2).fb b4))
 refine WC.lV [1, 3, 8, 9] rfl hM7 (fun k_ (a_ : Hp) f => ∃ (i : Nat) (es : Array MapEntry) (ck : Nat), k_ = s.Panes.n - i ∧ a_ = [(b4, .map es ck)] ∧ (i ≤ s.Panes.n) ∧ (BM es (fun x => decide (x ∈ (pidsL ((s.Panes.xs.take (i)).map PaneR.dat))))) ∧ ((es.toList.map (·.key)).Nodup) ∧ (∀ j, j < i → paneB s.dat (gat encPaneR s.Panes.xs j).dat = true ∧ (0 < j → (gat encPaneR s.Panes.xs (j - 1)).Id < (gat encPaneR s.Panes.xs j).Id) ∧ hasI (wIds s.dat) (gat encPaneR s.Panes.xs j).Id = false) ∧ ((pidsL ((s.Panes.xs.take (i)).map PaneR.dat)).Nodup) ∧ Sub [(10, .int .i64 i)] f) (((fun (i : Nat) (es : Array MapEntry) (ck : Nat) => s.Panes.n - i) (0) (#[]) (0))) ?_ ?_
 ·refine ⟨0, #[], 0, rfl, rfl, ?_, ?_, ?_, ?_, ?_, ⟨rfl, trivial⟩⟩
  · exact Nat.zero_le _
  · exact BM.cast BM.nil (fun x => (decide_eq_false (by rw [List.take_zero]; exact List.not_mem_nil)).symm)
  · exact List.nodup_nil
  · exact fun j hj => absurd hj (by omega)
  · rw [List.take_zero]; exact List.nodup_nil
 rintro _ _ f w ⟨i, es, ck, rfl, rfl, p0, p1, p2, p3, p4, hG⟩ hF hs8
 refine WC.sub _ (hG.app hF) ?_
 clear hG hF
 replace hs8 := St.ungrp0 [_] hs8
 have hs9 := ((hs8.fb b2).fb b4)
 refine WC.r1 hs9 [] rfl (WC.seq (fun K10 hK10 => ?_))
 refine WC.cq rfl (fun h11 qh11 => ?_) (fun h11 qh11 => ?_)
 ·have hTm := (SlN.nth f_s.Panes (show i < s.Panes.n by omega))
  refine WC.skip (hK10 _ _ (WC.seq (fun K12 hK12 => WC.block (WC.sr (WL.r 1 hs9 [] rfl ?_)))))
  refine WL.val rfl rfl rfl (Run.idxN Tryz.runUnderlying29 Tryz.sizeOf93 rfl rfl rfl ?_ ?_ ?_) ?_
  · exact SlF.some_ (SlF.st0 f_s.Panes.sl hs9)
  · omega
  · omega
  refine WL.val rfl rfl rfl (Run.loadA Tryz.isAgg93 Tryz.sizeOf93 rfl rfl (SlF.whole (SlF.st0 f_s.Panes.sl hs9) ?_)) ?_
  · omega
  refine WL.al hs9 Tryz.zeroValue93 rfl rfl (fun b13 _ hs14 => WL.r 1 hs14 [] rfl (WL.st tbk hs14 0 rfl rfl (fun _ hs15 => WL.nil (WC.seq (fun K16 hK16 => WC.sq1 hs15 (WQ.r 1 [0] rfl ?_))))))
  refine WQ.call rfl rfl rfl (fun w_ hs_ => (Run.call Tryz.call121 rfl rfl rfl)) (fun w_ hs_ => (k132_ (gat encPaneR s.Panes.xs i) _ (okPaneR.st0 (SlN.nth f_s.Panes (by omega)) (hs_ : St _ _ _ _))).mono fun e_ w_ h_ => ⟨h_.1, (hs_ : St _ _ _ _).call0 h_.2⟩) ?_
  refine WQ.r 2 [] rfl (WQ.pO tbk 5 Acts.nil [0, 2] rfl rfl rfl rfl (fun g_ => ⟨rfl, rfl, trivial⟩) (WQ.r 1 [] rfl ?_))
  apply WQ.gO 14 Acts.nil rfl
  ·intro g17 J18
   have qg17 := g17
   try simp only [bf, within_iff, within_not] at qg17
   refine WQ.runA tbk 3 (Acts.nil.cons (j := 10) rfl g17) [] rfl trivial ?_
   apply WQ.gA 10 (Acts.nil.cons (j := 10) rfl g17) rfl
   ·intro g19 J20
    have qg19 := g19
    try simp only [bf, within_iff, within_not] at qg19
    refine WQ.runA tbk 4 (Acts.nil.cons (j := 13) rfl g19) [2] rfl ⟨by omega, rfl, trivial⟩ ?_
    refine WQ.val (wantT rfl g19) rfl rfl (fun w_ hs_ => (Run.idxK ((i - 1)) Tryz.runUnderlying29 Tryz.sizeOf93 rfl rfl rfl ?_ ?_ ?_)) ?_
    · exact SlF.some_ (SlF.st0 f_s.Panes.sl (hs_ : St _ _ _ _))
    · omega
    · omega
    refine WQ.val (wantT rfl g19) rfl rfl (fun w_ hs_ => (Run.fieldO Tryz.runUnderlying93 rfl rfl rfl Tryz.sizeOf3 rfl)) ?_
    refine WQ.val (wantT rfl g19) rfl rfl (fun w_ hs_ => (Run.load Tryz.isAgg3 rfl rfl (SlF.fld (SlF.st0 f_s.Panes.sl (hs_ : St _ _ _ _)) ?_ rfl))) ?_
    · omega
    refine WQ.runA tbk 3 (Acts.nil.cons (j := 13) rfl g19) [0] rfl ⟨rfl, trivial⟩ (WQ.eA 10 (Acts.nil.cons (j := 10) rfl g17) J20 g19 rfl rfl)
   exact WQ.eO 4 Acts.nil J18 g17 rfl rfl
  refine WQ.r 1 [] rfl ?_
  apply WQ.gO 5 Acts.nil rfl
  ·intro g21 J22
   have qg21 := g21
   try simp only [bf, within_iff, within_not] at qg21
   refine WQ.runA tbk 3 (Acts.nil.cons (j := 26) rfl g21) [2, 0] rfl ⟨rfl, rfl, trivial⟩ ?_
   refine WQ.call (wantF rfl g21) rfl rfl (fun w_ hs_ => (Run.call Tryz.call122 rfl rfl rfl)) (fun w_ hs_ => (k122_ s _ _ (okStateR.st0 f_s (hs_ : St _ _ _ _))).mono fun e_ w_ h_ => ⟨h_.1, (hs_ : St _ _ _ _).call0 h_.2⟩) ?_
   refine WQ.runA tbk 1 (Acts.nil.cons (j := 26) rfl g21) [] rfl trivial (WQ.eO 5 Acts.nil J22 g21 rfl rfl)
  refine WQ.r 1 [] rfl (WQ.pO tbk 7 Acts.nil [0, 2] rfl rfl rfl rfl (fun g_ => ⟨rfl, rfl, trivial⟩) (WQ.nil (fun _ (hs23 : St _ _ _ _) => ?_)))
  refine WC.cq rfl (fun h24 qh24 => ?_) (fun h24 qh24 => ?_)
  ·have hbad : panesOkI s.dat = false := panesI_no (i := i) (by omega) (by
     show ((paneOk (gat encPaneR s.Panes.xs i).dat && decide ((gat encPaneR s.Panes.xs i).Id < s.Next)) && decide ((gat encPaneR s.Panes.xs i).Term.S.Limit = s.Limit)) = false ∨ _
     have h9 := h24
     simp only [Bool.or_eq_true, Bool.and_eq_true, Bool.not_eq_true', decide_eq_true_eq, winAt_has, Bool.and_eq_false_iff, decide_eq_false_iff_not, ge_iff_le, gt_iff_lt, Int.not_lt] at h9 ⊢
     grind)
   refine WC.r1 hs23 [] rfl (WC.ret (tkR (ibR (tkR (tkR (ibR (tkR ?_)))))))
   clear hK16 hK12 hK6
   refine rtv rfl rfl hs23 ?_
   rw [hbad]
  have hgood : paneB s.dat (gat encPaneR s.Panes.xs i).dat = true ∧ (0 < i → (gat encPaneR s.Panes.xs (i - 1)).Id < (gat encPaneR s.Panes.xs i).Id) ∧ hasI (wIds s.dat) (gat encPaneR s.Panes.xs i).Id = false := by
    show ((paneOk (gat encPaneR s.Panes.xs i).dat && decide ((gat encPaneR s.Panes.xs i).Id < s.Next)) && decide ((gat encPaneR s.Panes.xs i).Term.S.Limit = s.Limit)) = true ∧ _
    have h9 := h24
    rw [← Bool.not_eq_true (hasI _ _), ← winAt_has]
    simp only [Bool.or_eq_false_iff, Bool.and_eq_true, Bool.not_eq_false', decide_eq_true_eq, decide_eq_false_iff_not, Bool.and_eq_false_iff] at h9 ⊢
    grind
  refine WC.skip (hK16 _ _ (WC.seq (fun K25 hK25 => WC.sr (WL.r 4 hs23 [0] rfl ?_))))
  apply WL.gA 4 Acts.nil hs23 rfl
  ·intro g26 J27
   have qg26 := g26
   try simp only [bf, within_iff, within_not] at qg26
   refine WL.runA tbk 3 (Acts.nil.cons (j := 3) rfl g26) hs23 [0] rfl ⟨rfl, trivial⟩ (WL.val (wantT rfl g26) rfl rfl (Run.askM Tryz.underlying168 Tryz.underlying3 Tryz.zeroValue4 rfl rfl rfl (hs23.own _ (nthL_mem (i := 1) rfl)).1 p1) (WL.eA 4 Acts.nil J27 hs23 g26 rfl rfl))
  intro _ hs28
  refine WL.nil (WC.cq rfl (fun h29 qh29 => ?_) (fun h29 qh29 => ?_))
  ·have hbad : panesOkI s.dat = false := by
     have h9 := h29
     simp only [Bool.and_eq_true, decide_eq_true_eq] at h9
     exact panesI_pid_no (panesI_pid (i := i) (by omega) h9.1 h9.2)
   refine WC.r1 hs28 [] rfl (WC.ret (tkR (ibR (tkR (tkR (ibR (tkR ?_)))))))
   clear hK25 hK12 hK6
   refine rtv rfl rfl hs28 ?_
   rw [hbad]
  have hpid : ¬ ((gat encPaneR s.Panes.xs i).Life = 1 ∧ (gat encPaneR s.Panes.xs i).Pid ∈ (pidsL ((s.Panes.xs.take (i)).map PaneR.dat))) := by
    have h9 := h29
    intro h8
    rw [decide_eq_true h8.1, decide_eq_true h8.2] at h9
    exact absurd h9 (by decide)
  refine WC.skip (hK25 _ _ (WC.region (WL.r 6 hs28 [0, 0] rfl (WL.val rfl rfl rfl (Run.askM Tryz.underlying168 Tryz.underlying3 Tryz.zeroValue4 rfl rfl rfl (hs28.own _ (nthL_mem (i := 1) rfl)).1 p1) (WL.r 1 hs28 [] rfl (WL.pO tbk 3 Acts.nil hs28 [0] rfl rfl rfl rfl (fun g_ => ⟨rfl, trivial⟩) (WL.putM hs28 1 rfl Tryz.underlying168 Tryz.underlying3 rfl rfl rfl rfl rfl rfl (fun _ _ => rfl) p1 p2 (fun es31 ck32 whs30 hq33 hu34 hs30 => ?_))))))))
  refine WL.nil (hK12 _ _ (WC.region (WL.r 2 hs30 [] rfl (WL.nil (tkN ?_)))))
  replace hs30 := hs30.d1
  have hF35 := (St.grp0 [_] ((hs30.fb b2).fb b4))
  refine ⟨sbF rfl, _, hF35, _, ?_, i + 1, es31, ck32, rfl, rfl, ?_, ?_, ?_, ?_, ?_, ⟨rfl, trivial⟩⟩
  · omega
  · omega
  · exact BM.cast hq33 (fun x => by
      rw [pidsL_take (by omega)]
      by_cases hx : x = (gat encPaneR s.Panes.xs i).Pid <;> by_cases hl : (gat encPaneR s.Panes.xs i).Life = 1 <;> simp [hx, hl])
  · exact hu34
  · intro j hj; rcases Nat.lt_or_ge j i with h_ | h_
    · exact p3 j h_
    · obtain rfl : j = i := by omega
      exact hgood
  · rw [pidsL_take (by omega)]; split
    · rename_i hl; exact nodup_snoc p4 (fun hm => hpid ⟨hl, hm⟩)
    · rw [List.append_nil]; exact p4
 have hin : i = s.Panes.xs.length := by omega
 have hall := panesI_all (s := s) (fun j hj => p3 j (by omega)) (pidsC_all (i := i) (by omega) p4)
 refine WC.exit (hK6 _ _ (WC.r1 hs9 [1] rfl (WC.ret (rtv rfl rfl hs9 ?_))))
 rw [hall, nl_s_Panes]
theorem k135_ (A_a : Option Addr) (n_a c_a : Nat) (a : List Int) (A_b : Option Addr) (n_b c_b : Nat) (b : List Int) (w : World) (f_a : SlF encI w A_a n_a a) (f_b : SlF encI w A_b n_b b) (hn : n_a ≤ 1099511627776) :
    Calls Tryz.prog 179 #[.slice A_a n_a c_a, .slice A_b n_b c_b] w fun e w' => e = .returned (.bool (decide (a = b))) ∧ St w [] [] w' := by
 have hla := f_a.len
 have hlb := f_b.len
 refine enter 26 Tryz.func179 rfl Tryz.ntmps179 rfl rfl ?_
 have hs1 := St.init w
 refine WC.r1 hs1 [] rfl (WC.seq (fun K2 hK2 => WC.r1 hs1 [] rfl ?_))
 refine WC.cq rfl (fun h3 qh3 => ?_) (fun h3 qh3 => ?_)
 ·refine WC.r1 hs1 [] rfl (WC.ret (tkR ?_))
  clear hK2
  refine rtv rfl rfl hs1 ?_
  refine congrArg Value.bool ?_; symm; rw [decide_eq_false_iff_not]; intro he; subst he; omega
 refine WC.skip (hK2 _ _ (WC.seq (fun K4 hK4 => WC.r1 hs1 [] rfl (WC.block ?_))))
 refine WC.lS [0, 1, 10, 12] rfl hs1 (fun k_ f w' => ∃ (i : Nat), k_ = n_a - i ∧ (i ≤ n_a) ∧ (∀ j, j < i → gat encI a j = gat encI b j) ∧ Sub [(13, .int .i64 i)] f) ((fun (i : Nat) => n_a - i) (0)) ?_ ?_
 ·refine ⟨0, rfl, ?_, ?_, ⟨rfl, trivial⟩⟩
  · exact Nat.zero_le _
  · exact fun j hj => absurd hj (by omega)
 clear hs1
 rintro _ f w ⟨i, rfl, p0, p1, hG⟩ hF hs5
 refine WC.sub _ (hG.app hF) ?_
 clear hG hF
 refine WC.r1 hs5 [] rfl (WC.seq (fun K6 hK6 => ?_))
 refine WC.cq rfl (fun h7 qh7 => ?_) (fun h7 qh7 => ?_)
 ·refine WC.skip (hK6 _ _ (WC.seq (fun K8 hK8 => WC.block (WC.r1 hs5 [] rfl (WC.sq1 hs5 (WQ.r 2 [] rfl ?_))))))
  refine WQ.val rfl rfl rfl (fun w_ hs_ => (Run.idxN Tryz.runUnderlying60 Tryz.sizeOf3 rfl rfl rfl ?_ ?_ ?_)) ?_
  · exact SlF.some_ (SlF.st0 f_a (hs_ : St _ _ _ _))
  · omega
  · omega
  refine WQ.val rfl rfl rfl (fun w_ hs_ => (Run.load Tryz.isAgg3 rfl rfl (SlF.one1 (SlF.st0 f_a (hs_ : St _ _ _ _)) ?_ rfl))) ?_
  · omega
  refine WQ.r 2 [] rfl ?_
  refine WQ.val rfl rfl rfl (fun w_ hs_ => (Run.idxN Tryz.runUnderlying60 Tryz.sizeOf3 rfl rfl rfl ?_ ?_ ?_)) ?_
  · exact SlF.some_ (SlF.st0 f_b (hs_ : St _ _ _ _))
  · omega
  · omega
  refine WQ.val rfl rfl rfl (fun w_ hs_ => (Run.load Tryz.isAgg3 rfl rfl (SlF.one1 (SlF.st0 f_b (hs_ : St _ _ _ _)) ?_ rfl))) ?_
  · omega
  refine WQ.r 1 [] rfl (WQ.nil (fun _ (hs9 : St _ _ _ _) => ?_))
  refine WC.cq rfl (fun h10 qh10 => ?_) (fun h10 qh10 => ?_)
  ·refine WC.r1 hs9 [] rfl (WC.ret (ibR (tkR (tkR (ibR (tkR ?_))))))
   clear hK8 hK4
   refine rtv rfl rfl hs9 ?_
   refine congrArg Value.bool ?_; symm; rw [decide_eq_false_iff_not]; intro he; subst he; simp at h10
  refine WC.skip (hK8 _ _ (WC.region (WL.r 2 hs9 [] rfl (WL.nil (tkN ?_)))))
  refine ⟨sbF rfl, hs9, _, ?_, i + 1, rfl, ?_, ?_, ⟨rfl, trivial⟩⟩
  · omega
  · omega
  · intro j hj; rcases Nat.lt_or_ge j i with h_ | h_
    · exact p1 j h_
    · obtain rfl : j = i := by omega
      exact (by simpa using h10)
 refine WC.exit (hK4 _ _ (WC.r1 hs5 [] rfl (WC.ret (rtv rfl rfl hs5 ?_))))
 refine congrArg Value.bool ?_; symm; rw [decide_eq_true_eq]; exact gat_ext (F := encI) (by omega) (fun j hj => p1 j (by omega))
theorem k136_ (A_a : Option Addr) (n_a c_a : Nat) (a : List Int) (A_b : Option Addr) (n_b c_b : Nat) (b : List Int) (w : World) (f_a : SlF encI w A_a n_a a) (f_b : SlF encI w A_b n_b b) (h1 : n_a ≤ 268435456) (h2 : n_b ≤ 268435456) :
    Calls Tryz.prog 124 #[.slice A_a n_a c_a, .slice A_b n_b c_b] w fun e w' => e = .returned (.bool (decide (sortI a = sortI b))) ∧ St w [] [] w' := by
 have hla := f_a.len
 have hlb := f_b.len
 have hsa := sortI_len a
 have hsb := sortI_len b
 refine enter 18 Tryz.func124 rfl Tryz.ntmps124 rfl rfl ?_
 have hs1 := St.init w
 refine WC.r1 hs1 [] rfl (WC.sr (WL.r 1 hs1 [] rfl (WL.cl Tryz.call149 rfl (k86_ _ _ _ _ _ (SlF.st0 f_a hs1) ?_) ?_)))
 · first | assumption | rfl | omega
 rintro _ whs2 ⟨A3, c4, L1_5, rfl, hs2, ho6⟩
 replace hs2 := hs1.callF hs2
 refine ⟨_, rfl, WL.r 1 hs2 [] rfl (WL.cl Tryz.call149 rfl (k86_ _ _ _ _ _ (SlF.st0 f_b hs2) ?_) ?_)⟩
 · first | assumption | rfl | omega
 rintro _ whs7 ⟨A8, c9, L1_10, rfl, hs7, ho11⟩
 replace hs7 := hs2.callF hs7
 refine ⟨_, rfl, WL.r 2 hs7 [] rfl (WL.nil (WC.sr (WL.r 1 hs7 [] rfl (WL.cl Tryz.call166 rfl (k92_ _ _ _ _ ho6 (hs7.ow L1_5) ?_) ?_))))⟩
 · first | omega | assumption
 rintro _ whs12 ⟨L1_13, rfl, hs12, ho14⟩
 replace hs12 := St.lend (hs7.fr L1_5) hs12
 refine ⟨_, rfl, WL.nil (WC.sr (WL.r 1 hs12 [] rfl (WL.cl Tryz.call166 rfl (k92_ _ _ _ _ ho11 (hs12.ow L1_10) ?_) ?_)))⟩
 · first | omega | assumption
 rintro _ whs15 ⟨L1_16, rfl, hs15, ho17⟩
 replace hs15 := St.lend (hs12.fr L1_10) hs15
 refine ⟨_, rfl, WL.nil (WC.sr (WL.r 2 hs15 [] rfl (WL.cl Tryz.call179 rfl (k135_ _ _ _ _ _ _ _ _ _ (SlF.ofOwn ho14 (hs15.ow L1_13)) (SlF.ofOwn ho17 (hs15.ow L1_16)) ?_) ?_)))⟩
 · first | assumption | rfl | omega
 rintro _ whs18 ⟨rfl, hs18⟩
 replace hs18 := hs15.call0 hs18
 refine ⟨_, rfl, WL.r 1 hs18 [] rfl (WL.nil (WC.ret (rtv rfl rfl hs18 ?_)))⟩
 rfl
theorem ext_idx (s : ByteArray) (c : Int) (w : World) : (callFunc 289 #[.string s, .int .u8 c]).run Tryz.prog w = .ok (.value (.int .i64 (firstIdx s c.toNat.toUInt8))) w := by
  rw [run_callFunc_extern Tryz.func289 (by kernel_rfl) (by kernel_rfl) (by kernel_rfl) (e := Extern.BytealgIndexByte.indexByte) (by kernel_rfl), run_indexByte_string]
  rfl
theorem k137_ (s : ByteArray) (c : Int) (w : World) :
    Calls Tryz.prog 265 #[.string s, .int .u8 c] w fun e w' => e = .returned (.int .i64 (firstIdx s c.toNat.toUInt8)) ∧ St w [] [] w' := by
 refine enter 8 Tryz.func265 rfl Tryz.ntmps265 rfl rfl ?_
 have hs1 := St.init w
 refine WC.r1 hs1 [] rfl (WC.sr (WL.r 2 hs1 [] rfl (WL.val rfl rfl rfl (Run.ext (ext_idx _ _) rfl rfl rfl) (WL.r 1 hs1 [] rfl (WL.nil (WC.ret (retV1 rfl (resV.tmp rfl) ?_)))))))
 refine ⟨congrArg Ending.returned ?_, hs1.nil⟩
 rfl
theorem k138_ (s : ByteArray) (c : Int) (w : World) :
    Calls Tryz.prog 216 #[.string s, .int .u8 c] w fun e w' => e = .returned (.int .i64 (firstIdx s c.toNat.toUInt8)) ∧ St w [] [] w' := by
 refine enter 8 Tryz.func216 rfl Tryz.ntmps216 rfl rfl ?_
 have hs1 := St.init w
 refine WC.r1 hs1 [] rfl (WC.sr (WL.r 2 hs1 [] rfl (WL.cl Tryz.call265 rfl (k137_ _ _ _) ?_)))
 rintro _ whs2 ⟨rfl, hs2⟩
 replace hs2 := hs1.call0 hs2
 refine ⟨_, rfl, WL.r 1 hs2 [] rfl (WL.nil (WC.ret (rtv rfl rfl hs2 ?_)))⟩
 rfl
theorem k139_ (s : ByteArray) (most : Int) (more : ByteArray) (w : World) (hz : s.size ≤ 1099511627776) :
    Calls Tryz.prog 178 #[.string s, i64 most, .string more] w fun e w' => e = .returned (.bool (isPlain s most more)) ∧ St w [] [] w' := by
 refine enter 43 Tryz.func178 rfl Tryz.ntmps178 rfl rfl ?_
 have hs1 := St.init w
 refine WC.r1 hs1 [] rfl (WC.seq (fun K2 hK2 => WC.r1 hs1 [] rfl (WC.block ?_)))
 refine WC.lS [0, 1, 2, 10] rfl hs1 (fun k_ f w' => ∃ (i : Nat), k_ = s.size - i ∧ (i ≤ s.size) ∧ (upto (plainB more) s i) ∧ Sub [(11, .int .i64 i)] f) ((fun (i : Nat) => s.size - i) (0)) ?_ ?_
 ·refine ⟨0, rfl, ?_, ?_, ⟨rfl, trivial⟩⟩
  · exact Nat.zero_le _
  · exact upto_zero
 clear hs1
 rintro _ f w ⟨i, rfl, p0, p1, hG⟩ hF hs3
 refine WC.sub _ (hG.app hF) ?_
 clear hG hF
 refine WC.r1 hs3 [] rfl (WC.seq (fun K4 hK4 => ?_))
 refine WC.cD rfl (fun qh5 => ?_) (fun qh5 => ?_)
 ·refine WC.skip (hK4 _ _ (WC.seq (fun K6 hK6 => WC.block (WC.r1 hs3 [] rfl (WC.sr (WL.r 2 hs3 [] rfl ?_))))))
  refine WL.val rfl rfl rfl (Run.idxStr Tryz.runUnderlying9 rfl rfl rfl ?_ ?_) ?_
  · omega
  · omega
  refine WL.r 1 hs3 [] rfl (WL.nil (WC.sr (WL.r 3 hs3 [] rfl (WL.pA tbk 2 Acts.nil hs3 [] rfl rfl rfl rfl (fun g_ => trivial) (WL.r 1 hs3 [] rfl ?_)))))
  apply WL.gO 6 Acts.nil hs3 rfl
  ·intro g7 J8
   refine WL.runA tbk 3 (Acts.nil.cons (j := 6) rfl g7) hs3 [] rfl trivial (WL.pA tbk 2 (Acts.nil.cons (j := 6) rfl g7) hs3 [] rfl rfl rfl rfl (fun g_ => trivial) (WL.eO 4 Acts.nil J8 hs3 g7 rfl rfl))
  intro _ hs9
  refine WL.r 1 hs9 [] rfl ?_
  apply WL.gO 4 Acts.nil hs9 rfl
  ·intro g10 J11
   refine WL.runA tbk 2 (Acts.nil.cons (j := 14) rfl g10) hs9 [] rfl trivial (WL.call (wantF rfl g10) rfl rfl (Run.call Tryz.call216 rfl rfl rfl) (k138_ _ _ _) ?_)
   rintro _ whs12 ⟨rfl, hs12⟩
   replace hs12 := hs9.call0 hs12
   refine ⟨_, rfl, WL.runA tbk 1 (Acts.nil.cons (j := 14) rfl g10) hs12 [] rfl trivial (WL.eO 4 Acts.nil J11 hs12 g10 rfl rfl)⟩
  intro _ hs13
  refine WL.r 1 hs13 [] rfl (WL.nil (WC.cq rfl (fun h14 qh14 => ?_) (fun h14 qh14 => ?_)))
  ·refine WC.r1 hs13 [] rfl (WC.ret (ibR (tkR (tkR (ibR (tkR ?_))))))
   clear hK6 hK2
   refine rtv rfl rfl hs13 ?_
   have e : plainB more (sbyte s i) = false := by simpa [plainB, wordB] using qh14
   simp [isPlain, allB_false (by omega) e]
  refine WC.skip (hK6 _ _ (WC.region (WL.r 2 hs13 [] rfl (WL.nil (tkN ?_)))))
  refine ⟨sbF rfl, hs13, _, ?_, i + 1, rfl, ?_, ?_, ⟨rfl, trivial⟩⟩
  · omega
  · omega
  · refine upto_succ p1 ?_; simpa [plainB, wordB] using qh14
 refine WC.exit (hK2 _ _ (WC.sr (WL.r 3 hs3 [] rfl (WL.cl Tryz.call58 rfl (k0_ _ _ _ _) ?_))))
 rintro _ whs15 ⟨rfl, hs15⟩
 replace hs15 := hs3.call0 hs15
 refine ⟨_, rfl, WL.r 1 hs15 [] rfl (WL.nil (WC.ret (rtv rfl rfl hs15 ?_)))⟩
 simp [isPlain, allB_true p1 (by omega)]
theorem k140_ (s : ByteArray) (w : World) (hz : s.size ≤ 1099511627776) :
    Calls Tryz.prog 123 #[.string s] w fun e w' => e = .returned (.bool (wordOk s)) ∧ St w [] [] w' := by
 refine enter 5 Tryz.func123 rfl Tryz.ntmps123 rfl rfl ?_
 have hs1 := St.init w
 refine WC.r1 hs1 [] rfl (WC.sr (WL.r 1 hs1 [] rfl (WL.cl Tryz.call178 rfl (k139_ _ _ _ _ ?_) ?_)))
 · first | assumption | rfl | omega
 rintro _ whs2 ⟨rfl, hs2⟩
 replace hs2 := hs1.call0 hs2
 refine ⟨_, rfl, WL.r 1 hs2 [] rfl (WL.nil (WC.ret (rtv rfl rfl hs2 ?_)))⟩
 rfl
theorem k141_ (s : ByteArray) (w : World) (hz : s.size ≤ 1099511627776) :
    Calls Tryz.prog 117 #[.string s] w fun e w' => e = .returned (.bool (wordOk s)) ∧ St w [] [] w' := by
 refine enter 40 Tryz.func117 rfl Tryz.ntmps117 rfl rfl ?_
 have hs1 := St.init w
 refine WC.r1 hs1 [] rfl (WC.seq (fun K2 hK2 => WC.r1 hs1 [] rfl (WC.block ?_)))
 refine WC.lS [0] rfl hs1 (fun k_ f w' => ∃ (i : Nat), k_ = s.size - i ∧ (i ≤ s.size) ∧ (upto (plainB ByteArray.empty) s i) ∧ Sub [(3, .int .i64 i)] f) ((fun (i : Nat) => s.size - i) (0)) ?_ ?_
 ·refine ⟨0, rfl, ?_, ?_, ⟨rfl, trivial⟩⟩
  · exact Nat.zero_le _
  · exact upto_zero
 clear hs1
 rintro _ f w ⟨i, rfl, p0, p1, hG⟩ hF hs3
 refine WC.sub _ (hG.app hF) ?_
 clear hG hF
 refine WC.seq (fun K4 hK4 => WC.r1 hs3 [] rfl ?_)
 refine WC.cond rfl (fun h5 => ?_) (fun h5 => ?_)
 ·have qh5 := h5
  try simp only [decide_eq_true_eq, decide_eq_false_iff_not] at qh5
  refine WC.skip (hK4 _ _ (WC.seq (fun K6 hK6 => WC.block (WC.sr (WL.r 2 hs3 [] rfl ?_)))))
  refine WL.val rfl rfl rfl (Run.idxStr Tryz.runUnderlying9 rfl rfl rfl ?_ ?_) ?_
  · omega
  · omega
  refine WL.r 2 hs3 [] rfl ?_
  apply WL.gO 4 Acts.nil hs3 rfl
  ·intro g7 J8
   refine WL.runA tbk 2 (Acts.nil.cons (j := 4) rfl g7) hs3 [] rfl trivial (WL.val (wantF rfl g7) rfl rfl (Run.idxStr Tryz.runUnderlying9 rfl rfl rfl ?_ ?_) ?_)
   · omega
   · omega
   refine WL.runA tbk 1 (Acts.nil.cons (j := 4) rfl g7) hs3 [] rfl trivial (WL.eO 4 Acts.nil J8 hs3 g7 rfl rfl)
  intro _ hs9
  refine WL.r 1 hs9 [] rfl ?_
  apply WL.gA 10 Acts.nil hs9 rfl
  ·intro g10 J11
   refine WL.runA tbk 2 (Acts.nil.cons (j := 10) rfl g10) hs9 [] rfl trivial (WL.val (wantT rfl g10) rfl rfl (Run.idxStr Tryz.runUnderlying9 rfl rfl rfl ?_ ?_) ?_)
   · omega
   · omega
   refine WL.runA tbk 2 (Acts.nil.cons (j := 10) rfl g10) hs9 [] rfl trivial ?_
   apply WL.gO 4 (Acts.nil.cons (j := 10) rfl g10) hs9 rfl
   ·intro g12 J13
    refine WL.runA tbk 2 (Acts.nil.cons (j := 15) rfl g12) hs9 [] rfl trivial (WL.val (wantF rfl g12) rfl rfl (Run.idxStr Tryz.runUnderlying9 rfl rfl rfl ?_ ?_) ?_)
    · omega
    · omega
    refine WL.runA tbk 1 (Acts.nil.cons (j := 15) rfl g12) hs9 [] rfl trivial (WL.eO 4 (Acts.nil.cons (j := 10) rfl g10) J13 hs9 g12 rfl rfl)
   intro _ hs14
   exact WL.eA 6 Acts.nil J11 hs14 g10 rfl rfl
  intro _ hs15
  refine WL.nil (WC.cond rfl (fun h16 => ?_) (fun h16 => ?_))
  ·have qh16 := h16
   try simp only [decide_eq_true_eq, decide_eq_false_iff_not] at qh16
   refine WC.r1 hs15 [] rfl (WC.ret (ibR (tkR (tkR (ibR (tkR ?_))))))
   clear hK6 hK2
   refine rtv rfl rfl hs15 ?_
   have e : plainB ByteArray.empty (sbyte s i) = false := by rw [plainB_empty]; simp only [Int.toNat_natCast] at qh16; exact wordB_not qh16
   simp [wordOk, isPlain, allB_false (by omega) e]
  have qh16 := h16
  try simp only [decide_eq_true_eq, decide_eq_false_iff_not] at qh16
  refine WC.skip (hK6 _ _ (WC.region (WL.r 3 hs15 [] rfl (WL.nil (tkN ?_)))))
  refine ⟨sbF rfl, hs15, _, ?_, i + 1, rfl, ?_, ?_, ⟨rfl, trivial⟩⟩
  · omega
  · omega
  · refine upto_succ p1 ?_; rw [plainB_empty]; simp only [Int.toNat_natCast] at qh16; exact wordB_of qh16
 have qh5 := h5
 try simp only [decide_eq_true_eq, decide_eq_false_iff_not] at qh5
 refine WC.exit (hK2 _ _ (WC.sr (WL.r 4 hs3 [] rfl (WL.pA tbk 3 Acts.nil hs3 [] rfl rfl rfl rfl (fun g_ => trivial) (WL.r 1 hs3 [] rfl (WL.nil (WC.ret ?_)))))))
 refine rtv rfl rfl hs3 ?_
 simp only [wordOk, isPlain, allB_true p1 (by omega), Bool.true_and]; rfl
set_option maxHeartbeats 4000000 in
theorem k142_ (s : StateR) (w : World) (f_s : okStateR 549755813888 w s) (hT : totState s.dat ≤ 1048576) :
    Calls Tryz.prog 61 #[.agg #[i64 s.W, i64 s.H, i64 s.Limit, i64 s.Next, .slice s.Panes.A s.Panes.n s.Panes.c, .slice s.Wins.A s.Wins.n s.Wins.c, .slice s.Sess.A s.Sess.n s.Sess.c]] w fun e w' => e = .returned (.bool (winsOkI s.dat)) ∧ St w [] [] w' := by
 have nb_s_Panes := f_s.Panes_n
 have nl_s_Panes := f_s.Panes.sl.len
 have nb_s_Wins := f_s.Wins_n
 have nl_s_Wins := f_s.Wins.sl.len
 have nb_s_Sess := f_s.Sess_n
 have nl_s_Sess := f_s.Sess.sl.len
 have hsm0 : smState 1048576 s.dat := totState_sm hT
 have hlP : s.dat.Panes.length = s.Panes.xs.length := List.length_map _
 have hlW : s.dat.Wins.length = s.Wins.xs.length := List.length_map _
 have hlS : s.dat.Sess.length = s.Sess.xs.length := List.length_map _
 have hnP : s.dat.Panes.length ≤ 1048576 := hsm0.1
 have hnW : s.dat.Wins.length ≤ 1048576 := hsm0.2.2.1
 have hnS : s.dat.Sess.length ≤ 1048576 := hsm0.2.2.2.2.1
 have hWn : ∀ y, y ∈ s.Wins.xs → y.Tree.n ≤ 1048576 := fun y hy => by have h1 := (f_s.Wins.all y hy).Tree.len; have h2 : y.Tree.xs.length ≤ 1048576 := (hsm0.2.2.2.1 _ (List.mem_map_of_mem hy)).2; omega
 have hWnm : ∀ y, y ∈ s.Wins.xs → y.Name.size ≤ 1048576 := fun y hy => (hsm0.2.2.2.1 _ (List.mem_map_of_mem hy)).1
 refine enter 104 Tryz.func61 rfl Tryz.ntmps61 rfl rfl ?_
 have hs1 := St.init w
 refine WC.sr (WL.bx hs1 rfl (fun b2 _ hs3 => WL.r 1 hs3 [] rfl (WL.nil (WC.sr (WL.buildF (F := encI) hs3 ([]) Tryz.runUnderlying60 Tryz.sizeOf3 Tryz.zeroValue3 rfl rfl rfl rfl rfl rfl rfl rfl rfl rfl rfl rfl (fun A7 c8 L4 whs5 hs5 ho6 => ?_))))))
 replace hs5 := St.back [_] hs5
 refine WL.buildF (F := encI) hs5 ([]) Tryz.runUnderlying60 Tryz.sizeOf3 Tryz.zeroValue3 rfl rfl rfl rfl rfl rfl rfl rfl rfl rfl rfl rfl (fun A12 c13 L9 whs10 hs10 ho11 => ?_)
 replace hs10 := St.back [_] hs10
 refine WL.r 2 hs10 [] rfl (WL.nil (WC.seq (fun K14 hK14 => WC.r1 hs10 [0] rfl (WC.block ?_))))
 refine WC.lO [1, 4, 14, 15] rfl (hs10.fr L4) (fun k_ f L_ => ∃ (zs : List Int) (i : Nat) (A15 : Option Addr) (c16 : Nat), k_ = s.Wins.n - i ∧ (i ≤ s.Wins.n) ∧ (zs = (treesL ((s.Wins.xs.take (i)).map WinR.dat))) ∧ (zs.length ≤ 31 * i) ∧ (∀ j, j < i → winB s.dat (gat encWinR s.Wins.xs j).dat = true ∧ (0 < j → (gat encWinR s.Wins.xs (j - 1)).Id < (gat encWinR s.Wins.xs j).Id)) ∧ OwnF encI 3 (.slice A15 (zs.length) c16) (zs) L_ ∧ Sub [(3, .slice A15 (zs.length) c16), (16, .int .i64 i)] f) (((fun (zs : List Int) (i : Nat) => s.Wins.n - i) ([]) (0))) ?_ ?_
 ·refine ⟨[], 0, _, _, rfl, ?_, ?_, ?_, ?_, ho6, ⟨rfl, rfl, trivial⟩⟩
  · exact Nat.zero_le _
  · rfl
  · exact Nat.le_refl _
  · exact fun j hj => absurd hj (by omega)
 clear hs10
 rintro _ f w L17 ⟨zs, i, A15, c16, rfl, p0, p1, p2, p3, ho18, hG⟩ hF hs19
 refine WC.sub _ (hG.app hF) ?_
 clear hG hF
 replace hs19 := St.back [_] hs19
 refine WC.r1 hs19 [] rfl (WC.seq (fun K20 hK20 => ?_))
 refine WC.cq rfl (fun h21 qh21 => ?_) (fun h21 qh21 => ?_)
 ·have hTm := (SlN.nth f_s.Wins (show i < s.Wins.n by omega))
  have hTl := hTm.Tree.len
  have hWi := hWn (gat encWinR s.Wins.xs i) (gat_mem (by omega))
  have hWj := hWnm (gat encWinR s.Wins.xs i) (gat_mem (by omega))
  have hll := leavesL_len (gat encWinR s.Wins.xs i).Tree.xs
  have hpll := panesL_len (gat encWinR s.Wins.xs i).Tree.xs
  refine WC.skip (hK20 _ _ (WC.seq (fun K22 hK22 => WC.block (WC.sr (WL.r 1 hs19 [] rfl ?_)))))
  refine WL.val rfl rfl rfl (Run.idxN Tryz.runUnderlying30 Tryz.sizeOf58 rfl rfl rfl ?_ ?_ ?_) ?_
  · exact SlF.some_ (SlF.st0 f_s.Wins.sl hs19)
  · first | omega | (simp only [decide_eq_true_eq] at *; omega)
  · first | omega | (simp only [decide_eq_true_eq] at *; omega)
  refine WL.val rfl rfl rfl (Run.loadA Tryz.isAgg58 Tryz.sizeOf58 rfl rfl (SlF.whole (SlF.st0 f_s.Wins.sl hs19) ?_)) ?_
  · first | omega | (simp only [decide_eq_true_eq] at *; omega)
  refine WL.al hs19 Tryz.zeroValue58 rfl rfl (fun b23 _ hs24 => WL.r 1 hs24 [] rfl (WL.st tbk hs24 0 rfl rfl (fun _ hs25 => WL.nil (WC.sr (WL.r 6 hs25 [0, 1, 1] rfl ?_)))))
  refine WL.cl Tryz.call112 rfl (k111_ _ _ _ _ _ _ _ (SlF.st0 (SlN.nth f_s.Wins (by first | omega | (simp only [decide_eq_true_eq] at *; omega))).Tree hs25) ?_) ?_
  · first | assumption | rfl | omega
  rintro _ whs26 ⟨A27, c28, L1_29, rfl, hs26, ho30⟩
  replace hs26 := hs25.callF hs26
  refine ⟨_, rfl, ?_⟩
  replace hs26 := St.back [_, _] hs26
  refine WL.r 5 hs26 [] rfl (WL.nil (WC.seq (fun K31 hK31 => WC.seq (fun K32 hK32 => WC.rH hs26 hs26 (fun _ hs33 => ?_)))))
  refine WH.rn [0, 1, 2, 3] hs33 [0] rfl rfl (WH.split 34 rfl (fun g34 => ?_) (fun g34 => ?_))
  ·refine WH.takeSkip 4 rfl (by kernel_rfl) (wantNF rfl g34) rfl rfl hs33 (WH.takeSkip 5 rfl (by kernel_rfl) (wantNF rfl g34) rfl rfl hs33 (WH.takeSkip 6 rfl (by kernel_rfl) (wantNF rfl g34) rfl rfl hs33 (WH.takeSkip 7 rfl (by kernel_rfl) (wantNF rfl g34) rfl rfl hs33 (WH.takeSkip 8 rfl (by kernel_rfl) (wantNF rfl g34) rfl rfl hs33 ?_))))
   refine WH.take 9 rfl (by kernel_rfl) rfl rfl rfl hs33 (fun w_ hs_ => (Run.pickT rfl rfl g34 rfl)) ?_
   refine WH.rn [10] hs33 [] rfl rfl (WH.takeSkip 11 rfl (by kernel_rfl) (wantNF rfl rfl) rfl rfl hs33 (WH.takeSkip 12 rfl (by kernel_rfl) (wantNF rfl rfl) rfl rfl hs33 (WH.takeSkip 13 rfl (by kernel_rfl) (wantNF rfl rfl) rfl rfl hs33 (WH.takeSkip 14 rfl (by kernel_rfl) rfl rfl rfl hs33 (WH.takeSkip 15 rfl (by kernel_rfl) rfl rfl rfl hs33 (WH.takeSkip 16 rfl (by kernel_rfl) rfl rfl rfl hs33 (WH.takeSkip 17 rfl (by kernel_rfl) rfl rfl rfl hs33 ?_)))))))
   refine WH.takeSkip 18 rfl (by kernel_rfl) rfl rfl rfl hs33 (WH.takeSkip 19 rfl (by kernel_rfl) rfl rfl rfl hs33 (WH.takeSkip 20 rfl (by kernel_rfl) rfl rfl rfl hs33 (WH.takeSkip 21 rfl (by kernel_rfl) rfl rfl rfl hs33 (WH.takeSkip 22 rfl (by kernel_rfl) rfl rfl rfl hs33 (WH.takeSkip 23 rfl (by kernel_rfl) rfl rfl rfl hs33 (WH.takeSkip 24 rfl (by kernel_rfl) (wantNF rfl rfl) rfl rfl hs33 ?_))))))
   refine WH.take 25 rfl (by kernel_rfl) rfl rfl rfl hs33 (fun w_ hs_ => (Run.pickT rfl rfl rfl rfl)) ?_
   refine WH.rn [26] hs33 [] rfl rfl (WH.takeSkip 27 rfl (by kernel_rfl) (wantNF rfl rfl) rfl rfl hs33 (WH.takeSkip 28 rfl (by kernel_rfl) (wantNF rfl rfl) rfl rfl hs33 (WH.o1 29 rfl (WL.skip (wantNF rfl rfl) rfl rfl (WL.nil ⟨hs33, WH.takeSkip 30 rfl (by kernel_rfl) (wantNF rfl rfl) rfl rfl hs33 ?_⟩)))))
   refine WH.take 31 rfl (by kernel_rfl) rfl rfl rfl hs33 (fun w_ hs_ => (Run.pickT rfl rfl rfl rfl)) ?_
   refine WH.rn [32] hs33 [] rfl rfl (WH.takeSkip 33 rfl (by kernel_rfl) (wantNF rfl rfl) rfl rfl hs33 (WH.takeSkip 34 rfl (by kernel_rfl) (wantNF rfl rfl) rfl rfl hs33 ?_))
   refine WH.take 35 rfl (by kernel_rfl) rfl rfl rfl hs33 (fun w_ hs_ => (Run.pickT rfl rfl rfl rfl)) ?_
   refine WH.rn [36] hs33 [] rfl rfl (WH.takeSkip 37 rfl (by kernel_rfl) (wantNF rfl rfl) rfl rfl hs33 (WH.takeSkip 38 rfl (by kernel_rfl) (wantNF rfl rfl) rfl rfl hs33 (WH.takeSkip 40 rfl (by kernel_rfl) (wantNF rfl rfl) rfl rfl hs33 (WH.takeSkip 41 rfl (by kernel_rfl) (wantNF rfl rfl) rfl rfl hs33 (WH.o1 39 rfl (WL.skip (wantNF rfl rfl) rfl rfl (WL.nil ⟨hs33, ?_⟩)))))))
   refine WH.o1 42 rfl (WL.skip (wantNF rfl rfl) rfl rfl (WL.nil ⟨hs33, WH.takeSkip 43 rfl (by kernel_rfl) (wantNF rfl rfl) rfl rfl hs33 ?_⟩))
   refine WH.take 44 rfl (by kernel_rfl) rfl rfl rfl hs33 (fun w_ hs_ => (Run.pickT rfl rfl rfl rfl)) ?_
   refine WH.dn (hK32 _ _ (WC.condT rfl rfl ?_))
   have hbad : winsC s.dat = false := winsI_no (i := i) (by omega) (by
     show (((decide (1 ≤ (gat encWinR s.Wins.xs i).Id) && decide ((gat encWinR s.Wins.xs i).Id < s.Next)) && (wordOk (gat encWinR s.Wins.xs i).Name && placesOk (gat encWinR s.Wins.xs i).Tree.xs s.W s.H)) && hasI (panesL (gat encWinR s.Wins.xs i).Tree.xs) (gat encWinR s.Wins.xs i).Active) = false ∨ _
     grind)
   have hbadI : winsOkI s.dat = false := by unfold winsOkI; rw [hbad, Bool.false_and]
   refine WC.r1 hs33 [] rfl (WC.ret (tkR (ibR (tkR (tkR (ibR (tkR ?_)))))))
   clear hK31 hK22 hK14
   refine rtv rfl rfl hs33 ?_
   first | rw [hbadI] | (rw [htr, hys]; unfold winsOkI perm1; rw [hWc, Bool.true_and]; congr 2; rw [decide_eq_decide]; omega)
  refine WH.rnA (Acts.nil.cons (j := 3) rfl g34) [4, 5, 6, 7, 8] hs33 [0, 1] rfl rfl ?_
  refine WH.take 9 rfl (by kernel_rfl) rfl rfl rfl hs33 (fun w_ hs_ => (Run.pick rfl rfl rfl rfl)) ?_
  refine WH.rn [10] hs33 [] rfl rfl (WH.split 41 rfl (fun g36 => ?_) (fun g36 => ?_))
  ·refine WH.takeSkip 11 rfl (by kernel_rfl) (wantNF rfl g36) rfl rfl hs33 (WH.takeSkip 12 rfl (by kernel_rfl) (wantNF rfl g36) rfl rfl hs33 (WH.takeSkip 13 rfl (by kernel_rfl) (wantNF rfl g36) rfl rfl hs33 (WH.takeSkip 14 rfl (by kernel_rfl) rfl rfl rfl hs33 (WH.takeSkip 15 rfl (by kernel_rfl) rfl rfl rfl hs33 (WH.takeSkip 16 rfl (by kernel_rfl) rfl rfl rfl hs33 (WH.takeSkip 17 rfl (by kernel_rfl) rfl rfl rfl hs33 (WH.takeSkip 18 rfl (by kernel_rfl) rfl rfl rfl hs33 ?_)))))))
   refine WH.takeSkip 19 rfl (by kernel_rfl) rfl rfl rfl hs33 (WH.takeSkip 20 rfl (by kernel_rfl) rfl rfl rfl hs33 (WH.takeSkip 21 rfl (by kernel_rfl) rfl rfl rfl hs33 (WH.takeSkip 22 rfl (by kernel_rfl) rfl rfl rfl hs33 (WH.takeSkip 23 rfl (by kernel_rfl) rfl rfl rfl hs33 (WH.takeSkip 24 rfl (by kernel_rfl) (wantNF rfl g36) rfl rfl hs33 ?_)))))
   refine WH.take 25 rfl (by kernel_rfl) rfl rfl rfl hs33 (fun w_ hs_ => (Run.pickT rfl rfl g36 rfl)) ?_
   refine WH.rn [26] hs33 [] rfl rfl (WH.takeSkip 27 rfl (by kernel_rfl) (wantNF rfl rfl) rfl rfl hs33 (WH.takeSkip 28 rfl (by kernel_rfl) (wantNF rfl rfl) rfl rfl hs33 (WH.o1 29 rfl (WL.skip (wantNF rfl rfl) rfl rfl (WL.nil ⟨hs33, WH.takeSkip 30 rfl (by kernel_rfl) (wantNF rfl rfl) rfl rfl hs33 ?_⟩)))))
   refine WH.take 31 rfl (by kernel_rfl) rfl rfl rfl hs33 (fun w_ hs_ => (Run.pickT rfl rfl rfl rfl)) ?_
   refine WH.rn [32] hs33 [] rfl rfl (WH.takeSkip 33 rfl (by kernel_rfl) (wantNF rfl rfl) rfl rfl hs33 (WH.takeSkip 34 rfl (by kernel_rfl) (wantNF rfl rfl) rfl rfl hs33 ?_))
   refine WH.take 35 rfl (by kernel_rfl) rfl rfl rfl hs33 (fun w_ hs_ => (Run.pickT rfl rfl rfl rfl)) ?_
   refine WH.rn [36] hs33 [] rfl rfl (WH.takeSkip 37 rfl (by kernel_rfl) (wantNF rfl rfl) rfl rfl hs33 (WH.takeSkip 38 rfl (by kernel_rfl) (wantNF rfl rfl) rfl rfl hs33 (WH.takeSkip 40 rfl (by kernel_rfl) (wantNF rfl rfl) rfl rfl hs33 (WH.takeSkip 41 rfl (by kernel_rfl) (wantNF rfl rfl) rfl rfl hs33 (WH.o1 39 rfl (WL.skip (wantNF rfl rfl) rfl rfl (WL.nil ⟨hs33, ?_⟩)))))))
   refine WH.o1 42 rfl (WL.skip (wantNF rfl rfl) rfl rfl (WL.nil ⟨hs33, WH.takeSkip 43 rfl (by kernel_rfl) (wantNF rfl rfl) rfl rfl hs33 ?_⟩))
   refine WH.take 44 rfl (by kernel_rfl) rfl rfl rfl hs33 (fun w_ hs_ => (Run.pickT rfl rfl rfl rfl)) ?_
   refine WH.dn (hK32 _ _ (WC.condT rfl rfl ?_))
   have hbad : winsC s.dat = false := winsI_no (i := i) (by omega) (by
     show (((decide (1 ≤ (gat encWinR s.Wins.xs i).Id) && decide ((gat encWinR s.Wins.xs i).Id < s.Next)) && (wordOk (gat encWinR s.Wins.xs i).Name && placesOk (gat encWinR s.Wins.xs i).Tree.xs s.W s.H)) && hasI (panesL (gat encWinR s.Wins.xs i).Tree.xs) (gat encWinR s.Wins.xs i).Active) = false ∨ _
     grind)
   have hbadI : winsOkI s.dat = false := by unfold winsOkI; rw [hbad, Bool.false_and]
   refine WC.r1 hs33 [] rfl (WC.ret (tkR (ibR (tkR (tkR (ibR (tkR ?_)))))))
   clear hK31 hK22 hK14
   refine rtv rfl rfl hs33 ?_
   first | rw [hbadI] | (rw [htr, hys]; unfold winsOkI perm1; rw [hWc, Bool.true_and]; congr 2; rw [decide_eq_decide]; omega)
  refine WH.rnA (Acts.nil.cons (j := 10) rfl g36) [11, 12, 13] hs33 [] rfl rfl (WH.split 44 rfl (fun g38 => ?_) (fun g38 => ?_))
  ·refine WH.rnA (Acts.nil.cons (j := 13) rfl g38) [14, 15, 16, 17] hs33 [1] rfl rfl ?_
   refine WH.take 18 rfl (by kernel_rfl) (wantT rfl g38) rfl rfl hs33 (fun w_ hs_ => (Run.idxK ((i - 1)) Tryz.runUnderlying30 Tryz.sizeOf58 rfl rfl rfl ?_ ?_ ?_)) ?_
   · exact SlF.some_ (SlF.st0 f_s.Wins.sl (hs_ : St _ _ _ _))
   · first | omega | (simp only [decide_eq_true_eq] at *; omega)
   · first | omega | (simp only [decide_eq_true_eq] at *; omega)
   refine WH.take 19 rfl (by kernel_rfl) (wantT rfl g38) rfl rfl hs33 (fun w_ hs_ => (Run.fieldO Tryz.runUnderlying58 rfl rfl rfl Tryz.sizeOf3 rfl)) ?_
   refine WH.take 20 rfl (by kernel_rfl) (wantT rfl g38) rfl rfl hs33 (fun w_ hs_ => (Run.load Tryz.isAgg3 rfl rfl (SlF.fld (SlF.st0 f_s.Wins.sl (hs_ : St _ _ _ _)) ?_ rfl))) ?_
   · first | omega | (simp only [decide_eq_true_eq] at *; omega)
   refine WH.rnA (Acts.nil.cons (j := 13) rfl g38) [21, 22, 23] hs33 [0] rfl rfl ?_
   refine WH.take 24 rfl (by kernel_rfl) (wantF rfl g36) rfl rfl hs33 (fun w_ hs_ => (Run.pick rfl rfl rfl rfl)) ?_
   refine WH.take 25 rfl (by kernel_rfl) rfl rfl rfl hs33 (fun w_ hs_ => (Run.pick rfl rfl rfl rfl)) ?_
   refine WH.rn [26] hs33 [] rfl rfl (WH.split 57 rfl (fun g39 => ?_) (fun g39 => ?_))
   ·refine WH.takeSkip 27 rfl (by kernel_rfl) (wantNF rfl g39) rfl rfl hs33 (WH.takeSkip 28 rfl (by kernel_rfl) (wantNF rfl g39) rfl rfl hs33 (WH.o1 29 rfl (WL.skip (wantNF rfl g39) rfl rfl (WL.nil ⟨hs33, WH.takeSkip 30 rfl (by kernel_rfl) (wantNF rfl g39) rfl rfl hs33 ?_⟩))))
    refine WH.take 31 rfl (by kernel_rfl) rfl rfl rfl hs33 (fun w_ hs_ => (Run.pickT rfl rfl g39 rfl)) ?_
    refine WH.rn [32] hs33 [] rfl rfl (WH.takeSkip 33 rfl (by kernel_rfl) (wantNF rfl rfl) rfl rfl hs33 (WH.takeSkip 34 rfl (by kernel_rfl) (wantNF rfl rfl) rfl rfl hs33 ?_))
    refine WH.take 35 rfl (by kernel_rfl) rfl rfl rfl hs33 (fun w_ hs_ => (Run.pickT rfl rfl rfl rfl)) ?_
    refine WH.rn [36] hs33 [] rfl rfl (WH.takeSkip 37 rfl (by kernel_rfl) (wantNF rfl rfl) rfl rfl hs33 (WH.takeSkip 38 rfl (by kernel_rfl) (wantNF rfl rfl) rfl rfl hs33 (WH.takeSkip 40 rfl (by kernel_rfl) (wantNF rfl rfl) rfl rfl hs33 (WH.takeSkip 41 rfl (by kernel_rfl) (wantNF rfl rfl) rfl rfl hs33 (WH.o1 39 rfl (WL.skip (wantNF rfl rfl) rfl rfl (WL.nil ⟨hs33, ?_⟩)))))))
    refine WH.o1 42 rfl (WL.skip (wantNF rfl rfl) rfl rfl (WL.nil ⟨hs33, WH.takeSkip 43 rfl (by kernel_rfl) (wantNF rfl rfl) rfl rfl hs33 ?_⟩))
    refine WH.take 44 rfl (by kernel_rfl) rfl rfl rfl hs33 (fun w_ hs_ => (Run.pickT rfl rfl rfl rfl)) ?_
    refine WH.dn (hK32 _ _ (WC.condT rfl rfl ?_))
    have hbad : winsC s.dat = false := winsI_no (i := i) (by omega) (by
      show (((decide (1 ≤ (gat encWinR s.Wins.xs i).Id) && decide ((gat encWinR s.Wins.xs i).Id < s.Next)) && (wordOk (gat encWinR s.Wins.xs i).Name && placesOk (gat encWinR s.Wins.xs i).Tree.xs s.W s.H)) && hasI (panesL (gat encWinR s.Wins.xs i).Tree.xs) (gat encWinR s.Wins.xs i).Active) = false ∨ _
      grind)
    have hbadI : winsOkI s.dat = false := by unfold winsOkI; rw [hbad, Bool.false_and]
    refine WC.r1 hs33 [] rfl (WC.ret (tkR (ibR (tkR (tkR (ibR (tkR ?_)))))))
    clear hK31 hK22 hK14
    refine rtv rfl rfl hs33 ?_
    first | rw [hbadI] | (rw [htr, hys]; unfold winsOkI perm1; rw [hWc, Bool.true_and]; congr 2; rw [decide_eq_decide]; omega)
   refine WH.rnA (Acts.nil.cons (j := 26) rfl g39) [27, 28] hs33 [0] rfl rfl (WH.o1 29 rfl (WL.call (wantF rfl g39) rfl rfl (Run.call Tryz.call123 rfl rfl rfl) (k140_ _ _ ?_) ?_))
   · first | assumption | rfl | omega
   rintro _ whs41 ⟨rfl, hs41⟩
   replace hs41 := hs33.call0 hs41
   refine ⟨_, rfl, WL.nil ⟨hs41, WH.rnA (Acts.nil.cons (j := 26) rfl g39) [30] hs41 [] rfl rfl ?_⟩⟩
   refine WH.take 31 rfl (by kernel_rfl) rfl rfl rfl hs41 (fun w_ hs_ => (Run.pick rfl rfl rfl rfl)) ?_
   refine WH.rn [32] hs41 [] rfl rfl (WH.split 63 rfl (fun g42 => ?_) (fun g42 => ?_))
   ·refine WH.takeSkip 33 rfl (by kernel_rfl) (wantNF rfl g42) rfl rfl hs41 (WH.takeSkip 34 rfl (by kernel_rfl) (wantNF rfl g42) rfl rfl hs41 ?_)
    refine WH.take 35 rfl (by kernel_rfl) rfl rfl rfl hs41 (fun w_ hs_ => (Run.pickT rfl rfl g42 rfl)) ?_
    refine WH.rn [36] hs41 [] rfl rfl (WH.takeSkip 37 rfl (by kernel_rfl) (wantNF rfl rfl) rfl rfl hs41 (WH.takeSkip 38 rfl (by kernel_rfl) (wantNF rfl rfl) rfl rfl hs41 (WH.takeSkip 40 rfl (by kernel_rfl) (wantNF rfl rfl) rfl rfl hs41 (WH.takeSkip 41 rfl (by kernel_rfl) (wantNF rfl rfl) rfl rfl hs41 (WH.o1 39 rfl (WL.skip (wantNF rfl rfl) rfl rfl (WL.nil ⟨hs41, ?_⟩)))))))
    refine WH.o1 42 rfl (WL.skip (wantNF rfl rfl) rfl rfl (WL.nil ⟨hs41, WH.takeSkip 43 rfl (by kernel_rfl) (wantNF rfl rfl) rfl rfl hs41 ?_⟩))
    refine WH.take 44 rfl (by kernel_rfl) rfl rfl rfl hs41 (fun w_ hs_ => (Run.pickT rfl rfl rfl rfl)) ?_
    refine WH.dn (hK32 _ _ (WC.condT rfl rfl ?_))
    have hbad : winsC s.dat = false := winsI_no (i := i) (by omega) (by
      show (((decide (1 ≤ (gat encWinR s.Wins.xs i).Id) && decide ((gat encWinR s.Wins.xs i).Id < s.Next)) && (wordOk (gat encWinR s.Wins.xs i).Name && placesOk (gat encWinR s.Wins.xs i).Tree.xs s.W s.H)) && hasI (panesL (gat encWinR s.Wins.xs i).Tree.xs) (gat encWinR s.Wins.xs i).Active) = false ∨ _
      grind)
    have hbadI : winsOkI s.dat = false := by unfold winsOkI; rw [hbad, Bool.false_and]
    refine WC.r1 hs41 [] rfl (WC.ret (tkR (ibR (tkR (tkR (ibR (tkR ?_)))))))
    clear hK31 hK22 hK14
    refine rtv rfl rfl hs41 ?_
    first | rw [hbadI] | (rw [htr, hys]; unfold winsOkI perm1; rw [hWc, Bool.true_and]; congr 2; rw [decide_eq_decide]; omega)
   refine WH.rnA (Acts.nil.cons (j := 32) rfl g42) [33, 34] hs41 [] rfl rfl ?_
   refine WH.take 35 rfl (by kernel_rfl) rfl rfl rfl hs41 (fun w_ hs_ => (Run.pick rfl rfl rfl rfl)) ?_
   refine WH.rn [36] hs41 [] rfl rfl (WH.split 67 rfl (fun g44 => ?_) (fun g44 => ?_))
   ·refine WH.takeSkip 37 rfl (by kernel_rfl) (wantNF rfl g44) rfl rfl hs41 (WH.takeSkip 38 rfl (by kernel_rfl) (wantNF rfl g44) rfl rfl hs41 (WH.takeSkip 40 rfl (by kernel_rfl) (wantNF rfl g44) rfl rfl hs41 (WH.takeSkip 41 rfl (by kernel_rfl) (wantNF rfl g44) rfl rfl hs41 (WH.o1 39 rfl (WL.skip (wantNF rfl g44) rfl rfl (WL.nil ⟨hs41, WH.o1 42 rfl ?_⟩))))))
    refine WL.skip (wantNF rfl g44) rfl rfl (WL.nil ⟨hs41, WH.takeSkip 43 rfl (by kernel_rfl) (wantNF rfl g44) rfl rfl hs41 ?_⟩)
    refine WH.take 44 rfl (by kernel_rfl) rfl rfl rfl hs41 (fun w_ hs_ => (Run.pickT rfl rfl g44 rfl)) ?_
    refine WH.dn (hK32 _ _ (WC.condT rfl rfl ?_))
    have hbad : winsC s.dat = false := winsI_no (i := i) (by omega) (by
      show (((decide (1 ≤ (gat encWinR s.Wins.xs i).Id) && decide ((gat encWinR s.Wins.xs i).Id < s.Next)) && (wordOk (gat encWinR s.Wins.xs i).Name && placesOk (gat encWinR s.Wins.xs i).Tree.xs s.W s.H)) && hasI (panesL (gat encWinR s.Wins.xs i).Tree.xs) (gat encWinR s.Wins.xs i).Active) = false ∨ _
      grind)
    have hbadI : winsOkI s.dat = false := by unfold winsOkI; rw [hbad, Bool.false_and]
    refine WC.r1 hs41 [] rfl (WC.ret (tkR (ibR (tkR (tkR (ibR (tkR ?_)))))))
    clear hK31 hK22 hK14
    refine rtv rfl rfl hs41 ?_
    first | rw [hbadI] | (rw [htr, hys]; unfold winsOkI perm1; rw [hWc, Bool.true_and]; congr 2; rw [decide_eq_decide]; omega)
   refine WH.rnA (Acts.nil.cons (j := 36) rfl g44) [37, 38, 40, 41] hs41 [0, 0] rfl rfl (WH.o1 39 rfl ?_)
   refine WL.call (wantF rfl g44) rfl rfl (Run.call Tryz.call107 rfl rfl rfl) (k84_ _ _ _ _ _ (SlF.st0 (SlN.nth f_s.Wins (by first | omega | (simp only [decide_eq_true_eq] at *; omega))).Tree hs41) ?_) ?_
   · first | assumption | rfl | omega
   rintro _ whs46 ⟨A47, c48, L1_49, rfl, hs46, ho50⟩
   replace hs46 := hs41.callF hs46
   refine ⟨_, rfl, ?_⟩
   replace hs46 := St.back [_, _] hs46
   refine WL.nil ⟨(hs46.rm L1_49), WH.o1 42 rfl (WL.call (wantF rfl g44) rfl rfl (Run.call Tryz.call46 rfl rfl rfl) (k88_ _ _ _ _ _ _ (SlF.ofOwn ho50 (hs46.ow L1_49)) ?_) ?_)⟩
   · first | assumption | rfl | omega
   rintro _ whs51 ⟨rfl, hs51⟩
   replace hs51 := hs46.call0 hs51
   refine ⟨_, rfl, WL.nil ⟨(hs51.rm L1_49), WH.rnA (Acts.nil.cons (j := 36) rfl g44) [43] (hs51.rm L1_49) [] rfl rfl ?_⟩⟩
   refine WH.take 44 rfl (by kernel_rfl) rfl rfl rfl (hs51.rm L1_49) (fun w_ hs_ => (Run.pick rfl rfl rfl rfl)) ?_
   refine WH.dn (hK32 _ _ ?_)
   refine WC.cq rfl (fun h52 qh52 => ?_) (fun h52 qh52 => ?_)
   ·have hbad : winsC s.dat = false := winsI_no (i := i) (by omega) (by
      show (((decide (1 ≤ (gat encWinR s.Wins.xs i).Id) && decide ((gat encWinR s.Wins.xs i).Id < s.Next)) && (wordOk (gat encWinR s.Wins.xs i).Name && placesOk (gat encWinR s.Wins.xs i).Tree.xs s.W s.H)) && hasI (panesL (gat encWinR s.Wins.xs i).Tree.xs) (gat encWinR s.Wins.xs i).Active) = false ∨ _
      grind)
    have hbadI : winsOkI s.dat = false := by unfold winsOkI; rw [hbad, Bool.false_and]
    refine WC.r1 hs51 [] rfl (WC.ret (tkR (ibR (tkR (tkR (ibR (tkR ?_)))))))
    clear hK31 hK22 hK14
    refine rtv rfl rfl hs51 ?_
    first | rw [hbadI] | (rw [htr, hys]; unfold winsOkI perm1; rw [hWc, Bool.true_and]; congr 2; rw [decide_eq_decide]; omega)
   have hgood : winB s.dat (gat encWinR s.Wins.xs i).dat = true ∧ (0 < i → (gat encWinR s.Wins.xs (i - 1)).Id < (gat encWinR s.Wins.xs i).Id) := by
     show (((decide (1 ≤ (gat encWinR s.Wins.xs i).Id) && decide ((gat encWinR s.Wins.xs i).Id < s.Next)) && (wordOk (gat encWinR s.Wins.xs i).Name && placesOk (gat encWinR s.Wins.xs i).Tree.xs s.W s.H)) && hasI (panesL (gat encWinR s.Wins.xs i).Tree.xs) (gat encWinR s.Wins.xs i).Active) = true ∧ _
     grind
   have hk31 : (panesL (gat encWinR s.Wins.xs i).Tree.xs).length ≤ 31 := by
     have h1_ : (((decide (1 ≤ (gat encWinR s.Wins.xs i).Id) && decide ((gat encWinR s.Wins.xs i).Id < s.Next)) && (wordOk (gat encWinR s.Wins.xs i).Name && placesOk (gat encWinR s.Wins.xs i).Tree.xs s.W s.H)) && hasI (panesL (gat encWinR s.Wins.xs i).Tree.xs) (gat encWinR s.Wins.xs i).Active) = true := hgood.1
     simp only [Bool.and_eq_true, placesOk, sidesOk] at h1_
     have h2_ := treeOk_len h1_.1.2.2.1.1.1
     have h3_ := panesL_len (gat encWinR s.Wins.xs i).Tree.xs
     omega
   refine WC.skip (hK31 _ _ (WC.region (WL.r 3 hs51 [0] rfl ?_)))
   refine WL.cl Tryz.call107 rfl (k84_ _ _ _ _ _ (SlF.st0 (SlN.nth f_s.Wins (by first | omega | (simp only [decide_eq_true_eq] at *; omega))).Tree hs51) ?_) ?_
   · first | assumption | rfl | omega
   rintro _ whs53 ⟨A54, c55, L1_56, rfl, hs53, ho57⟩
   replace hs53 := hs51.callF hs53
   refine ⟨_, rfl, ?_⟩
   replace hs53 := St.back [_, _] hs53
   refine WL.appendG (hs53.fr L17) ho18 (SlF.src (SlF.ofOwn ho57 (hs53.ow L1_56)) Tryz.underlying60) Tryz.underlying60 inf3 rfl rfl rfl rfl rfl rfl rfl rfl rfl rfl ?_ (fun A61 c62 L58 whs59 hs59 ho60 => ?_)
   · first | omega | (simp only [List.length_append, List.length_cons, List.length_nil]; omega)
   replace hs59 := St.back [_, _] hs59
   refine WL.r 1 hs59 [] rfl (WL.nil (hK22 _ _ (WC.region (WL.r 2 hs59 [] rfl (WL.nil (tkN ?_))))))
   replace hs59 := (((hs59.d1.rm L1_56).rm L1_49).rm L1_29)
   refine ⟨sbF rfl, _, (hs59.fr L58), _, ?_, _, i + 1, _, _, rfl, ?_, ?_, ?_, ?_, ho60, ⟨rfl, rfl, trivial⟩⟩
   · omega
   · omega
   · rw [treesL_snoc (by omega), p1]
   · rw [List.length_append]; omega
   · intro j hj; rcases Nat.lt_or_ge j i with h_ | h_
     · exact p3 j h_
     · obtain rfl : j = i := by omega
       exact hgood
  refine WH.takeSkip 14 rfl (by kernel_rfl) (wantNT rfl g38) rfl rfl hs33 (WH.takeSkip 15 rfl (by kernel_rfl) (wantNT rfl g38) rfl rfl hs33 (WH.takeSkip 16 rfl (by kernel_rfl) (wantNT rfl g38) rfl rfl hs33 (WH.takeSkip 17 rfl (by kernel_rfl) (wantNT rfl g38) rfl rfl hs33 (WH.takeSkip 18 rfl (by kernel_rfl) (wantNT rfl g38) rfl rfl hs33 (WH.takeSkip 19 rfl (by kernel_rfl) (wantNT rfl g38) rfl rfl hs33 (WH.takeSkip 20 rfl (by kernel_rfl) (wantNT rfl g38) rfl rfl hs33 (WH.takeSkip 21 rfl (by kernel_rfl) (wantNT rfl g38) rfl rfl hs33 ?_)))))))
  refine WH.takeSkip 22 rfl (by kernel_rfl) (wantNT rfl g38) rfl rfl hs33 (WH.takeSkip 23 rfl (by kernel_rfl) (wantNT rfl g38) rfl rfl hs33 ?_)
  refine WH.take 24 rfl (by kernel_rfl) (wantF rfl g36) rfl rfl hs33 (fun w_ hs_ => (Run.pickF rfl rfl g38 rfl)) ?_
  refine WH.take 25 rfl (by kernel_rfl) rfl rfl rfl hs33 (fun w_ hs_ => (Run.pick rfl rfl rfl rfl)) ?_
  refine WH.rn [26] hs33 [] rfl rfl (WH.split 57 rfl (fun g63 => ?_) (fun g63 => ?_))
  ·refine WH.takeSkip 27 rfl (by kernel_rfl) (wantNF rfl g63) rfl rfl hs33 (WH.takeSkip 28 rfl (by kernel_rfl) (wantNF rfl g63) rfl rfl hs33 (WH.o1 29 rfl (WL.skip (wantNF rfl g63) rfl rfl (WL.nil ⟨hs33, WH.takeSkip 30 rfl (by kernel_rfl) (wantNF rfl g63) rfl rfl hs33 ?_⟩))))
   refine WH.take 31 rfl (by kernel_rfl) rfl rfl rfl hs33 (fun w_ hs_ => (Run.pickT rfl rfl g63 rfl)) ?_
   refine WH.rn [32] hs33 [] rfl rfl (WH.takeSkip 33 rfl (by kernel_rfl) (wantNF rfl rfl) rfl rfl hs33 (WH.takeSkip 34 rfl (by kernel_rfl) (wantNF rfl rfl) rfl rfl hs33 ?_))
   refine WH.take 35 rfl (by kernel_rfl) rfl rfl rfl hs33 (fun w_ hs_ => (Run.pickT rfl rfl rfl rfl)) ?_
   refine WH.rn [36] hs33 [] rfl rfl (WH.takeSkip 37 rfl (by kernel_rfl) (wantNF rfl rfl) rfl rfl hs33 (WH.takeSkip 38 rfl (by kernel_rfl) (wantNF rfl rfl) rfl rfl hs33 (WH.takeSkip 40 rfl (by kernel_rfl) (wantNF rfl rfl) rfl rfl hs33 (WH.takeSkip 41 rfl (by kernel_rfl) (wantNF rfl rfl) rfl rfl hs33 (WH.o1 39 rfl (WL.skip (wantNF rfl rfl) rfl rfl (WL.nil ⟨hs33, ?_⟩)))))))
   refine WH.o1 42 rfl (WL.skip (wantNF rfl rfl) rfl rfl (WL.nil ⟨hs33, WH.takeSkip 43 rfl (by kernel_rfl) (wantNF rfl rfl) rfl rfl hs33 ?_⟩))
   refine WH.take 44 rfl (by kernel_rfl) rfl rfl rfl hs33 (fun w_ hs_ => (Run.pickT rfl rfl rfl rfl)) ?_
   refine WH.dn (hK32 _ _ (WC.condT rfl rfl ?_))
   have hbad : winsC s.dat = false := winsI_no (i := i) (by omega) (by
     show (((decide (1 ≤ (gat encWinR s.Wins.xs i).Id) && decide ((gat encWinR s.Wins.xs i).Id < s.Next)) && (wordOk (gat encWinR s.Wins.xs i).Name && placesOk (gat encWinR s.Wins.xs i).Tree.xs s.W s.H)) && hasI (panesL (gat encWinR s.Wins.xs i).Tree.xs) (gat encWinR s.Wins.xs i).Active) = false ∨ _
     grind)
   have hbadI : winsOkI s.dat = false := by unfold winsOkI; rw [hbad, Bool.false_and]
   refine WC.r1 hs33 [] rfl (WC.ret (tkR (ibR (tkR (tkR (ibR (tkR ?_)))))))
   clear hK31 hK22 hK14
   refine rtv rfl rfl hs33 ?_
   first | rw [hbadI] | (rw [htr, hys]; unfold winsOkI perm1; rw [hWc, Bool.true_and]; congr 2; rw [decide_eq_decide]; omega)
  refine WH.rnA (Acts.nil.cons (j := 26) rfl g63) [27, 28] hs33 [0] rfl rfl (WH.o1 29 rfl (WL.call (wantF rfl g63) rfl rfl (Run.call Tryz.call123 rfl rfl rfl) (k140_ _ _ ?_) ?_))
  · first | assumption | rfl | omega
  rintro _ whs65 ⟨rfl, hs65⟩
  replace hs65 := hs33.call0 hs65
  refine ⟨_, rfl, WL.nil ⟨hs65, WH.rnA (Acts.nil.cons (j := 26) rfl g63) [30] hs65 [] rfl rfl ?_⟩⟩
  refine WH.take 31 rfl (by kernel_rfl) rfl rfl rfl hs65 (fun w_ hs_ => (Run.pick rfl rfl rfl rfl)) ?_
  refine WH.rn [32] hs65 [] rfl rfl (WH.split 63 rfl (fun g66 => ?_) (fun g66 => ?_))
  ·refine WH.takeSkip 33 rfl (by kernel_rfl) (wantNF rfl g66) rfl rfl hs65 (WH.takeSkip 34 rfl (by kernel_rfl) (wantNF rfl g66) rfl rfl hs65 ?_)
   refine WH.take 35 rfl (by kernel_rfl) rfl rfl rfl hs65 (fun w_ hs_ => (Run.pickT rfl rfl g66 rfl)) ?_
   refine WH.rn [36] hs65 [] rfl rfl (WH.takeSkip 37 rfl (by kernel_rfl) (wantNF rfl rfl) rfl rfl hs65 (WH.takeSkip 38 rfl (by kernel_rfl) (wantNF rfl rfl) rfl rfl hs65 (WH.takeSkip 40 rfl (by kernel_rfl) (wantNF rfl rfl) rfl rfl hs65 (WH.takeSkip 41 rfl (by kernel_rfl) (wantNF rfl rfl) rfl rfl hs65 (WH.o1 39 rfl (WL.skip (wantNF rfl rfl) rfl rfl (WL.nil ⟨hs65, ?_⟩)))))))
   refine WH.o1 42 rfl (WL.skip (wantNF rfl rfl) rfl rfl (WL.nil ⟨hs65, WH.takeSkip 43 rfl (by kernel_rfl) (wantNF rfl rfl) rfl rfl hs65 ?_⟩))
   refine WH.take 44 rfl (by kernel_rfl) rfl rfl rfl hs65 (fun w_ hs_ => (Run.pickT rfl rfl rfl rfl)) ?_
   refine WH.dn (hK32 _ _ (WC.condT rfl rfl ?_))
   have hbad : winsC s.dat = false := winsI_no (i := i) (by omega) (by
     show (((decide (1 ≤ (gat encWinR s.Wins.xs i).Id) && decide ((gat encWinR s.Wins.xs i).Id < s.Next)) && (wordOk (gat encWinR s.Wins.xs i).Name && placesOk (gat encWinR s.Wins.xs i).Tree.xs s.W s.H)) && hasI (panesL (gat encWinR s.Wins.xs i).Tree.xs) (gat encWinR s.Wins.xs i).Active) = false ∨ _
     grind)
   have hbadI : winsOkI s.dat = false := by unfold winsOkI; rw [hbad, Bool.false_and]
   refine WC.r1 hs65 [] rfl (WC.ret (tkR (ibR (tkR (tkR (ibR (tkR ?_)))))))
   clear hK31 hK22 hK14
   refine rtv rfl rfl hs65 ?_
   first | rw [hbadI] | (rw [htr, hys]; unfold winsOkI perm1; rw [hWc, Bool.true_and]; congr 2; rw [decide_eq_decide]; omega)
  refine WH.rnA (Acts.nil.cons (j := 32) rfl g66) [33, 34] hs65 [] rfl rfl ?_
  refine WH.take 35 rfl (by kernel_rfl) rfl rfl rfl hs65 (fun w_ hs_ => (Run.pick rfl rfl rfl rfl)) ?_
  refine WH.rn [36] hs65 [] rfl rfl (WH.split 67 rfl (fun g68 => ?_) (fun g68 => ?_))
  ·refine WH.takeSkip 37 rfl (by kernel_rfl) (wantNF rfl g68) rfl rfl hs65 (WH.takeSkip 38 rfl (by kernel_rfl) (wantNF rfl g68) rfl rfl hs65 (WH.takeSkip 40 rfl (by kernel_rfl) (wantNF rfl g68) rfl rfl hs65 (WH.takeSkip 41 rfl (by kernel_rfl) (wantNF rfl g68) rfl rfl hs65 (WH.o1 39 rfl (WL.skip (wantNF rfl g68) rfl rfl (WL.nil ⟨hs65, WH.o1 42 rfl ?_⟩))))))
   refine WL.skip (wantNF rfl g68) rfl rfl (WL.nil ⟨hs65, WH.takeSkip 43 rfl (by kernel_rfl) (wantNF rfl g68) rfl rfl hs65 ?_⟩)
   refine WH.take 44 rfl (by kernel_rfl) rfl rfl rfl hs65 (fun w_ hs_ => (Run.pickT rfl rfl g68 rfl)) ?_
   refine WH.dn (hK32 _ _ (WC.condT rfl rfl ?_))
   have hbad : winsC s.dat = false := winsI_no (i := i) (by omega) (by
     show (((decide (1 ≤ (gat encWinR s.Wins.xs i).Id) && decide ((gat encWinR s.Wins.xs i).Id < s.Next)) && (wordOk (gat encWinR s.Wins.xs i).Name && placesOk (gat encWinR s.Wins.xs i).Tree.xs s.W s.H)) && hasI (panesL (gat encWinR s.Wins.xs i).Tree.xs) (gat encWinR s.Wins.xs i).Active) = false ∨ _
     grind)
   have hbadI : winsOkI s.dat = false := by unfold winsOkI; rw [hbad, Bool.false_and]
   refine WC.r1 hs65 [] rfl (WC.ret (tkR (ibR (tkR (tkR (ibR (tkR ?_)))))))
   clear hK31 hK22 hK14
   refine rtv rfl rfl hs65 ?_
   first | rw [hbadI] | (rw [htr, hys]; unfold winsOkI perm1; rw [hWc, Bool.true_and]; congr 2; rw [decide_eq_decide]; omega)
  refine WH.rnA (Acts.nil.cons (j := 36) rfl g68) [37, 38, 40, 41] hs65 [0, 0] rfl rfl (WH.o1 39 rfl ?_)
  refine WL.call (wantF rfl g68) rfl rfl (Run.call Tryz.call107 rfl rfl rfl) (k84_ _ _ _ _ _ (SlF.st0 (SlN.nth f_s.Wins (by first | omega | (simp only [decide_eq_true_eq] at *; omega))).Tree hs65) ?_) ?_
  · first | assumption | rfl | omega
  rintro _ whs70 ⟨A71, c72, L1_73, rfl, hs70, ho74⟩
  replace hs70 := hs65.callF hs70
  refine ⟨_, rfl, ?_⟩
  replace hs70 := St.back [_, _] hs70
  refine WL.nil ⟨(hs70.rm L1_73), WH.o1 42 rfl (WL.call (wantF rfl g68) rfl rfl (Run.call Tryz.call46 rfl rfl rfl) (k88_ _ _ _ _ _ _ (SlF.ofOwn ho74 (hs70.ow L1_73)) ?_) ?_)⟩
  · first | assumption | rfl | omega
  rintro _ whs75 ⟨rfl, hs75⟩
  replace hs75 := hs70.call0 hs75
  refine ⟨_, rfl, WL.nil ⟨(hs75.rm L1_73), WH.rnA (Acts.nil.cons (j := 36) rfl g68) [43] (hs75.rm L1_73) [] rfl rfl ?_⟩⟩
  refine WH.take 44 rfl (by kernel_rfl) rfl rfl rfl (hs75.rm L1_73) (fun w_ hs_ => (Run.pick rfl rfl rfl rfl)) ?_
  refine WH.dn (hK32 _ _ ?_)
  refine WC.cq rfl (fun h76 qh76 => ?_) (fun h76 qh76 => ?_)
  ·have hbad : winsC s.dat = false := winsI_no (i := i) (by omega) (by
     show (((decide (1 ≤ (gat encWinR s.Wins.xs i).Id) && decide ((gat encWinR s.Wins.xs i).Id < s.Next)) && (wordOk (gat encWinR s.Wins.xs i).Name && placesOk (gat encWinR s.Wins.xs i).Tree.xs s.W s.H)) && hasI (panesL (gat encWinR s.Wins.xs i).Tree.xs) (gat encWinR s.Wins.xs i).Active) = false ∨ _
     grind)
   have hbadI : winsOkI s.dat = false := by unfold winsOkI; rw [hbad, Bool.false_and]
   refine WC.r1 hs75 [] rfl (WC.ret (tkR (ibR (tkR (tkR (ibR (tkR ?_)))))))
   clear hK31 hK22 hK14
   refine rtv rfl rfl hs75 ?_
   first | rw [hbadI] | (rw [htr, hys]; unfold winsOkI perm1; rw [hWc, Bool.true_and]; congr 2; rw [decide_eq_decide]; omega)
  have hgood : winB s.dat (gat encWinR s.Wins.xs i).dat = true ∧ (0 < i → (gat encWinR s.Wins.xs (i - 1)).Id < (gat encWinR s.Wins.xs i).Id) := by
    show (((decide (1 ≤ (gat encWinR s.Wins.xs i).Id) && decide ((gat encWinR s.Wins.xs i).Id < s.Next)) && (wordOk (gat encWinR s.Wins.xs i).Name && placesOk (gat encWinR s.Wins.xs i).Tree.xs s.W s.H)) && hasI (panesL (gat encWinR s.Wins.xs i).Tree.xs) (gat encWinR s.Wins.xs i).Active) = true ∧ _
    grind
  have hk31 : (panesL (gat encWinR s.Wins.xs i).Tree.xs).length ≤ 31 := by
    have h1_ : (((decide (1 ≤ (gat encWinR s.Wins.xs i).Id) && decide ((gat encWinR s.Wins.xs i).Id < s.Next)) && (wordOk (gat encWinR s.Wins.xs i).Name && placesOk (gat encWinR s.Wins.xs i).Tree.xs s.W s.H)) && hasI (panesL (gat encWinR s.Wins.xs i).Tree.xs) (gat encWinR s.Wins.xs i).Active) = true := hgood.1
    simp only [Bool.and_eq_true, placesOk, sidesOk] at h1_
    have h2_ := treeOk_len h1_.1.2.2.1.1.1
    have h3_ := panesL_len (gat encWinR s.Wins.xs i).Tree.xs
    omega
  refine WC.skip (hK31 _ _ (WC.region (WL.r 3 hs75 [0] rfl ?_)))
  refine WL.cl Tryz.call107 rfl (k84_ _ _ _ _ _ (SlF.st0 (SlN.nth f_s.Wins (by first | omega | (simp only [decide_eq_true_eq] at *; omega))).Tree hs75) ?_) ?_
  · first | assumption | rfl | omega
  rintro _ whs77 ⟨A78, c79, L1_80, rfl, hs77, ho81⟩
  replace hs77 := hs75.callF hs77
  refine ⟨_, rfl, ?_⟩
  replace hs77 := St.back [_, _] hs77
  refine WL.appendG (hs77.fr L17) ho18 (SlF.src (SlF.ofOwn ho81 (hs77.ow L1_80)) Tryz.underlying60) Tryz.underlying60 inf3 rfl rfl rfl rfl rfl rfl rfl rfl rfl rfl ?_ (fun A85 c86 L82 whs83 hs83 ho84 => ?_)
  · first | omega | (simp only [List.length_append, List.length_cons, List.length_nil]; omega)
  replace hs83 := St.back [_, _] hs83
  refine WL.r 1 hs83 [] rfl (WL.nil (hK22 _ _ (WC.region (WL.r 2 hs83 [] rfl (WL.nil (tkN ?_))))))
  replace hs83 := (((hs83.d1.rm L1_80).rm L1_73).rm L1_29)
  refine ⟨sbF rfl, _, (hs83.fr L82), _, ?_, _, i + 1, _, _, rfl, ?_, ?_, ?_, ?_, ho84, ⟨rfl, rfl, trivial⟩⟩
  · omega
  · omega
  · rw [treesL_snoc (by omega), p1]
  · rw [List.length_append]; omega
  · intro j hj; rcases Nat.lt_or_ge j i with h_ | h_
    · exact p3 j h_
    · obtain rfl : j = i := by omega
      exact hgood
 have hWc : winsC s.dat = true := winsC_iff.2 fun j hj => p3 j (by omega)
 have htr : zs = treesL s.dat.Wins := by rw [p1, List.take_of_length_le (by omega)]; rfl
 refine WC.exit (hK14 _ _ (WC.seq (fun K87 hK87 => WC.r1 hs19 [0] rfl (WC.block ?_))))
 refine WC.lO [1, 3, 17, 83, 84] rfl (hs19.fr L9) (fun k_ f L_ => ∃ (ys : List Int) (j : Nat) (A88 : Option Addr) (c89 : Nat), k_ = s.Panes.n - j ∧ (j ≤ s.Panes.n) ∧ (ys = (s.Panes.xs.take j).map (·.Id)) ∧ (ys.length ≤ j) ∧ OwnF encI 3 (.slice A88 (ys.length) c89) (ys) L_ ∧ Sub [(4, .slice A88 (ys.length) c89), (85, .int .i64 j)] f) (((fun (ys : List Int) (j : Nat) => s.Panes.n - j) ([]) (0))) ?_ ?_
 ·refine ⟨[], 0, _, _, rfl, ?_, ?_, ?_, ho11, ⟨rfl, rfl, trivial⟩⟩
  · exact Nat.zero_le _
  · rfl
  · exact Nat.le_refl _
 clear hs19
 rintro _ f w L90 ⟨ys, j, A88, c89, rfl, r0, r1, r2, ho91, hG⟩ hF hs92
 refine WC.sub _ (hG.app hF) ?_
 clear hG hF
 replace hs92 := St.back [_] hs92
 refine WC.r1 hs92 [] rfl (WC.seq (fun K93 hK93 => ?_))
 refine WC.cq rfl (fun h94 qh94 => ?_) (fun h94 qh94 => ?_)
 ·refine WC.skip (hK93 _ _ (WC.seq (fun K95 hK95 => WC.block (WC.sr ?_))))
  refine WL.val rfl rfl rfl (Run.idxN Tryz.runUnderlying29 Tryz.sizeOf93 rfl rfl rfl ?_ ?_ ?_) ?_
  · exact SlF.some_ (SlF.st0 f_s.Panes.sl hs92)
  · first | omega | (simp only [decide_eq_true_eq] at *; omega)
  · first | omega | (simp only [decide_eq_true_eq] at *; omega)
  refine WL.val rfl rfl rfl (Run.loadA Tryz.isAgg93 Tryz.sizeOf93 rfl rfl (SlF.whole (SlF.st0 f_s.Panes.sl hs92) ?_)) ?_
  · first | omega | (simp only [decide_eq_true_eq] at *; omega)
  refine WL.al hs92 Tryz.zeroValue93 rfl rfl (fun b96 _ hs97 => WL.st tbk hs97 0 rfl rfl (fun _ hs98 => WL.nil (WC.region (WL.r 3 hs98 [0] rfl (WL.buildSlice hs98 Tryz.runUnderlying60 Tryz.sizeOf3 Tryz.zeroValue3 rfl rfl rfl rfl rfl rfl rfl rfl rfl rfl (fun b99 whs100 hs100 => ?_))))))
  refine WL.appendG (hs100.fr L90) ho91 (srcI1 Tryz.underlying60 (hs100.own _ (nthL_mem (i := 0) rfl)).1) Tryz.underlying60 inf3 rfl rfl rfl rfl rfl rfl rfl rfl rfl rfl ?_ (fun A104 c105 L101 whs102 hs102 ho103 => ?_)
  · first | omega | (simp only [List.length_append, List.length_cons, List.length_nil]; omega)
  replace hs102 := St.back [_, _, _] hs102
  refine WL.r 1 hs102 [] rfl (WL.nil (hK95 _ _ (WC.region (WL.r 2 hs102 [] rfl (WL.nil (tkN ?_))))))
  replace hs102 := hs102.d1.d1
  refine ⟨sbF rfl, _, (hs102.fr L101), _, ?_, _, j + 1, _, _, rfl, ?_, ?_, ?_, ho103, ⟨rfl, rfl, trivial⟩⟩
  · omega
  · omega
  · rw [ids_take (F := encPaneR) (by omega), r1]
  · rw [List.length_append]; simp only [List.length_cons, List.length_nil]; omega
 have hys : ys = pIds s.dat := by rw [r1, List.take_of_length_le (by omega), pIds_R]
 refine WC.exit (hK87 _ _ (WC.sr (WL.r 5 hs92 [0] rfl ?_)))
 apply WL.gA 3 Acts.nil hs92 rfl
 ·intro g106 J107
  have qg106 := g106
  try simp only [bf, within_iff, within_not] at qg106
  refine WL.runA tbk 2 (Acts.nil.cons (j := 4) rfl g106) hs92 [] rfl trivial (WL.call (wantT rfl g106) rfl rfl (Run.call Tryz.call124 rfl rfl rfl) (k136_ _ _ _ _ _ _ _ _ _ (SlF.ofOwn ho18 (hs92.ow L17)) (SlF.ofOwn ho91 (hs92.ow L90)) ?_ ?_) ?_)
  iterate 2 first | assumption | rfl | omega
  rintro _ whs108 ⟨rfl, hs108⟩
  replace hs108 := hs92.call0 hs108
  refine ⟨_, rfl, WL.eA 3 Acts.nil J107 hs108 g106 rfl rfl⟩
 intro _ hs109
 refine WL.r 1 hs109 [] rfl (WL.nil (WC.ret (rtv rfl rfl hs109 ?_)))
 first | rw [hbadI] | (rw [htr, hys]; unfold winsOkI perm1; rw [hWc, Bool.true_and]; congr 2; rw [decide_eq_decide]; omega)
set_option maxHeartbeats 4000000 in
theorem k143_ (s : StateR) (w : World) (f_s : okStateR 549755813888 w s) (hT : totState s.dat ≤ 1048576) :
    Calls Tryz.prog 62 #[.agg #[i64 s.W, i64 s.H, i64 s.Limit, i64 s.Next, .slice s.Panes.A s.Panes.n s.Panes.c, .slice s.Wins.A s.Wins.n s.Wins.c, .slice s.Sess.A s.Sess.n s.Sess.c]] w fun e w' => e = .returned (.bool (sessOkI s.dat)) ∧ St w [] [] w' := by
 have nb_s_Panes := f_s.Panes_n
 have nl_s_Panes := f_s.Panes.sl.len
 have nb_s_Wins := f_s.Wins_n
 have nl_s_Wins := f_s.Wins.sl.len
 have nb_s_Sess := f_s.Sess_n
 have nl_s_Sess := f_s.Sess.sl.len
 have hsm0 : smState 1048576 s.dat := totState_sm hT
 have hlP : s.dat.Panes.length = s.Panes.xs.length := List.length_map _
 have hlW : s.dat.Wins.length = s.Wins.xs.length := List.length_map _
 have hlS : s.dat.Sess.length = s.Sess.xs.length := List.length_map _
 have hnP : s.dat.Panes.length ≤ 1048576 := hsm0.1
 have hnW : s.dat.Wins.length ≤ 1048576 := hsm0.2.2.1
 have hnS : s.dat.Sess.length ≤ 1048576 := hsm0.2.2.2.2.1
 have hWn : ∀ y, y ∈ s.Wins.xs → y.Tree.n ≤ 1048576 := fun y hy => by have h1 := (f_s.Wins.all y hy).Tree.len; have h2 : y.Tree.xs.length ≤ 1048576 := (hsm0.2.2.2.1 _ (List.mem_map_of_mem hy)).2; omega
 have hSnm : ∀ y, y ∈ s.Sess.xs → y.Name.size ≤ 1048576 ∧ y.Wins.xs.length ≤ 1048576 := fun y hy => hsm0.2.2.2.2.2 _ (List.mem_map_of_mem hy)
 refine enter 66 Tryz.func62 rfl Tryz.ntmps62 rfl rfl ?_
 have hs1 := St.init w
 refine WC.sr (WL.bx hs1 rfl (fun b2 _ hs3 => WL.r 1 hs3 [] rfl (WL.nil (WC.sr (WL.buildF (F := encI) hs3 ([]) Tryz.runUnderlying60 Tryz.sizeOf3 Tryz.zeroValue3 rfl rfl rfl rfl rfl rfl rfl rfl rfl rfl rfl rfl (fun A7 c8 L4 whs5 hs5 ho6 => ?_))))))
 replace hs5 := St.back [_] hs5
 refine WL.buildF (F := encI) hs5 ([]) Tryz.runUnderlying60 Tryz.sizeOf3 Tryz.zeroValue3 rfl rfl rfl rfl rfl rfl rfl rfl rfl rfl rfl rfl (fun A12 c13 L9 whs10 hs10 ho11 => ?_)
 replace hs10 := St.back [_] hs10
 refine WL.r 2 hs10 [] rfl (WL.nil (WC.seq (fun K14 hK14 => WC.r1 hs10 [0] rfl (WC.block ?_))))
 refine WC.lO [1, 4, 12, 13] rfl (hs10.fr L4) (fun k_ f L_ => ∃ (zs : List Int) (i : Nat) (A15 : Option Addr) (c16 : Nat), k_ = s.Sess.n - i ∧ (i ≤ s.Sess.n) ∧ (zs = (sessL ((s.Sess.xs.take (i)).map SessR.dat))) ∧ (∀ j, j < i → sessB (gat encSessR s.Sess.xs j).dat = true ∧ findI (fun q : SessD => decide (q.Name = (gat encSessR s.Sess.xs j).Name)) s.dat.Sess = j) ∧ OwnF encI 3 (.slice A15 (zs.length) c16) (zs) L_ ∧ Sub [(3, .slice A15 (zs.length) c16), (14, .int .i64 i)] f) (((fun (zs : List Int) (i : Nat) => s.Sess.n - i) ([]) (0))) ?_ ?_
 ·refine ⟨[], 0, _, _, rfl, ?_, ?_, ?_, ho6, ⟨rfl, rfl, trivial⟩⟩
  · exact Nat.zero_le _
  · rfl
  · exact fun j hj => absurd hj (by omega)
 clear hs10
 rintro _ f w L17 ⟨zs, i, A15, c16, rfl, p0, p1, p2, ho18, hG⟩ hF hs19
 refine WC.sub _ (hG.app hF) ?_
 clear hG hF
 replace hs19 := St.back [_] hs19
 refine WC.r1 hs19 [] rfl (WC.seq (fun K20 hK20 => ?_))
 refine WC.cq rfl (fun h21 qh21 => ?_) (fun h21 qh21 => ?_)
 ·have hTm := (SlN.nth f_s.Sess (show i < s.Sess.n by omega))
  have hTl := hTm.Wins.len
  have hWi := hSnm (gat encSessR s.Sess.xs i) (gat_mem (by omega))
  have hzl := sessL_take_le (i := i) hT
  rw [← p1] at hzl
  have hzl2 := sessL_take_le (i := i + 1) hT
  rw [sessL_snoc (by omega), List.length_append, ← p1] at hzl2
  refine WC.skip (hK20 _ _ (WC.seq (fun K22 hK22 => WC.block (WC.sr (WL.r 1 hs19 [] rfl ?_)))))
  refine WL.val rfl rfl rfl (Run.idxN Tryz.runUnderlying31 Tryz.sizeOf106 rfl rfl rfl ?_ ?_ ?_) ?_
  · exact SlF.some_ (SlF.st0 f_s.Sess.sl hs19)
  · first | omega | (simp only [decide_eq_true_eq] at *; omega)
  · first | omega | (simp only [decide_eq_true_eq] at *; omega)
  refine WL.val rfl rfl rfl (Run.loadA Tryz.isAgg106 Tryz.sizeOf106 rfl rfl (SlF.whole (SlF.st0 f_s.Sess.sl hs19) ?_)) ?_
  · first | omega | (simp only [decide_eq_true_eq] at *; omega)
  refine WL.al hs19 Tryz.zeroValue106 rfl rfl (fun b23 _ hs24 => WL.r 1 hs24 [] rfl (WL.st tbk hs24 0 rfl rfl (fun _ hs25 => WL.nil (WC.seq (fun K26 hK26 => WC.sr (WL.r 2 hs25 [0] rfl ?_))))))
  refine WL.cl Tryz.call123 rfl (k140_ _ _ ?_) ?_
  · first | assumption | rfl | omega | (rw [p1]; omega)
  rintro _ whs27 ⟨rfl, hs27⟩
  replace hs27 := hs25.call0 hs27
  refine ⟨_, rfl, WL.r 2 hs27 [] rfl ?_⟩
  apply WL.gO 6 Acts.nil hs27 rfl
  ·intro g28 J29
   have qg28 := g28
   try simp only [bf, within_iff, within_not] at qg28
   refine WL.runA tbk 3 (Acts.nil.cons (j := 4) rfl g28) hs27 [1, 0] rfl ⟨rfl, rfl, trivial⟩ (WL.call (wantF rfl g28) rfl rfl (Run.call Tryz.call125 rfl rfl rfl) (k126_ s _ _ (okStateR.st0 f_s hs27)) ?_)
   rintro _ whs30 ⟨rfl, hs30⟩
   replace hs30 := hs27.call0 hs30
   refine ⟨_, rfl, WL.runA tbk 2 (Acts.nil.cons (j := 4) rfl g28) hs30 [] rfl trivial (WL.eO 6 Acts.nil J29 hs30 g28 rfl rfl)⟩
  intro _ hs31
  refine WL.r 1 hs31 [] rfl ?_
  apply WL.gO 6 Acts.nil hs31 rfl
  ·intro g32 J33
   have qg32 := g32
   try simp only [bf, within_iff, within_not] at qg32
   refine WL.runA tbk 4 (Acts.nil.cons (j := 12) rfl g32) hs31 [0, 0] rfl ⟨rfl, rfl, trivial⟩ ?_
   refine WL.call (wantF rfl g32) rfl rfl (Run.call Tryz.call46 rfl rfl rfl) (k88_ _ _ _ _ _ _ (SlF.st0 (SlN.nth f_s.Sess (by first | omega | (simp only [decide_eq_true_eq] at *; omega))).Wins hs31) ?_) ?_
   · first | assumption | rfl | omega | (rw [p1]; omega)
   rintro _ whs34 ⟨rfl, hs34⟩
   replace hs34 := hs31.call0 hs34
   refine ⟨_, rfl, WL.runA tbk 1 (Acts.nil.cons (j := 12) rfl g32) hs34 [] rfl trivial (WL.eO 6 Acts.nil J33 hs34 g32 rfl rfl)⟩
  intro _ hs35
  refine WL.nil (WC.cq rfl (fun h36 qh36 => ?_) (fun h36 qh36 => ?_))
  ·have hbad : sessC s.dat = false := sessC_no (i := i) (by omega) (by
     show (wordOk (gat encSessR s.Sess.xs i).Name && hasI (gat encSessR s.Sess.xs i).Wins.xs (gat encSessR s.Sess.xs i).Active) = false ∨ _
     grind)
   have hbadI : sessOkI s.dat = false := by unfold sessOkI; rw [hbad, Bool.false_and]
   refine WC.r1 hs35 [] rfl (WC.ret (tkR (ibR (tkR (tkR (ibR (tkR ?_)))))))
   clear hK26 hK22 hK14
   refine rtv rfl rfl hs35 ?_
   first | rw [hbadI] | (rw [htr, hys]; unfold sessOkI perm2; rw [hWc, Bool.true_and]; congr 2; rw [decide_eq_decide]; omega)
  have hgood : sessB (gat encSessR s.Sess.xs i).dat = true ∧ findI (fun q : SessD => decide (q.Name = (gat encSessR s.Sess.xs i).Name)) s.dat.Sess = i := by
    show (wordOk (gat encSessR s.Sess.xs i).Name && hasI (gat encSessR s.Sess.xs i).Wins.xs (gat encSessR s.Sess.xs i).Active) = true ∧ _
    grind
  refine WC.skip (hK26 _ _ (WC.region (WL.r 3 hs35 [0] rfl ?_)))
  refine WL.appendG (hs35.fr L17) ho18 (SlF.src (SlF.st0 (SlN.nth f_s.Sess (by first | omega | (simp only [decide_eq_true_eq] at *; omega))).Wins hs35) Tryz.underlying60) Tryz.underlying60 inf3 rfl rfl rfl rfl rfl rfl rfl rfl rfl rfl ?_ (fun A40 c41 L37 whs38 hs38 ho39 => ?_)
  · first | omega | (simp only [List.length_append, List.length_cons, List.length_nil]; omega)
  replace hs38 := St.back [_, _] hs38
  refine WL.r 1 hs38 [] rfl (WL.nil (hK22 _ _ (WC.region (WL.r 2 hs38 [] rfl (WL.nil (tkN ?_))))))
  replace hs38 := hs38.d1
  refine ⟨sbF rfl, _, (hs38.fr L37), _, ?_, _, i + 1, _, _, rfl, ?_, ?_, ?_, ho39, ⟨rfl, rfl, trivial⟩⟩
  · omega
  · omega
  · rw [sessL_snoc (by omega), p1]
  · intro j hj; rcases Nat.lt_or_ge j i with h_ | h_
    · exact p2 j h_
    · obtain rfl : j = i := by omega
      exact hgood
 have hWc : sessC s.dat = true := sessC_yes fun j hj => p2 j (by omega)
 have htr : zs = sessL s.dat.Sess := by rw [p1, List.take_of_length_le (by omega)]; rfl
 refine WC.exit (hK14 _ _ (WC.seq (fun K42 hK42 => WC.r1 hs19 [0] rfl (WC.block ?_))))
 refine WC.lO [1, 3, 15, 45, 46] rfl (hs19.fr L9) (fun k_ f L_ => ∃ (ys : List Int) (j : Nat) (A43 : Option Addr) (c44 : Nat), k_ = s.Wins.n - j ∧ (j ≤ s.Wins.n) ∧ (ys = (s.Wins.xs.take j).map (·.Id)) ∧ (ys.length ≤ j) ∧ OwnF encI 3 (.slice A43 (ys.length) c44) (ys) L_ ∧ Sub [(4, .slice A43 (ys.length) c44), (47, .int .i64 j)] f) (((fun (ys : List Int) (j : Nat) => s.Wins.n - j) ([]) (0))) ?_ ?_
 ·refine ⟨[], 0, _, _, rfl, ?_, ?_, ?_, ho11, ⟨rfl, rfl, trivial⟩⟩
  · exact Nat.zero_le _
  · rfl
  · exact Nat.le_refl _
 clear hs19
 rintro _ f w L45 ⟨ys, j, A43, c44, rfl, r0, r1, r2, ho46, hG⟩ hF hs47
 refine WC.sub _ (hG.app hF) ?_
 clear hG hF
 replace hs47 := St.back [_] hs47
 refine WC.r1 hs47 [] rfl (WC.seq (fun K48 hK48 => ?_))
 refine WC.cq rfl (fun h49 qh49 => ?_) (fun h49 qh49 => ?_)
 ·refine WC.skip (hK48 _ _ (WC.seq (fun K50 hK50 => WC.block (WC.sr ?_))))
  refine WL.val rfl rfl rfl (Run.idxN Tryz.runUnderlying30 Tryz.sizeOf58 rfl rfl rfl ?_ ?_ ?_) ?_
  · exact SlF.some_ (SlF.st0 f_s.Wins.sl hs47)
  · first | omega | (simp only [decide_eq_true_eq] at *; omega)
  · first | omega | (simp only [decide_eq_true_eq] at *; omega)
  refine WL.val rfl rfl rfl (Run.loadA Tryz.isAgg58 Tryz.sizeOf58 rfl rfl (SlF.whole (SlF.st0 f_s.Wins.sl hs47) ?_)) ?_
  · first | omega | (simp only [decide_eq_true_eq] at *; omega)
  refine WL.al hs47 Tryz.zeroValue58 rfl rfl (fun b51 _ hs52 => WL.st tbk hs52 0 rfl rfl (fun _ hs53 => WL.nil (WC.region (WL.r 3 hs53 [0] rfl (WL.buildSlice hs53 Tryz.runUnderlying60 Tryz.sizeOf3 Tryz.zeroValue3 rfl rfl rfl rfl rfl rfl rfl rfl rfl rfl (fun b54 whs55 hs55 => ?_))))))
  refine WL.appendG (hs55.fr L45) ho46 (srcI1 Tryz.underlying60 (hs55.own _ (nthL_mem (i := 0) rfl)).1) Tryz.underlying60 inf3 rfl rfl rfl rfl rfl rfl rfl rfl rfl rfl ?_ (fun A59 c60 L56 whs57 hs57 ho58 => ?_)
  · first | omega | (simp only [List.length_append, List.length_cons, List.length_nil]; omega)
  replace hs57 := St.back [_, _, _] hs57
  refine WL.r 1 hs57 [] rfl (WL.nil (hK50 _ _ (WC.region (WL.r 2 hs57 [] rfl (WL.nil (tkN ?_))))))
  replace hs57 := hs57.d1.d1
  refine ⟨sbF rfl, _, (hs57.fr L56), _, ?_, _, j + 1, _, _, rfl, ?_, ?_, ?_, ho58, ⟨rfl, rfl, trivial⟩⟩
  · omega
  · omega
  · rw [ids_take (F := encWinR) (by omega), r1]
  · rw [List.length_append]; simp only [List.length_cons, List.length_nil]; omega
 have hys : ys = wIds s.dat := by rw [r1, List.take_of_length_le (by omega), wIds_R]
 have hzl := sessL_take_le (i := i) hT
 refine WC.exit (hK42 _ _ (WC.sr (WL.r 5 hs47 [0] rfl ?_)))
 apply WL.gA 3 Acts.nil hs47 rfl
 ·intro g61 J62
  have qg61 := g61
  try simp only [bf, within_iff, within_not] at qg61
  refine WL.runA tbk 2 (Acts.nil.cons (j := 4) rfl g61) hs47 [] rfl trivial (WL.call (wantT rfl g61) rfl rfl (Run.call Tryz.call124 rfl rfl rfl) (k136_ _ _ _ _ _ _ _ _ _ (SlF.ofOwn ho18 (hs47.ow L17)) (SlF.ofOwn ho46 (hs47.ow L45)) ?_ ?_) ?_)
  iterate 2 first | assumption | rfl | omega | (rw [p1]; omega)
  rintro _ whs63 ⟨rfl, hs63⟩
  replace hs63 := hs47.call0 hs63
  refine ⟨_, rfl, WL.eA 3 Acts.nil J62 hs63 g61 rfl rfl⟩
 intro _ hs64
 refine WL.r 1 hs64 [] rfl (WL.nil (WC.ret (rtv rfl rfl hs64 ?_)))
 first | rw [hbadI] | (rw [htr, hys]; unfold sessOkI perm2; rw [hWc, Bool.true_and]; congr 2; rw [decide_eq_decide]; omega)
theorem k144_ (q : PaneR) (b_s : Nat) (s : StateR) (w : World) (f_q : okPaneR 549755813888 w q) (f_b : SlF encStateR w (some ⟨b_s, 0, none⟩) 1 [s]) (f_s : okStateR 549755813888 w s) (hT : totState s.dat ≤ 1048576) :
    Calls Tryz.prog 64 #[.agg #[i64 q.Id, .string q.Cmd, .string q.Dir, i64 q.Life, i64 q.Code, i64 q.Pid, i64 q.Term.P.State, .bool q.Term.P.Mark, .slice q.Term.P.Args.A q.Term.P.Args.n q.Term.P.Args.c, .slice q.Term.P.Part.A q.Term.P.Part.n q.Term.P.Part.c, i64 q.Term.S.W, i64 q.Term.S.H, i64 q.Term.S.Main.W, i64 q.Term.S.Main.H, .slice q.Term.S.Main.Cells.A q.Term.S.Main.Cells.n q.Term.S.Main.Cells.c, i64 q.Term.S.Alt.W, i64 q.Term.S.Alt.H, .slice q.Term.S.Alt.Cells.A q.Term.S.Alt.Cells.n q.Term.S.Alt.Cells.c, .bool q.Term.S.OnAlt, i64 q.Term.S.X, i64 q.Term.S.Y, .bool q.Term.S.Wrap, i64 q.Term.S.A.Fg, i64 q.Term.S.A.Bg, .bool q.Term.S.A.Bold, .bool q.Term.S.A.Under, .bool q.Term.S.A.Turn, i64 q.Term.S.Top, i64 q.Term.S.Bot, .bool q.Term.S.NoWrap, .bool q.Term.S.Hide, i64 q.Term.S.SaveX, i64 q.Term.S.SaveY, i64 q.Term.S.SaveA.Fg, i64 q.Term.S.SaveA.Bg, .bool q.Term.S.SaveA.Bold, .bool q.Term.S.SaveA.Under, .bool q.Term.S.SaveA.Turn, .slice q.Term.S.Tabs.A q.Term.S.Tabs.n q.Term.S.Tabs.c, i64 q.Term.S.Limit, .slice q.Term.S.Back.A q.Term.S.Back.n q.Term.S.Back.c], .pointer (some ⟨b_s, 0, none⟩)] w fun e w' => e = .returned (.bool (!areaB s.dat q.dat)) ∧ St w [] [] w' := by
 have nz_q_Cmd := f_q.Cmd_z
 have nz_q_Dir := f_q.Dir_z
 have nb_q_Term_P_Args := f_q.Term.P.Args_n
 have nl_q_Term_P_Args := f_q.Term.P.Args.len
 have nb_q_Term_P_Part := f_q.Term.P.Part_n
 have nl_q_Term_P_Part := f_q.Term.P.Part.len
 have nb_q_Term_S_Main_Cells := f_q.Term.S.Main.Cells_n
 have nl_q_Term_S_Main_Cells := f_q.Term.S.Main.Cells.len
 have nb_q_Term_S_Alt_Cells := f_q.Term.S.Alt.Cells_n
 have nl_q_Term_S_Alt_Cells := f_q.Term.S.Alt.Cells.len
 have nb_q_Term_S_Tabs := f_q.Term.S.Tabs_n
 have nl_q_Term_S_Tabs := f_q.Term.S.Tabs.len
 have nb_q_Term_S_Back := f_q.Term.S.Back_n
 have nl_q_Term_S_Back := f_q.Term.S.Back.sl.len
 refine enter 27 Tryz.func64 rfl Tryz.ntmps64 rfl rfl ?_
 have hs1 := St.init w
 refine WC.sr (WL.bx hs1 rfl (fun b2 _ hs3 => WL.r 1 hs3 [] rfl (WL.nil (WC.sr (WL.val rfl rfl rfl (Run.loadA Tryz.isAgg33 Tryz.sizeOf33 rfl rfl (SlF.varA (SlF.st0 f_b hs3))) (WL.r 2 hs3 [0] rfl ?_))))))
 refine WL.cl Tryz.call17 rfl (k117_ s _ _ (okStateR.st0 f_s hs3) ?_) ?_
 · first | assumption | rfl | omega
 rintro _ whs4 ⟨rfl, hs4⟩
 replace hs4 := hs3.call0 hs4
 refine ⟨_, rfl, WL.r 5 hs4 [] rfl (WL.nil (WC.sr (WL.r 7 hs4 [0] rfl (WL.pO tbk 6 Acts.nil hs4 [0] rfl rfl rfl rfl (fun g_ => ⟨rfl, trivial⟩) (WL.r 1 hs4 [] rfl (WL.nil ?_))))))⟩
 refine WC.ret (retV1 rfl (resV.tmp rfl) (⟨congrArg Ending.returned (congrArg Value.bool ?_), hs4.nil⟩))
 show _ = !decide (areaD s.dat q.Id = (q.Term.S.W, q.Term.S.H))
 rw [Bool.eq_iff_iff]; simp [Prod.ext_iff]; grind
theorem k145_ (A_s_ : Option Addr) (n_s_ c_s_ : Nat) (s_ : List PaneR) (b_s : Nat) (s : StateR) (w : World) (f_s_ : SlN encPaneR (okPaneR 549755813888) w A_s_ n_s_ s_) (f_b : SlF encStateR w (some ⟨b_s, 0, none⟩) 1 [s]) (f_s : okStateR 549755813888 w s) (hn : n_s_ ≤ 549755813888) (hT : totState s.dat ≤ 1048576) :
    Calls Tryz.prog 126 #[.slice A_s_ n_s_ c_s_, .func (.func 64) #[] #[.pointer (some ⟨b_s, 0, none⟩)]] w fun e w' => e = .returned (.int .i64 (findI (fun q : PaneR => !areaB s.dat q.dat) s_)) ∧ St w [] [] w' := by
 have hsl := f_s_.sl.len
 refine enter 19 Tryz.func126 rfl Tryz.ntmps126 rfl rfl ?_
 have hs1 := St.init w
 refine WC.r1 hs1 [] rfl (WC.seq (fun K2 hK2 => WC.r1 hs1 [] rfl (WC.block ?_)))
 refine WC.lS [0, 1, 7] rfl hs1 (fun k_ f w' => ∃ (i : Nat), k_ = n_s_ - i ∧ (i ≤ n_s_) ∧ (∀ j, j < i → (fun q : PaneR => !areaB s.dat q.dat) (gat encPaneR s_ j) = false) ∧ Sub [(8, .int .i64 i)] f) ((fun (i : Nat) => n_s_ - i) (0)) ?_ ?_
 ·refine ⟨0, rfl, ?_, ?_, ⟨rfl, trivial⟩⟩
  · exact Nat.zero_le _
  · exact fun j hj => absurd hj (by omega)
 clear hs1
 rintro _ f w ⟨i, rfl, p0, p1, hG⟩ hF hs3
 refine WC.sub _ (hG.app hF) ?_
 clear hG hF
 refine WC.r1 hs3 [] rfl (WC.seq (fun K4 hK4 => ?_))
 refine WC.cq rfl (fun h5 qh5 => ?_) (fun h5 qh5 => ?_)
 ·refine WC.skip (hK4 _ _ (WC.seq (fun K6 hK6 => WC.block (WC.r1 hs3 [] rfl (WC.sr (WL.r 3 hs3 [] rfl ?_))))))
  refine WL.val rfl rfl rfl (Run.idxN Tryz.runUnderlying29 Tryz.sizeOf93 rfl rfl rfl ?_ ?_ ?_) ?_
  · exact SlF.some_ (SlF.st0 f_s_.sl hs3)
  · omega
  · omega
  refine WL.val rfl rfl rfl (Run.loadA Tryz.isAgg93 Tryz.sizeOf93 rfl rfl (SlF.whole (SlF.st0 f_s_.sl hs3) ?_)) ?_
  · omega
  refine WL.call rfl rfl rfl (Run.callC Tryz.call64 rfl rfl rfl) (k144_ (gat encPaneR s_ i) _ _ _ (okPaneR.st0 (SlN.nth f_s_ (by omega)) hs3) (SlF.st0 f_b hs3) (okStateR.st0 f_s hs3) ?_) ?_
  · first | assumption | rfl | omega
  rintro _ whs7 ⟨rfl, hs7⟩
  replace hs7 := hs3.call0 hs7
  refine ⟨_, rfl, WL.nil (WC.cq rfl (fun h8 qh8 => ?_) (fun h8 qh8 => ?_))⟩
  ·refine WC.r1 hs7 [] rfl (WC.ret (ibR (tkR (tkR (ibR (tkR ?_))))))
   clear hK6 hK2
   refine rtv rfl rfl hs7 ?_
   rw [findI_some (F := encPaneR) (i := i) (by omega) p1 h8]
  refine WC.skip (hK6 _ _ (WC.region (WL.r 2 hs7 [] rfl (WL.nil (tkN ?_)))))
  refine ⟨sbF rfl, hs7, _, ?_, i + 1, rfl, ?_, ?_, ⟨rfl, trivial⟩⟩
  · omega
  · omega
  · intro j hj; rcases Nat.lt_or_ge j i with h_ | h_
    · exact p1 j h_
    · obtain rfl : j = i := by omega
      exact h8
 refine WC.exit (hK2 _ _ (WC.r1 hs3 [] rfl (WC.ret (rtv rfl rfl hs3 ?_))))
 rw [findI_none (F := encPaneR) (fun j hj => p1 j (by omega))]
theorem k146_ (A_s_ : Option Addr) (n_s_ c_s_ : Nat) (s_ : List PaneR) (b_s : Nat) (s : StateR) (w : World) (f_s_ : SlN encPaneR (okPaneR 549755813888) w A_s_ n_s_ s_) (f_b : SlF encStateR w (some ⟨b_s, 0, none⟩) 1 [s]) (f_s : okStateR 549755813888 w s) (hn : n_s_ ≤ 549755813888) (hT : totState s.dat ≤ 1048576) :
    Calls Tryz.prog 63 #[.slice A_s_ n_s_ c_s_, .func (.func 64) #[] #[.pointer (some ⟨b_s, 0, none⟩)]] w fun e w' => e = .returned (.bool (decide (0 ≤ findI (fun q : PaneR => !areaB s.dat q.dat) s_))) ∧ St w [] [] w' := by
 refine enter 9 Tryz.func63 rfl Tryz.ntmps63 rfl rfl ?_
 have hs1 := St.init w
 refine WC.r1 hs1 [] rfl (WC.sr (WL.r 2 hs1 [] rfl (WL.cl Tryz.call126 rfl (k145_ _ _ _ _ _ _ _ (SlN.st0 okPaneR.st0 f_s_ hs1) (SlF.st0 f_b hs1) (okStateR.st0 f_s hs1) ?_ ?_) ?_)))
 iterate 2 first | assumption | rfl | omega
 rintro _ whs2 ⟨rfl, hs2⟩
 replace hs2 := hs1.call0 hs2
 refine ⟨_, rfl, WL.r 2 hs2 [] rfl (WL.nil (WC.ret (rtv rfl rfl hs2 ?_)))⟩
 rfl
set_option maxHeartbeats 4000000 in
theorem k147_ (s : StateR) (w : World) (f_s : okStateR 549755813888 w s) (hT : totState s.dat ≤ 1048576) :
    Calls Tryz.prog 19 #[.agg #[i64 s.W, i64 s.H, i64 s.Limit, i64 s.Next, .slice s.Panes.A s.Panes.n s.Panes.c, .slice s.Wins.A s.Wins.n s.Wins.c, .slice s.Sess.A s.Sess.n s.Sess.c]] w fun e w' => e = .returned (.bool (stateOk s.dat)) ∧ St w [] [] w' := by
 have nb_s_Panes := f_s.Panes_n
 have nl_s_Panes := f_s.Panes.sl.len
 have nb_s_Wins := f_s.Wins_n
 have nl_s_Wins := f_s.Wins.sl.len
 have nb_s_Sess := f_s.Sess_n
 have nl_s_Sess := f_s.Sess.sl.len
 refine enter 41 Tryz.func19 rfl Tryz.ntmps19 rfl rfl ?_
 have hs1 := St.init w
 refine WC.sr (WL.bx hs1 rfl (fun b2 _ hs3 => WL.r 1 hs3 [] rfl (WL.nil (WC.seq (fun K4 hK4 => WC.sr (WL.r 4 hs3 [0, 0] rfl (WL.cl Tryz.call57 rfl (k55_ _ _ _) ?_)))))))
 rintro _ whs5 ⟨rfl, hs5⟩
 replace hs5 := hs3.call0 hs5
 refine ⟨_, rfl, WL.r 2 hs5 [] rfl ?_⟩
 apply WL.gO 4 Acts.nil hs5 rfl
 ·intro g6 J7
  have qg6 := g6
  try simp only [bf, within_iff, within_not] at qg6
  refine WL.runA tbk 2 (Acts.nil.cons (j := 6) rfl g6) hs5 [0] rfl ⟨rfl, trivial⟩ (WL.call (wantF rfl g6) rfl rfl (Run.call Tryz.call58 rfl rfl rfl) (k0_ _ _ _ _) ?_)
  rintro _ whs8 ⟨rfl, hs8⟩
  replace hs8 := hs5.call0 hs8
  refine ⟨_, rfl, WL.runA tbk 1 (Acts.nil.cons (j := 6) rfl g6) hs8 [] rfl trivial (WL.eO 4 Acts.nil J7 hs8 g6 rfl rfl)⟩
 intro _ hs9
 refine WL.r 1 hs9 [] rfl ?_
 apply WL.gO 4 Acts.nil hs9 rfl
 ·intro g10 J11
  have qg10 := g10
  try simp only [bf, within_iff, within_not] at qg10
  refine WL.runA tbk 2 (Acts.nil.cons (j := 12) rfl g10) hs9 [0] rfl ⟨rfl, trivial⟩ (WL.call (wantF rfl g10) rfl rfl (Run.call Tryz.call59 rfl rfl rfl) (k1_ _ _) ?_)
  rintro _ whs12 ⟨rfl, hs12⟩
  replace hs12 := hs9.call0 hs12
  refine ⟨_, rfl, WL.runA tbk 1 (Acts.nil.cons (j := 12) rfl g10) hs12 [] rfl trivial (WL.eO 4 Acts.nil J11 hs12 g10 rfl rfl)⟩
 intro _ hs13
 refine WL.r 1 hs13 [] rfl ?_
 apply WL.gO 3 Acts.nil hs13 rfl
 ·intro g14 J15
  have qg14 := g14
  try simp only [bf, within_iff, within_not] at qg14
  refine WL.runA tbk 1 (Acts.nil.cons (j := 18) rfl g14) hs13 [0] rfl ⟨rfl, trivial⟩ (WL.call (wantF rfl g14) rfl rfl (Run.call Tryz.call60 rfl rfl rfl) (k134_ s _ (okStateR.st0 f_s hs13) ?_) ?_)
  · first | assumption | rfl | omega
  rintro _ whs16 ⟨rfl, hs16⟩
  replace hs16 := hs13.call0 hs16
  refine ⟨_, rfl, WL.runA tbk 1 (Acts.nil.cons (j := 18) rfl g14) hs16 [] rfl trivial (WL.eO 3 Acts.nil J15 hs16 g14 rfl rfl)⟩
 intro _ hs17
 refine WL.r 1 hs17 [] rfl ?_
 apply WL.gO 3 Acts.nil hs17 rfl
 ·intro g18 J19
  have qg18 := g18
  try simp only [bf, within_iff, within_not] at qg18
  refine WL.runA tbk 1 (Acts.nil.cons (j := 23) rfl g18) hs17 [0] rfl ⟨rfl, trivial⟩ (WL.call (wantF rfl g18) rfl rfl (Run.call Tryz.call61 rfl rfl rfl) (k142_ s _ (okStateR.st0 f_s hs17) ?_) ?_)
  · first | assumption | rfl | omega
  rintro _ whs20 ⟨rfl, hs20⟩
  replace hs20 := hs17.call0 hs20
  refine ⟨_, rfl, WL.runA tbk 1 (Acts.nil.cons (j := 23) rfl g18) hs20 [] rfl trivial (WL.eO 3 Acts.nil J19 hs20 g18 rfl rfl)⟩
 intro _ hs21
 refine WL.r 1 hs21 [] rfl ?_
 apply WL.gO 3 Acts.nil hs21 rfl
 ·intro g22 J23
  have qg22 := g22
  try simp only [bf, within_iff, within_not] at qg22
  refine WL.runA tbk 1 (Acts.nil.cons (j := 28) rfl g22) hs21 [0] rfl ⟨rfl, trivial⟩ (WL.call (wantF rfl g22) rfl rfl (Run.call Tryz.call62 rfl rfl rfl) (k143_ s _ (okStateR.st0 f_s hs21) ?_) ?_)
  · first | assumption | rfl | omega
  rintro _ whs24 ⟨rfl, hs24⟩
  replace hs24 := hs21.call0 hs24
  refine ⟨_, rfl, WL.runA tbk 1 (Acts.nil.cons (j := 28) rfl g22) hs24 [] rfl trivial (WL.eO 3 Acts.nil J23 hs24 g22 rfl rfl)⟩
 intro _ hs25
 refine WL.nil (WC.cq rfl (fun h26 qh26 => ?_) (fun h26 qh26 => ?_))
 ·have hbad : stateOk s.dat = false := by
    have h9 := h26
    show ((((isSize s.W s.H && within s.Limit 0 100) && isId s.Next) && (panesOkI s.dat && (winsOkI s.dat && sessOkI s.dat))) && areasC s.dat) = false
    grind
  refine WC.r1 hs25 [] rfl (WC.ret (tkR ?_))
  clear hK4
  refine rtv rfl rfl hs25 ?_
  rw [hbad]
 have hgood : stateOk s.dat = areasC s.dat := by
   have h9 := h26
   show ((((isSize s.W s.H && within s.Limit 0 100) && isId s.Next) && (panesOkI s.dat && (winsOkI s.dat && sessOkI s.dat))) && areasC s.dat) = areasC s.dat
   grind
 have hAr : areasC s.dat = !decide (0 ≤ findI (fun q : PaneR => !areaB s.dat q.dat) s.Panes.xs) := by
   rw [all_find (p := fun q : PaneR => areaB s.dat q.dat)]
   unfold areasC
   rw [show s.dat.Panes = s.Panes.xs.map PaneR.dat from rfl, List.all_map]
   rfl
 refine WC.skip (hK4 _ _ (WC.sr (WL.r 2 hs25 [0] rfl (WL.val rfl rfl rfl (Run.makeFunc rfl rfl) ?_))))
 refine WL.cl Tryz.call63 rfl (k146_ _ _ _ _ _ _ _ (SlN.st0 okPaneR.st0 f_s.Panes hs25) (SlF.own1 (hs25.own _ (nthL_mem (i := 0) rfl)).1) (okStateR.st0 f_s hs25) ?_ ?_) ?_
 iterate 2 first | assumption | rfl | omega
 rintro _ whs27 ⟨rfl, hs27⟩
 replace hs27 := hs25.call0 hs27
 refine ⟨_, rfl, WL.r 2 hs27 [] rfl (WL.nil (WC.ret (rtv rfl rfl hs27 ?_)))⟩
 rw [hgood, hAr]
set_option maxHeartbeats 4000000 in
theorem k148_ (s : StateR) (w : World) (f_s : okStateR 549755813888 w s) (hT : totState s.dat ≤ 1048576) :
    Calls Tryz.prog 25 #[.agg #[i64 s.W, i64 s.H, i64 s.Limit, i64 s.Next, .slice s.Panes.A s.Panes.n s.Panes.c, .slice s.Wins.A s.Wins.n s.Wins.c, .slice s.Sess.A s.Sess.n s.Sess.c]] w fun e w' => ∃ A c L1, e = .returned (.tuple #[.slice A (stateOut s.dat).length c, .bool (stateFine s.dat)]) ∧ St w [] L1 w' ∧ OwnF encB 5 (.slice A (stateOut s.dat).length c) (stateOut s.dat) L1 := by
 have nb_s_Panes := f_s.Panes_n
 have nl_s_Panes := f_s.Panes.sl.len
 have nb_s_Wins := f_s.Wins_n
 have nl_s_Wins := f_s.Wins.sl.len
 have nb_s_Sess := f_s.Sess_n
 have nl_s_Sess := f_s.Sess.sl.len
 have hsm0 : smState 1048576 s.dat := totState_sm hT
 have hlP : s.dat.Panes.length = s.Panes.xs.length := List.length_map _
 have hlW : s.dat.Wins.length = s.Wins.xs.length := List.length_map _
 have hlS : s.dat.Sess.length = s.Sess.xs.length := List.length_map _
 have hnP : s.dat.Panes.length ≤ 1048576 := hsm0.1
 have hnW : s.dat.Wins.length ≤ 1048576 := hsm0.2.2.1
 have hnS : s.dat.Sess.length ≤ 1048576 := hsm0.2.2.2.2.1
 refine enter 97 Tryz.func25 rfl Tryz.ntmps25 rfl rfl ?_
 have hs1 := St.init w
 refine WC.sr (WL.bx hs1 rfl (fun b2 _ hs3 => WL.r 2 hs3 [] rfl (WL.nil (WC.seq (fun K4 hK4 => WC.sr (WL.r 1 hs3 [0] rfl ?_))))))
 refine WL.cl Tryz.call19 rfl (k147_ s _ (okStateR.st0 f_s hs3) ?_) ?_
 · first | assumption | rfl | omega
 rintro _ whs5 ⟨rfl, hs5⟩
 replace hs5 := hs3.call0 hs5
 refine ⟨_, rfl, WL.r 1 hs5 [] rfl (WL.nil (WC.cq rfl (fun h6 qh6 => ?_) (fun h6 qh6 => ?_)))⟩
 ·have hf : stateFine s.dat = false := by have h9 := h6; unfold stateFine; rw [show stateOk s.dat = false by simpa using h9]; rfl
  refine WC.r1 hs5 [] rfl (WC.ret (tkR ?_))
  clear hK4
  refine retV2 rfl (resV.tmp rfl) (resV.tmp rfl) ?_
  rw [hf]
  have hx_ := OwnF.eqOf (xs := stateOut s.dat) (OwnF.nil encB 5) (by simp [stateOut, hf])
  rw [← hx_]
  exact ⟨_, _, _, rfl, hs5.nil, (OwnF.nil encB 5)⟩
 have hok : stateOk s.dat = true := by have h9 := h6; simpa using h9
 have hnum := sok_nums hok
 have hlen := sok_lens hok
 have hN1 : ((1 ≤ s.W ∧ s.W ≤ 120) ∧ (1 ≤ s.H ∧ s.H ≤ 120)) ∧ (0 ≤ s.Limit ∧ s.Limit ≤ 100) ∧ (1 ≤ s.Next ∧ s.Next ≤ 1000000) := hnum
 have hPall := panes_len hok s.Panes.n
 rw [List.take_of_length_le (by omega)] at hPall
 have hWall := wins_len hok s.Wins.n
 rw [List.take_of_length_le (by omega)] at hWall
 have hSall := sess_len hok s.Sess.n
 rw [List.take_of_length_le (by omega)] at hSall
 have hA0 := numsL_len (l := [s.W, s.H, s.Limit, s.Next, (s.Panes.n : Int)]) (fun x hx => by simp only [List.mem_cons, List.not_mem_nil, or_false] at hx; omega)
 simp only [List.length_cons, List.length_nil] at hA0
 have hwv := varL_len ((s.Wins.n : Int)).toNat (by omega)
 have hsv := varL_len ((s.Sess.n : Int)).toNat (by omega)
 refine WC.skip (hK4 _ _ (WC.sr (WL.r 11 hs5 [0, 0, 0, 0, 0] rfl (WL.buildF (F := encI) hs5 ([s.W, s.H, s.Limit, s.Next, (s.Panes.n : Int)]) Tryz.runUnderlying60 Tryz.sizeOf3 Tryz.zeroValue3 rfl rfl rfl rfl rfl rfl rfl rfl rfl rfl rfl rfl (fun A10 c11 L7 whs8 hs8 ho9 => ?_)))))
 replace hs8 := St.back [_] hs8
 refine WL.cl Tryz.call77 rfl (k66_ _ _ _ _ _ _ _ _ (OwnF.nil _ _) (by simp) (SlF.ofOwn ho9 (hs8.ow L7)) sep_nil ?_ ?_) ?_
 · first | exact hnb | (intro x hx; simp only [List.mem_cons, List.not_mem_nil, or_false] at hx; omega) | assumption | omega
 · first | omega | (simp only [List.length_append, List.length_nil, List.length_cons, Int.toNat_natCast] at *; omega) | assumption
 rintro _ whs12 ⟨A13, c14, L1_15, rfl, hs12, ho16⟩
 replace hs12 := St.lend (A := []) hs8 hs12
 refine ⟨_, rfl, ?_⟩
 replace hs12 := St.back [_] hs12
 refine WL.r 2 hs12 [] rfl (WL.nil (WC.seq (fun K17 hK17 => WC.r1 hs12 [0] rfl (WC.block ?_))))
 refine WC.lO [1, 2, 3, 15, 30, 31] rfl (hs12.fr L1_15) (fun k_ f L_ => ∃ (zs : List UInt8) (i : Nat) (A18 : Option Addr) (c19 : Nat), k_ = s.Panes.n - i ∧ (i ≤ s.Panes.n) ∧ (zs = [] ++ numsL [s.W, s.H, s.Limit, s.Next, (s.Panes.n : Int)] ++ ((s.Panes.xs.take (i)).map PaneR.dat).flatMap paneL) ∧ OwnF encB 5 (.slice A18 (zs.length) c19) (zs) L_ ∧ Sub [(4, .slice A18 (zs.length) c19), (32, .int .i64 i), (5, .bool (finesL ((s.Panes.xs.take (i)).map PaneR.dat)))] f) (s.Panes.n) ?_ ?_
 ·refine ⟨[] ++ numsL [s.W, s.H, s.Limit, s.Next, (s.Panes.n : Int)], 0, _, _, rfl, ?_, ?_, ho16, ⟨rfl, rfl, ?_, trivial⟩⟩
  · exact Nat.zero_le _
  · simp
  · rfl
 clear hs12
 rintro _ f w L20 ⟨zs, i, A18, c19, rfl, p0, p1, ho21, hG⟩ hF hs22
 refine WC.sub _ (hG.app hF) ?_
 clear hG hF
 replace hs22 := St.back [_] hs22
 have hz1 : zs.length ≤ 1100000 := by
   rw [p1]
   have q7 := panes_len hok i
   simp only [List.length_append, List.length_nil]
   omega
 refine WC.r1 hs22 [] rfl (WC.seq (fun K23 hK23 => ?_))
 refine WC.cq rfl (fun h24 qh24 => ?_) (fun h24 qh24 => ?_)
 ·have hpo := sok_pane hok (p := (gat encPaneR s.Panes.xs i).dat) (List.mem_map_of_mem (gat_mem (by omega)))
  have hps : smPane 1048576 (gat encPaneR s.Panes.xs i).dat := hsm0.2.1 _ (List.mem_map_of_mem (gat_mem (by omega)))
  refine WC.skip (hK23 _ _ (WC.seq (fun K25 hK25 => WC.block (WC.sr ?_))))
  refine WL.val rfl rfl rfl (Run.idxN Tryz.runUnderlying29 Tryz.sizeOf93 rfl rfl rfl ?_ ?_ ?_) ?_
  · exact SlF.some_ (SlF.st0 f_s.Panes.sl hs22)
  · omega
  · omega
  refine WL.val rfl rfl rfl (Run.loadA Tryz.isAgg93 Tryz.sizeOf93 rfl rfl (SlF.whole (SlF.st0 f_s.Panes.sl hs22) ?_)) ?_
  · omega
  refine WL.al hs22 Tryz.zeroValue93 rfl rfl (fun b26 _ hs27 => WL.st tbk hs27 0 rfl rfl (fun _ hs28 => WL.nil (WC.r1 hs28 [] rfl (WC.sr (WL.r 2 hs28 [0] rfl ?_)))))
  refine WL.cl Tryz.call78 rfl (k79_ _ _ _ (gat encPaneR s.Panes.xs i) _ ho21 (hs28.ow L20) (okPaneR.st0 (SlN.nth f_s.Panes (by omega)) hs28) (okPaneR.sepo (SlN.nth f_s.Panes (by omega)) (hs28.fr L20)) ?_ ?_ ?_) ?_
  iterate 3 first | assumption | rfl | omega
  rintro _ whs29 ⟨A30, c31, L1_32, rfl, hs29, ho33⟩
  replace hs29 := St.lend (hs28.fr L20) hs29
  refine ⟨_, rfl, ?_⟩
  replace hs29 := St.back [_, _] hs29
  refine WL.r 5 hs29 [] rfl (WL.nil (WC.r1 hs29 [] rfl (WC.cq rfl (fun h34 qh34 => ?_) (fun h34 qh34 => ?_))))
  ·have hft : termFine (gat encPaneR s.Panes.xs i).Term.dat = false := by have h9 := h34; simpa using h9
   refine WC.region (WL.r 1 hs29 [] rfl (WL.nil (hK25 _ _ (WC.region (WL.r 2 hs29 [] rfl (WL.nil (tkN ?_)))))))
   replace hs29 := hs29.d1
   refine ⟨sbF rfl, _, (hs29.fr L1_32), _, ?_, _, i + 1, _, _, rfl, ?_, ?_, ho33, ⟨rfl, rfl, ?_, trivial⟩⟩
   · omega
   · omega
   · rw [p1, fmap_take (F := encPaneR) (by omega)]; simp only [List.append_assoc, List.nil_append]; try rfl
   · (refine congrArg some (congrArg Value.bool ?_); rw [fines_take (by omega), hft]; simp)
  have hft : termFine (gat encPaneR s.Panes.xs i).Term.dat = true := by have h9 := h34; simpa using h9
  refine WC.skip (hK25 _ _ (WC.region (WL.r 2 hs29 [] rfl (WL.nil (tkN ?_)))))
  replace hs29 := hs29.d1
  refine ⟨sbF rfl, _, (hs29.fr L1_32), _, ?_, _, i + 1, _, _, rfl, ?_, ?_, ho33, ⟨rfl, rfl, ?_, trivial⟩⟩
  · omega
  · omega
  · rw [p1, fmap_take (F := encPaneR) (by omega)]; simp only [List.append_assoc, List.nil_append]; try rfl
  · (refine congrArg some (congrArg Value.bool ?_); rw [fines_take (by omega), hft]; simp)
 have hin : i = s.Panes.n := by omega
 have hz9 : zs = [] ++ numsL [s.W, s.H, s.Limit, s.Next, (s.Panes.n : Int)] ++ (s.Panes.xs.map PaneR.dat).flatMap paneL := by rw [p1, List.take_of_length_le (by omega)]
 subst hz9
 have hfa : (finesL ((s.Panes.xs.take (i)).map PaneR.dat)) = finesC s.dat := by rw [List.take_of_length_le (by omega)]; rfl
 refine WC.exit (hK17 _ _ (WC.sr (WL.r 4 hs22 [0] rfl ?_)))
 refine WL.cl Tryz.call79 rfl (k65_ _ _ _ _ _ ho21 (hs22.ow L20) ?_ ?_ ?_) ?_
 iterate 2 first | omega | assumption
 · first | omega | (simp only [List.length_append, List.length_nil, List.length_cons, Int.toNat_natCast] at *; omega) | assumption
 rintro _ whs35 ⟨A36, c37, L1_38, rfl, hs35, ho39⟩
 replace hs35 := St.lend (hs22.fr L20) hs35
 refine ⟨_, rfl, ?_⟩
 replace hs35 := St.back [_] hs35
 refine WL.r 1 hs35 [] rfl (WL.nil (WC.seq (fun K40 hK40 => WC.r1 hs35 [0] rfl (WC.block ?_))))
 refine WC.lO [1, 2, 3, 5, 15, 33, 51, 52] rfl (hs35.fr L1_38) (fun k_ f L_ => ∃ (ys : List UInt8) (j : Nat) (A41 : Option Addr) (c42 : Nat), k_ = s.Wins.n - j ∧ (j ≤ s.Wins.n) ∧ (ys = [] ++ numsL [s.W, s.H, s.Limit, s.Next, (s.Panes.n : Int)] ++ (s.Panes.xs.map PaneR.dat).flatMap paneL ++ varL ((s.Wins.n : Int)).toNat ++ ((s.Wins.xs.take (j)).map WinR.dat).flatMap winL) ∧ OwnF encB 5 (.slice A41 (ys.length) c42) (ys) L_ ∧ Sub [(4, .slice A41 (ys.length) c42), (53, .int .i64 j)] f) (s.Wins.n) ?_ ?_
 ·refine ⟨[] ++ numsL [s.W, s.H, s.Limit, s.Next, (s.Panes.n : Int)] ++ (s.Panes.xs.map PaneR.dat).flatMap paneL ++ varL ((s.Wins.n : Int)).toNat, 0, _, _, rfl, ?_, ?_, ho39, ⟨rfl, rfl, trivial⟩⟩
  · exact Nat.zero_le _
  · simp
 clear hs35
 rintro _ f w L43 ⟨ys, j, A41, c42, rfl, r0, r1, ho44, hG⟩ hF hs45
 refine WC.sub _ (hG.app hF) ?_
 clear hG hF
 replace hs45 := St.back [_] hs45
 have hz2 : ys.length ≤ 1200000 := by
   rw [r1]
   have q7 := wins_len hok j
   simp only [List.length_append, List.length_nil]
   omega
 refine WC.r1 hs45 [] rfl (WC.seq (fun K46 hK46 => ?_))
 refine WC.cq rfl (fun h47 qh47 => ?_) (fun h47 qh47 => ?_)
 ·have hwo : ((1 ≤ (gat encWinR s.Wins.xs j).Id ∧ (gat encWinR s.Wins.xs j).Id ≤ 1000000) ∧ wordOk (gat encWinR s.Wins.xs j).Name = true ∧ treeOk (gat encWinR s.Wins.xs j).Tree.xs = true ∧ hasI (panesL (gat encWinR s.Wins.xs j).Tree.xs) (gat encWinR s.Wins.xs j).Active = true) := by have h9 := sok_win hok (w := (gat encWinR s.Wins.xs j).dat) (List.mem_map_of_mem (gat_mem (by omega))); exact ⟨h9.1, h9.2.1, places_tree h9.2.2.1, h9.2.2.2⟩
  refine WC.skip (hK46 _ _ (WC.seq (fun K48 hK48 => WC.block (WC.sr ?_))))
  refine WL.val rfl rfl rfl (Run.idxN Tryz.runUnderlying30 Tryz.sizeOf58 rfl rfl rfl ?_ ?_ ?_) ?_
  · exact SlF.some_ (SlF.st0 f_s.Wins.sl hs45)
  · omega
  · omega
  refine WL.val rfl rfl rfl (Run.loadA Tryz.isAgg58 Tryz.sizeOf58 rfl rfl (SlF.whole (SlF.st0 f_s.Wins.sl hs45) ?_)) ?_
  · omega
  refine WL.al hs45 Tryz.zeroValue58 rfl rfl (fun b49 _ hs50 => WL.st tbk hs50 0 rfl rfl (fun _ hs51 => WL.nil (WC.region (WL.r 2 hs51 [0] rfl ?_))))
  refine WL.cl Tryz.call80 rfl (k80_ _ _ _ (gat encWinR s.Wins.xs j) _ ho44 (hs51.ow L43) (okWinR.st0 (SlN.nth f_s.Wins (by omega)) hs51) (okWinR.sepo (SlN.nth f_s.Wins (by omega)) (hs51.fr L43)) ?_ ?_) ?_
  iterate 2 first | assumption | rfl | omega
  rintro _ whs52 ⟨A53, c54, L1_55, rfl, hs52, ho56⟩
  replace hs52 := St.lend (hs51.fr L43) hs52
  refine ⟨_, rfl, ?_⟩
  replace hs52 := St.back [_, _] hs52
  refine WL.r 1 hs52 [] rfl (WL.nil (hK48 _ _ (WC.region (WL.r 2 hs52 [] rfl (WL.nil (tkN ?_))))))
  replace hs52 := hs52.d1
  refine ⟨sbF rfl, _, (hs52.fr L1_55), _, ?_, _, j + 1, _, _, rfl, ?_, ?_, ho56, ⟨rfl, rfl, trivial⟩⟩
  · omega
  · omega
  · rw [r1, fmap_take (F := encWinR) (by omega)]; simp only [List.append_assoc, List.nil_append]; try rfl
 have hz8 : ys = [] ++ numsL [s.W, s.H, s.Limit, s.Next, (s.Panes.n : Int)] ++ (s.Panes.xs.map PaneR.dat).flatMap paneL ++ varL ((s.Wins.n : Int)).toNat ++ (s.Wins.xs.map WinR.dat).flatMap winL := by rw [r1, List.take_of_length_le (by omega)]
 subst hz8
 refine WC.exit (hK40 _ _ (WC.sr (WL.r 4 hs45 [0] rfl ?_)))
 refine WL.cl Tryz.call79 rfl (k65_ _ _ _ _ _ ho44 (hs45.ow L43) ?_ ?_ ?_) ?_
 iterate 2 first | omega | assumption
 · first | omega | (simp only [List.length_append, List.length_nil, List.length_cons, Int.toNat_natCast] at *; omega) | assumption
 rintro _ whs57 ⟨A58, c59, L1_60, rfl, hs57, ho61⟩
 replace hs57 := St.lend (hs45.fr L43) hs57
 refine ⟨_, rfl, ?_⟩
 replace hs57 := St.back [_] hs57
 refine WL.r 1 hs57 [] rfl (WL.nil (WC.seq (fun K62 hK62 => WC.r1 hs57 [0] rfl (WC.block ?_))))
 refine WC.lO [2, 3, 5, 15, 33, 54, 67, 68] rfl (hs57.fr L1_60) (fun k_ f L_ => ∃ (xs : List UInt8) (k : Nat) (A63 : Option Addr) (c64 : Nat), k_ = s.Sess.n - k ∧ (k ≤ s.Sess.n) ∧ (xs = [] ++ numsL [s.W, s.H, s.Limit, s.Next, (s.Panes.n : Int)] ++ (s.Panes.xs.map PaneR.dat).flatMap paneL ++ varL ((s.Wins.n : Int)).toNat ++ (s.Wins.xs.map WinR.dat).flatMap winL ++ varL ((s.Sess.n : Int)).toNat ++ ((s.Sess.xs.take (k)).map SessR.dat).flatMap sesL) ∧ OwnF encB 5 (.slice A63 (xs.length) c64) (xs) L_ ∧ Sub [(4, .slice A63 (xs.length) c64), (69, .int .i64 k)] f) (s.Sess.n) ?_ ?_
 ·refine ⟨[] ++ numsL [s.W, s.H, s.Limit, s.Next, (s.Panes.n : Int)] ++ (s.Panes.xs.map PaneR.dat).flatMap paneL ++ varL ((s.Wins.n : Int)).toNat ++ (s.Wins.xs.map WinR.dat).flatMap winL ++ varL ((s.Sess.n : Int)).toNat, 0, _, _, rfl, ?_, ?_, ho61, ⟨rfl, rfl, trivial⟩⟩
  · exact Nat.zero_le _
  · simp
 clear hs57
 rintro _ f w L65 ⟨xs, k, A63, c64, rfl, t0, t1, ho66, hG⟩ hF hs67
 refine WC.sub _ (hG.app hF) ?_
 clear hG hF
 replace hs67 := St.back [_] hs67
 have hz3 : xs.length ≤ 1300000 := by
   rw [t1]
   have q7 := sess_len hok k
   simp only [List.length_append, List.length_nil]
   omega
 refine WC.r1 hs67 [] rfl (WC.seq (fun K68 hK68 => ?_))
 refine WC.cq rfl (fun h69 qh69 => ?_) (fun h69 qh69 => ?_)
 ·have hso : wordOk (gat encSessR s.Sess.xs k).Name = true ∧ (gat encSessR s.Sess.xs k).Wins.xs.length ≤ 12 ∧ (∀ y, y ∈ (gat encSessR s.Sess.xs k).Wins.xs → 1 ≤ y ∧ y ≤ 1000000) ∧ 1 ≤ (gat encSessR s.Sess.xs k).Active ∧ (gat encSessR s.Sess.xs k).Active ≤ 1000000 := sok_sess hok (x := (gat encSessR s.Sess.xs k).dat) (List.mem_map_of_mem (gat_mem (by omega)))
  have hTl := (SlN.nth f_s.Sess (show k < s.Sess.n by omega)).Wins.len
  have h0 := wordOk_len hso.1
  have u1 := textL_len (s := (gat encSessR s.Sess.xs k).Name) (by omega)
  have u2 := varL_len (((gat encSessR s.Sess.xs k).Wins.n : Int)).toNat (by omega)
  have hnb : ∀ y, y ∈ (gat encSessR s.Sess.xs k).Wins.xs → 0 ≤ y ∧ y ≤ 34359738367 := fun y hy => by have := hso.2.2.1 y hy; omega
  have u3 := numsL_len (l := (gat encSessR s.Sess.xs k).Wins.xs) (fun y hy => (hnb y hy).2)
  refine WC.skip (hK68 _ _ (WC.seq (fun K70 hK70 => WC.block (WC.sr ?_))))
  refine WL.val rfl rfl rfl (Run.idxN Tryz.runUnderlying31 Tryz.sizeOf106 rfl rfl rfl ?_ ?_ ?_) ?_
  · exact SlF.some_ (SlF.st0 f_s.Sess.sl hs67)
  · omega
  · omega
  refine WL.val rfl rfl rfl (Run.loadA Tryz.isAgg106 Tryz.sizeOf106 rfl rfl (SlF.whole (SlF.st0 f_s.Sess.sl hs67) ?_)) ?_
  · omega
  refine WL.al hs67 Tryz.zeroValue106 rfl rfl (fun b71 _ hs72 => WL.st tbk hs72 0 rfl rfl (fun _ hs73 => WL.nil (WC.seq (fun K74 hK74 => WC.rH (hs73.rm L65) hs73 (fun _ hs75 => ?_)))))
  refine WH.rn [0, 1, 2, 4, 5, 6, 8, 9] (hs75.rm L65) [0, 0, 0] rfl rfl (WH.o1 3 rfl (WL.cl Tryz.call81 rfl (k67_ _ _ _ _ _ ho66 (hs75.ow L65) ?_ ?_) ?_))
  · first | omega | assumption
  · first | omega | (simp only [List.length_append]; omega) | assumption
  rintro _ whs76 ⟨A77, c78, L1_79, rfl, hs76, ho80⟩
  replace hs76 := St.lend (hs75.fr L65) hs76
  refine ⟨_, rfl, ?_⟩
  replace hs76 := St.back [_, _] hs76
  refine WL.nil ⟨(hs76.rm L1_79), WH.o1 7 rfl (WL.cl Tryz.call79 rfl (k65_ _ _ _ _ _ ho80 (hs76.ow L1_79) ?_ ?_ ?_) ?_)⟩
  iterate 2 first | omega | assumption
  · first | omega | (simp only [List.length_append, List.length_nil, List.length_cons, Int.toNat_natCast] at *; omega) | assumption
  rintro _ whs81 ⟨A82, c83, L1_84, rfl, hs81, ho85⟩
  replace hs81 := St.lend (hs76.fr L1_79) hs81
  refine ⟨_, rfl, ?_⟩
  replace hs81 := St.back [_, _] hs81
  refine WL.nil ⟨(hs81.rm L1_84), WH.o1 10 rfl (WL.cl Tryz.call77 rfl (k66_ _ _ _ _ _ _ _ _ ho85 (hs81.ow L1_84) (SlF.st0 (SlN.nth f_s.Sess (by omega)).Wins hs81) (St.sep (hs81.fr L1_84) (SlN.nth f_s.Sess (by omega)).Wins) ?_ ?_) ?_)⟩
  · first | exact hnb | (intro x hx; simp only [List.mem_cons, List.not_mem_nil, or_false] at hx; omega) | assumption | omega
  · first | omega | (simp only [List.length_append, List.length_nil, List.length_cons, Int.toNat_natCast] at *; omega) | assumption
  rintro _ whs86 ⟨A87, c88, L1_89, rfl, hs86, ho90⟩
  replace hs86 := St.lend (hs81.fr L1_84) hs86
  refine ⟨_, rfl, ?_⟩
  replace hs86 := St.back [_, _] hs86
  refine WL.nil ⟨(hs86.rm L1_89), WH.rn [11] (hs86.rm L1_89) [] rfl rfl (WH.dn (hK74 _ _ (WC.region (WL.r 3 hs86 [0] rfl ?_))))⟩
  refine WL.cl Tryz.call79 rfl (k65_ _ _ _ _ _ ho90 (hs86.ow L1_89) ?_ ?_ ?_) ?_
  iterate 2 first | omega | assumption
  · first | omega | (simp only [List.length_append, List.length_nil, List.length_cons, Int.toNat_natCast] at *; omega) | assumption
  rintro _ whs91 ⟨A92, c93, L1_94, rfl, hs91, ho95⟩
  replace hs91 := St.lend (hs86.fr L1_89) hs91
  refine ⟨_, rfl, ?_⟩
  replace hs91 := St.back [_, _] hs91
  refine WL.r 1 hs91 [] rfl (WL.nil (hK70 _ _ (WC.region (WL.r 2 hs91 [] rfl (WL.nil (tkN ?_))))))
  replace hs91 := hs91.d1
  refine ⟨sbF rfl, _, (hs91.fr L1_94), _, ?_, _, k + 1, _, _, rfl, ?_, ?_, ho95, ⟨rfl, rfl, trivial⟩⟩
  · omega
  · omega
  · rw [t1, fmap_take (F := encSessR) (by omega)]; unfold sesL; simp only [List.append_assoc, List.nil_append, Int.toNat_natCast]; rw [← hTl]; try rfl
 have hz7 : xs = stateL s.dat := by
   rw [t1, List.take_of_length_le (by omega)]
   unfold stateL headS
   rw [hlP, hlW, hlS, nl_s_Panes, nl_s_Wins, nl_s_Sess]
   simp only [List.append_assoc, List.nil_append, Int.toNat_natCast]
   rfl
 refine WC.exit (hK62 _ _ (WC.seq (fun K96 hK96 => WC.sr (WL.r 3 hs67 [] rfl (WL.pO tbk 3 Acts.nil hs67 [] rfl rfl rfl rfl (fun g_ => trivial) (WL.nil ?_))))))
 refine WC.cq rfl (fun h97 qh97 => ?_) (fun h97 qh97 => ?_)
 ·have hf : stateFine s.dat = false := by have h9 := h97; unfold stateFine; rw [hok, Bool.true_and, ← hfa, ← hz7]; grind
  refine WC.r1 hs67 [] rfl (WC.ret (tkR ?_))
  clear hK96
  refine retV2 rfl (resV.tmp rfl) (resV.tmp rfl) ?_
  rw [hf]
  have hx_ := OwnF.eqOf (xs := stateOut s.dat) (OwnF.nil encB 5) (by simp [stateOut, hf])
  rw [← hx_]
  exact ⟨_, _, _, rfl, hs67.nil, (OwnF.nil encB 5)⟩
 have hf : stateFine s.dat = true := by have h9 := h97; unfold stateFine; rw [hok, Bool.true_and, ← hfa, ← hz7]; grind
 refine WC.skip (hK96 _ _ (WC.r1 hs67 [] rfl (WC.ret (retV2 rfl (resV.tmp rfl) (resV.tmp rfl) ?_))))
 rw [hf]
 have hx_ := OwnF.eqOf (xs := stateOut s.dat) ho66 (by unfold stateOut; rw [hf, hz7]; rfl)
 rw [← hx_]
 first | exact ⟨_, _, _, rfl, (St.keep1 (hs67.fr L65)), ho66⟩ | exact ⟨A63, c64, _, by rw [OwnF.len_ ho66], (St.keep1 (hs67.fr L65)), by rw [OwnF.len_ ho66]; exact ho66⟩
theorem k149_ (n : Int) (w : World) :
    Calls Tryz.prog 140 #[i64 n] w fun e w' => e = .returned (.bool (isNumB n)) ∧ St w [] [] w' := by
 refine enter 9 Tryz.func140 rfl Tryz.ntmps140 rfl rfl ?_
 have hs1 := St.init w
 refine WC.r1 hs1 [] rfl (WC.sr (WL.r 3 hs1 [] rfl (WL.pA tbk 2 Acts.nil hs1 [] rfl rfl rfl rfl (fun g_ => trivial) (WL.r 1 hs1 [] rfl (WL.nil (WC.ret (retV1 rfl (resV.tmp rfl) ?_)))))))
 refine ⟨congrArg Ending.returned ?_, hs1.nil⟩
 simp [isNumB]
theorem k150_ (A_b : Option Addr) (n_b c_b : Nat) (b : List UInt8) (n : Int) (w : World) (f_b : SlF encB w A_b n_b b) (h0 : 0 ≤ n) (h1 : n ≤ 4294967295) (hx : b.length ≤ 268435456) :
    Calls Tryz.prog 73 #[.slice A_b n_b c_b, i64 n] w fun e w' => ∃ A c L1, e = .returned (.tuple #[.slice A (b ++ varL n.toNat).length c, .bool true]) ∧ St w [] L1 w' ∧ OwnF encB 5 (.slice A (b ++ varL n.toNat).length c) (b ++ varL n.toNat) L1 := by
 have hvl := varL_len n.toNat (by omega)
 refine enter 29 Tryz.func73 rfl Tryz.ntmps73 rfl rfl ?_
 have hs1 := St.init w
 refine WC.r1 hs1 [] rfl (WC.seq (fun K2 hK2 => WC.sr (WL.r 1 hs1 [] rfl (WL.cl Tryz.call140 rfl (k149_ _ _) ?_))))
 rintro _ whs3 ⟨rfl, hs3⟩
 replace hs3 := hs1.call0 hs3
 refine ⟨_, rfl, WL.r 1 hs3 [] rfl (WL.nil ?_)⟩
 refine WC.condF rfl (by simp [isNumB]; omega) (WC.skip (hK2 _ _ (WC.sr (WL.buildF (F := encB) hs3 ([]) Tryz.runUnderlying44 Tryz.sizeOf5 Tryz.zeroValue5 rfl rfl rfl rfl rfl rfl rfl rfl rfl rfl rfl rfl (fun A8 c9 L5 whs6 hs6 ho7 => WL.r 1 hs6 [] rfl ?_)))))
 refine WL.appendG hs6 ho7 (SlF.src (SlF.st0 f_b hs6) Tryz.underlying44) Tryz.underlying44 inf5 rfl rfl rfl rfl rfl rfl rfl rfl rfl rfl ?_ (fun A13 c14 L10 whs11 hs11 ho12 => ?_)
 · simp only [List.length_append, List.length_singleton, List.length_nil]; omega
 refine WL.r 1 hs11 [] rfl (WL.nil (WC.seq (fun K15 hK15 => WC.block ?_)))
 refine WC.lO [4, 5, 9] rfl hs11 (fun k_ f L_ => ∃ (zs : List UInt8) (q : Int) (A16 : Option Addr) (c17 : Nat), k_ = q.toNat ∧ (0 ≤ q) ∧ (q ≤ n) ∧ (b ++ varL n.toNat = zs ++ varL q.toNat) ∧ OwnF encB 5 (.slice A16 (zs.length) c17) (zs) L_ ∧ Sub [(6, .slice A16 (zs.length) c17), (1, .int .i64 q)] f) (((fun (zs : List UInt8) (q : Int) => q.toNat) (([] ++ b)) (n))) ?_ ?_
 ·refine ⟨([] ++ b), n, _, _, rfl, ?_, ?_, ?_, ho12, ⟨rfl, rfl, trivial⟩⟩
  · exact h0
  · exact Int.le_refl _
  · rfl
 clear hs11
 rintro _ f w L18 ⟨zs, q, A16, c17, rfl, p0, p1, p2, ho19, hG⟩ hF hs20
 refine WC.sub _ (hG.app hF) ?_
 clear hG hF
 have hlen := congrArg List.length p2
 simp only [List.length_append] at hlen
 refine WC.seq (fun K21 hK21 => WC.r1 hs20 [] rfl ?_)
 refine WC.cD rfl (fun qh22 => ?_) (fun qh22 => ?_)
 ·refine WC.skip (hK21 _ _ (WC.block (WC.sr (WL.r 2 hs20 [] rfl ?_))))
  refine WL.val rfl rfl rfl (Run.rem rfl rfl rfl ?_ ?_) ?_
  · omega
  · omega
  refine WL.r 2 hs20 [] rfl (WL.buildSlice hs20 Tryz.runUnderlying44 Tryz.sizeOf5 Tryz.zeroValue5 rfl rfl rfl rfl rfl rfl rfl rfl rfl rfl (fun b23 whs24 hs24 => ?_))
  refine WL.appendG (hs24.fr L18) ho19 (srcB1 Tryz.underlying44 (hs24.own _ (nthL_mem (i := 0) rfl)).1) Tryz.underlying44 inf5 rfl rfl rfl rfl rfl rfl rfl rfl rfl rfl ?_ (fun A28 c29 L25 whs26 hs26 ho27 => ?_)
  · simp only [List.length_append, List.length_singleton, List.length_nil]; omega
  replace hs26 := St.back [_] hs26
  refine WL.r 1 hs26 [] rfl (WL.nil (WC.region (WL.r 1 hs26 [] rfl (WL.val rfl rfl rfl (Run.quo rfl rfl rfl ?_ ?_ ?_) ?_))))
  · omega
  · omega
  · omega
  refine WL.r 1 hs26 [] rfl (WL.nil (ibN (tkN ?_)))
  replace hs26 := hs26.d1
  refine ⟨sbF rfl, _, hs26, _, ?_, _, _, _, _, rfl, ?_, ?_, ?_, ho27, ⟨rfl, rfl, trivial⟩⟩
  · omega
  · omega
  · omega
  · rw [p2, List.append_assoc, List.singleton_append, ub_big (by omega)]
 refine WC.exit (hK15 _ _ (WC.sr (WL.r 3 hs20 [] rfl (WL.buildSlice hs20 Tryz.runUnderlying44 Tryz.sizeOf5 Tryz.zeroValue5 rfl rfl rfl rfl rfl rfl rfl rfl rfl rfl (fun b30 whs31 hs31 => ?_)))))
 refine WL.appendG (hs31.fr L18) ho19 (srcB1 Tryz.underlying44 (hs31.own _ (nthL_mem (i := 0) rfl)).1) Tryz.underlying44 inf5 rfl rfl rfl rfl rfl rfl rfl rfl rfl rfl ?_ (fun A35 c36 L32 whs33 hs33 ho34 => ?_)
 · simp only [List.length_append, List.length_singleton, List.length_nil]; omega
 replace hs33 := St.back [_] hs33
 refine WL.r 2 hs33 [] rfl (WL.nil (WC.ret (retV2 rfl (resV.tmp rfl) (resV.tmp rfl) ?_)))
 have hx_ := OwnF.eqOf (xs := b ++ varL n.toNat) ho34 (by rw [p2, ← ub_small p0 (by omega)])
 rw [← hx_]
 first | exact ⟨_, _, _, rfl, (St.keep1 (hs33.fr L32)), ho34⟩ | exact ⟨A35, c36, _, by rw [OwnF.len_ ho34], (St.keep1 (hs33.fr L32)), by rw [OwnF.len_ ho34]; exact ho34⟩
theorem k151_ (v_b : Value) (b : List UInt8) (L_b : Hp) (A_l : Option Addr) (n_l c_l : Nat) (l : List Int) (w : World) (o_b : OwnF encB 5 v_b b L_b) (h_b : Hh w L_b) (f_l : SlF encI w A_l n_l l) (s_l : 0 < n_l → (adr A_l).block ∉ L_b.map (·.1)) (hl : ∀ x, x ∈ l → 0 ≤ x ∧ x ≤ 4294967295) (hx : b.length + 5 * n_l ≤ 268435456) :
    Calls Tryz.prog 71 #[v_b, .slice A_l n_l c_l] w fun e w' => ∃ A c L1, e = .returned (.slice A (b ++ numsL l).length c) ∧ St w (L_b.map (·.1)) L1 w' ∧ OwnF encB 5 (.slice A (b ++ numsL l).length c) (b ++ numsL l) L1 := by
 obtain ⟨A_b, c_b, rfl⟩ := o_b.shape
 refine enter 21 Tryz.func71 rfl Tryz.ntmps71 rfl rfl ?_
 have hs1 := St.lent1 w L_b o_b h_b
 refine WC.r1 hs1 [] rfl (WC.seq (fun K2 hK2 => WC.r1 hs1 [] rfl (WC.block ?_)))
 refine WC.lO [4, 7, 8] rfl hs1 (fun k_ f L_ => ∃ (zs : List UInt8) (i : Nat) (A3 : Option Addr) (c4 : Nat), k_ = n_l - i ∧ (i ≤ n_l) ∧ (zs = b ++ numsL (l.take i)) ∧ OwnF encB 5 (.slice A3 (zs.length) c4) (zs) L_ ∧ Sub [(0, .slice A3 (zs.length) c4), (9, .int .i64 i)] f) (((fun (zs : List UInt8) (i : Nat) => n_l - i) (b) (0))) ?_ ?_
 ·refine ⟨b, 0, _, _, rfl, ?_, ?_, o_b, ⟨rfl, rfl, trivial⟩⟩
  · exact Nat.zero_le _
  · simp [numsL]
 clear hs1
 rintro _ f w L5 ⟨zs, i, A3, c4, rfl, p0, p1, ho6, hG⟩ hF hs7
 refine WC.sub _ (hG.app hF) ?_
 clear hG hF
 have hb5 := numsL_len (l := l.take i) (fun x hx => (by have := (hl x (List.mem_of_mem_take hx)).2; omega))
 have hbl := congrArg List.length p1
 simp only [List.length_append, List.length_take] at hbl hb5
 refine WC.r1 hs7 [] rfl (WC.seq (fun K8 hK8 => ?_))
 refine WC.cq rfl (fun h9 qh9 => ?_) (fun h9 qh9 => ?_)
 ·have hi_ := hl (iat l i) (gat_mem (by rw [f_l.len]; omega))
  refine WC.skip (hK8 _ _ (WC.seq (fun K10 hK10 => WC.block (WC.sr ?_))))
  refine WL.val rfl rfl rfl (Run.idxN Tryz.runUnderlying60 Tryz.sizeOf3 rfl rfl rfl ?_ ?_ ?_) ?_
  · exact SlF.some_ (SlF.st f_l hs7 s_l)
  · omega
  · omega
  refine WL.val rfl rfl rfl (Run.load Tryz.isAgg3 rfl rfl (SlF.one1 (SlF.st f_l hs7 s_l) ?_ rfl)) ?_
  · omega
  refine WL.r 1 hs7 [] rfl (WL.nil (WC.region (WL.r 2 hs7 [] rfl (WL.cl Tryz.call73 rfl (k150_ _ _ _ _ _ _ (SlF.ofOwn ho6 (hs7.ow L5)) ?_ ?_ ?_) ?_))))
  · exact hi_.1
  · exact hi_.2
  · omega
  rintro _ whs11 ⟨A12, c13, L1_14, rfl, hs11, ho15⟩
  replace hs11 := hs7.callF hs11
  refine ⟨_, rfl, WL.r 4 hs11 [] rfl (WL.nil (hK10 _ _ (WC.region (WL.r 2 hs11 [] rfl (WL.nil (tkN ?_))))))⟩
  replace hs11 := (hs11.rm L5)
  refine ⟨sbF rfl, _, hs11, _, ?_, _, i + 1, _, _, rfl, ?_, ?_, ho15, ⟨rfl, rfl, trivial⟩⟩
  · omega
  · omega
  · rw [p1, numsL_take (by rw [f_l.len]; omega), List.append_assoc] <;> rfl
 refine WC.exit (hK2 _ _ (WC.r1 hs7 [] rfl (WC.ret (retV1 rfl (resV.tmp rfl) ?_))))
 have hx_ := OwnF.eqOf (xs := b ++ numsL l) ho6 (by rw [p1, List.take_of_length_le (by rw [f_l.len]; omega)])
 rw [← hx_]
 first | exact ⟨_, _, _, rfl, (St.keep1 hs7), ho6⟩ | exact ⟨A3, c4, _, by rw [OwnF.len_ ho6], (St.keep1 hs7), by rw [OwnF.len_ ho6]; exact ho6⟩
theorem k152_ (A_b : Option Addr) (n_b c_b : Nat) (b : List UInt8) (s : ByteArray) (w : World) (f_b : SlF encB w A_b n_b b) (hs : s.size ≤ 4000) (hx : b.length ≤ 268000000) :
    Calls Tryz.prog 74 #[.slice A_b n_b c_b, .string s] w fun e w' => ∃ A c L1, e = .returned (.tuple #[.slice A (b ++ textL s).length c, .bool true]) ∧ St w [] L1 w' ∧ OwnF encB 5 (.slice A (b ++ textL s).length c) (b ++ textL s) L1 := by
 have hvl := varL_len s.size (by omega)
 refine enter 21 Tryz.func74 rfl Tryz.ntmps74 rfl rfl ?_
 have hs1 := St.init w
 refine WC.r1 hs1 [] rfl (WC.seq (fun K2 hK2 => WC.r1 hs1 [] rfl ?_))
 refine WC.condF rfl (by simp; omega) (WC.skip (hK2 _ _ (WC.sr (WL.r 3 hs1 [] rfl ?_))))
 refine WL.cl Tryz.call73 rfl (k150_ _ _ _ _ _ _ (SlF.st0 f_b hs1) ?_ ?_ ?_) ?_
 iterate 3 first | assumption | rfl | omega
 rintro _ whs4 ⟨A5, c6, L1_7, rfl, hs4, ho8⟩
 replace hs4 := hs1.callF hs4
 refine ⟨_, rfl, WL.r 5 hs4 [] rfl (WL.nil (WC.sr (WL.r 2 hs4 [] rfl (WL.appendG hs4 ho8 (srcStr Tryz.underlying9 _) Tryz.underlying44 inf5 rfl rfl rfl rfl rfl rfl rfl rfl rfl rfl ?_ (fun A12 c13 L9 whs10 hs10 ho11 => ?_)))))⟩
 · simp only [List.length_append, Int.toNat_natCast]; simp; omega
 refine WL.r 2 hs10 [] rfl (WL.nil (WC.ret (retV2 rfl (resV.tmp rfl) (resV.tmp rfl) ?_)))
 have hx_ := OwnF.eqOf (xs := b ++ textL s) ho11 (by simp [textL])
 rw [← hx_]
 first | exact ⟨_, _, _, rfl, (St.keep1 hs10), ho11⟩ | exact ⟨A12, c13, _, by rw [OwnF.len_ ho11], (St.keep1 hs10), by rw [OwnF.len_ ho11]; exact ho11⟩
theorem k153_ (a_Fg : Int) (a_Bg : Int) (a_Bold : Bool) (a_Under : Bool) (a_Turn : Bool) (w : World) :
    Calls Tryz.prog 138 #[.agg #[i64 a_Fg, i64 a_Bg, .bool a_Bold, .bool a_Under, .bool a_Turn]] w fun e w' => e = .returned (.int .i64 (attrNum ⟨a_Fg, a_Bg, a_Bold, a_Under, a_Turn⟩)) ∧ St w [] [] w' := by
 refine enter 27 Tryz.func138 rfl Tryz.ntmps138 rfl rfl ?_
 have hs1 := St.init w
 refine WC.sr (WL.bx hs1 rfl (fun b2 _ hs3 => WL.r 1 hs3 [] rfl (WL.nil (WC.seq (fun K4 hK4 => WC.sr (WL.r 1 hs3 [0] rfl (WL.cl Tryz.call184 rfl (k36_ _ _ _ _ _ _) ?_)))))))
 rintro _ whs5 ⟨rfl, hs5⟩
 replace hs5 := hs3.call0 hs5
 refine ⟨_, rfl, WL.r 1 hs5 [] rfl (WL.nil (WC.cq rfl (fun h6 qh6 => ?_) (fun h6 qh6 => ?_)))⟩
 ·have hok : attrOk a_Fg a_Bg = false := by simpa using qh6
  refine WC.r1 hs5 [] rfl (WC.ret (tkR ?_))
  clear hK4
  refine rtv rfl rfl hs5 ?_
  simp [attrNum, hok]
 have hok : attrOk a_Fg a_Bg = true := by simpa using qh6
 have hok2 := hok
 simp [attrOk, within] at hok2
 refine WC.skip (hK4 _ _ (WC.r1 hs5 [0, 0] rfl (WC.seq (fun K7 hK7 => WC.r1 hs5 [0] rfl ?_))))
 refine WC.cq rfl (fun h8 qh8 => ?_) (fun h8 qh8 => ?_)
 ·refine WC.region (WL.r 3 hs5 [] rfl (WL.nil (hK7 _ _ (WC.seq (fun K9 hK9 => WC.r1 hs5 [0] rfl ?_)))))
  refine WC.cq rfl (fun h10 qh10 => ?_) (fun h10 qh10 => ?_)
  ·refine WC.region (WL.r 3 hs5 [] rfl (WL.nil (hK9 _ _ (WC.seq (fun K11 hK11 => WC.r1 hs5 [0] rfl ?_)))))
   refine WC.cq rfl (fun h12 qh12 => ?_) (fun h12 qh12 => ?_)
   ·refine WC.region (WL.r 3 hs5 [] rfl (WL.nil (hK11 _ _ (WC.r1 hs5 [] rfl (WC.ret (rtv rfl rfl hs5 ?_))))))
    simp_all [attrNum]; omega
   refine WC.skip (hK11 _ _ (WC.r1 hs5 [] rfl (WC.ret (rtv rfl rfl hs5 ?_))))
   simp_all [attrNum]; omega
  refine WC.skip (hK9 _ _ (WC.seq (fun K13 hK13 => WC.r1 hs5 [0] rfl ?_)))
  refine WC.cq rfl (fun h14 qh14 => ?_) (fun h14 qh14 => ?_)
  ·refine WC.region (WL.r 3 hs5 [] rfl (WL.nil (hK13 _ _ (WC.r1 hs5 [] rfl (WC.ret (rtv rfl rfl hs5 ?_))))))
   simp_all [attrNum]; omega
  refine WC.skip (hK13 _ _ (WC.r1 hs5 [] rfl (WC.ret (rtv rfl rfl hs5 ?_))))
  simp_all [attrNum]; omega
 refine WC.skip (hK7 _ _ (WC.seq (fun K15 hK15 => WC.r1 hs5 [0] rfl ?_)))
 refine WC.cq rfl (fun h16 qh16 => ?_) (fun h16 qh16 => ?_)
 ·refine WC.region (WL.r 3 hs5 [] rfl (WL.nil (hK15 _ _ (WC.seq (fun K17 hK17 => WC.r1 hs5 [0] rfl ?_)))))
  refine WC.cq rfl (fun h18 qh18 => ?_) (fun h18 qh18 => ?_)
  ·refine WC.region (WL.r 3 hs5 [] rfl (WL.nil (hK17 _ _ (WC.r1 hs5 [] rfl (WC.ret (rtv rfl rfl hs5 ?_))))))
   simp_all [attrNum]; omega
  refine WC.skip (hK17 _ _ (WC.r1 hs5 [] rfl (WC.ret (rtv rfl rfl hs5 ?_))))
  simp_all [attrNum]; omega
 refine WC.skip (hK15 _ _ (WC.seq (fun K19 hK19 => WC.r1 hs5 [0] rfl ?_)))
 refine WC.cq rfl (fun h20 qh20 => ?_) (fun h20 qh20 => ?_)
 ·refine WC.region (WL.r 3 hs5 [] rfl (WL.nil (hK19 _ _ (WC.r1 hs5 [] rfl (WC.ret (rtv rfl rfl hs5 ?_))))))
  simp_all [attrNum]; omega
 refine WC.skip (hK19 _ _ (WC.r1 hs5 [] rfl (WC.ret (rtv rfl rfl hs5 ?_))))
 simp_all [attrNum]; omega
theorem k154_ (A_l : Option Addr) (n_l c_l : Nat) (l : List CellD) (w : World) (f_l : SlF encCell w A_l n_l l) (hn : n_l ≤ 1099511627776) :
    Calls Tryz.prog 139 #[.slice A_l n_l c_l] w fun e w' => ∃ A c L1, e = .returned (.tuple #[.slice A (cellsOut l).length c, .bool (cellsFine l)]) ∧ St w [] L1 w' ∧ OwnF encB 5 (.slice A (cellsOut l).length c) (cellsOut l) L1 := by
 have hll := f_l.len
 refine enter 61 Tryz.func139 rfl Tryz.ntmps139 rfl rfl ?_
 have hs1 := St.init w
 refine WC.r1 hs1 [] rfl (WC.seq (fun K2 hK2 => WC.r1 hs1 [] rfl ?_))
 refine WC.cD rfl (fun qh3 => ?_) (fun qh3 => ?_)
 ·have hf : cellsFine l = false := by simp [cellsFine]; omega
  refine WC.r1 hs1 [] rfl (WC.ret (tkR ?_))
  clear hK2
  refine retV2 rfl (resV.tmp rfl) (resV.tmp rfl) ?_
  rw [hf]
  have hx_ := OwnF.eqOf (xs := cellsOut l) (OwnF.nil encB 5) (by simp [cellsOut, hf])
  rw [← hx_]
  exact ⟨_, _, _, rfl, hs1.nil, (OwnF.nil encB 5)⟩
 refine WC.skip (hK2 _ _ (WC.sr (WL.buildF (F := encB) hs1 ([]) Tryz.runUnderlying44 Tryz.sizeOf5 Tryz.zeroValue5 rfl rfl rfl rfl rfl rfl rfl rfl rfl rfl rfl rfl (fun A7 c8 L4 whs5 hs5 ho6 => WL.r 1 hs5 [] rfl (WL.nil (WC.r1 hs5 [] rfl (WC.seq (fun K9 hK9 => ?_))))))))
 refine WC.r1 hs5 [] rfl (WC.block (WC.lO [0, 10, 12, 13] rfl hs5 (fun k_ f L_ => ∃ (zs : List UInt8) (i m : Nat) (A10 : Option Addr) (c11 : Nat), k_ = n_l - i ∧ (i ≤ n_l) ∧ (m ≤ i) ∧ (zs.length ≤ 15 * i) ∧ (cellsB l = zs ++ cellsGo m (l.drop i)) ∧ (∀ k, k < i → cellOk (gat encCell l k) = true) ∧ OwnF encB 5 (.slice A10 (zs.length) c11) (zs) L_ ∧ Sub [(4, .slice A10 (zs.length) c11), (14, .int .i64 i), (5, .int .i64 m)] f) (((fun (zs : List UInt8) (i m : Nat) => n_l - i) ([]) (0) (0))) ?_ ?_))
 ·refine ⟨[], 0, 0, _, _, rfl, ?_, ?_, ?_, ?_, ?_, ho6, ⟨rfl, rfl, rfl, trivial⟩⟩
  · exact Nat.zero_le _
  · exact Nat.le_refl _
  · simp
  · rfl
  · exact fun k hk => absurd hk (by omega)
 clear hs5
 rintro _ f w L12 ⟨zs, i, m, A10, c11, rfl, p0, p1, p2, p3, p4, ho13, hG⟩ hF hs14
 refine WC.sub _ (hG.app hF) ?_
 clear hG hF
 refine WC.r1 hs14 [] rfl (WC.seq (fun K15 hK15 => ?_))
 refine WC.cD rfl (fun qh16 => ?_) (fun qh16 => ?_)
 ·refine WC.skip (hK15 _ _ (WC.seq (fun K17 hK17 => WC.block (WC.sr (WL.r 1 hs14 [] rfl ?_)))))
  refine WL.val rfl rfl rfl (Run.idxN Tryz.runUnderlying74 Tryz.sizeOf164 rfl rfl rfl ?_ ?_ ?_) ?_
  · exact SlF.some_ (SlF.st0 f_l hs14)
  · omega
  · omega
  refine WL.val rfl rfl rfl (Run.loadA Tryz.isAgg164 Tryz.sizeOf164 rfl rfl (SlF.whole (SlF.st0 f_l hs14) ?_)) ?_
  · omega
  refine WL.al hs14 Tryz.zeroValue164 rfl rfl (fun b18 _ hs19 => WL.r 1 hs19 [] rfl (WL.st tbk hs19 0 rfl rfl (fun _ hs20 => WL.nil (WC.seq (fun K21 hK21 => WC.sr (WL.r 1 hs20 [0] rfl (WL.cl Tryz.call185 rfl (k38_ _ _ _ _ _ _ _) ?_)))))))
  rintro _ whs22 ⟨rfl, hs22⟩
  replace hs22 := hs20.call0 hs22
  refine ⟨_, rfl, WL.r 1 hs22 [] rfl (WL.nil (WC.cq rfl (fun h23 qh23 => ?_) (fun h23 qh23 => ?_)))⟩
  ·have hf : cellsFine l = false := by simp [cellsFine, cellsOk_not (l := l) (i := i) (by omega) qh23]
   refine WC.r1 hs22 [] rfl (WC.ret (tkR (ibR (tkR (tkR (ibR (tkR ?_)))))))
   clear hK21 hK17 hK9
   refine retV2 rfl (resV.tmp rfl) (resV.tmp rfl) ?_
   rw [hf]
   have hx_ := OwnF.eqOf (xs := cellsOut l) (OwnF.nil encB 5) (by simp [cellsOut, hf])
   rw [← hx_]
   exact ⟨_, _, _, rfl, hs22.nil, (OwnF.nil encB 5)⟩
  have hci : cellOk (gat encCell l i) = true := qh23
  have hcb := cellOk_bounds hci
  have hcx : 0 ≤ attrNum ⟨(gat encCell l i).A.Fg, (gat encCell l i).A.Bg, (gat encCell l i).A.Bold, (gat encCell l i).A.Under, (gat encCell l i).A.Turn⟩ ∧ attrNum ⟨(gat encCell l i).A.Fg, (gat encCell l i).A.Bg, (gat encCell l i).A.Bold, (gat encCell l i).A.Under, (gat encCell l i).A.Turn⟩ ≤ 647 := hcb.2.2.2
  have hvx := varL_len (attrNum ⟨(gat encCell l i).A.Fg, (gat encCell l i).A.Bg, (gat encCell l i).A.Bold, (gat encCell l i).A.Under, (gat encCell l i).A.Turn⟩).toNat (by omega)
  refine WC.skip (hK21 _ _ (WC.r1 hs22 [] rfl (WC.seq (fun K24 hK24 => WC.sq1 hs22 (WQ.r 6 [] rfl ?_)))))
  apply WQ.gA 7 Acts.nil rfl
  ·intro g25 J26
   have qg25 := g25
   try simp only [bf, within_iff, within_not] at qg25
   refine WQ.runA tbk 3 (Acts.nil.cons (j := 5) rfl g25) [] rfl ⟨by omega, trivial⟩ ?_
   refine WQ.val (wantT rfl g25) rfl rfl (fun w_ hs_ => (Run.idxK (i + 1) Tryz.runUnderlying74 Tryz.sizeOf164 rfl rfl rfl ?_ ?_ ?_)) ?_
   · exact SlF.some_ (SlF.st0 f_l (hs_ : St _ _ _ _))
   · omega
   · omega
   refine WQ.val (wantT rfl g25) rfl rfl (fun w_ hs_ => (Run.loadA Tryz.isAgg164 Tryz.sizeOf164 rfl rfl (SlF.whole (SlF.st0 f_l (hs_ : St _ _ _ _)) ?_))) ?_
   · omega
   refine WQ.runA tbk 1 (Acts.nil.cons (j := 5) rfl g25) [0] rfl ⟨rfl, trivial⟩ ?_
   refine WQ.val (wantT rfl g25) rfl rfl (fun w_ hs_ => (Run.eqlA (eq_164 _ _) (by kernel_rfl) rfl rfl rfl)) ?_
   exact WQ.eA 7 Acts.nil J26 g25 rfl rfl
  refine WQ.nil (fun _ (hs27 : St _ _ _ _) => ?_)
  refine WC.cq rfl (fun h28 qh28 => ?_) (fun h28 qh28 => ?_)
  ·have hnx : i + 1 < l.length ∧ gat encCell l (i + 1) = gat encCell l i := by
     try simp only [Bool.and_eq_true, decide_eq_true_eq] at qh28
     exact ⟨by omega, qh28.2⟩
   refine WC.exit (hK17 _ _ (WC.region (WL.r 2 hs27 [] rfl (WL.nil (tkN ?_)))))
   replace hs27 := hs27.d1
   refine ⟨sbF rfl, _, hs27, _, ?_, _, i + 1, (m + 1), _, _, rfl, ?_, ?_, ?_, ?_, ?_, ho13, ⟨rfl, rfl, rfl, trivial⟩⟩
   · omega
   · omega
   · omega
   · first | omega | (simp only [List.length_append]; omega)
   · first | (rw [p3, cellsGo_step (by omega), if_pos hnx]) | (rw [p3, cellsGo_step (by omega), if_neg hnx, runB]; simp only [List.append_assoc]; rfl)
   · intro k hk; rcases Nat.lt_or_ge k i with h_ | h_
     · exact p4 k h_
     · obtain rfl : k = i := by omega
       exact hci
  have hnx : ¬ (i + 1 < l.length ∧ gat encCell l (i + 1) = gat encCell l i) := by
    rintro ⟨ha_, hb_⟩; try simp only [Bool.and_eq_false_imp, decide_eq_true_eq, decide_eq_false_iff_not] at qh28
    exact qh28 (by omega) hb_
  have hv1 := varL_len ((m : Int) + 1).toNat (by omega)
  have hv2 := varL_len (gat encCell l i).R.toNat (by omega)
  have hv3 := varL_len (attrNum (gat encCell l i).A).toNat (by omega)
  refine WC.skip (hK24 _ _ (WC.sr (WL.r 2 hs27 [] rfl ?_)))
  refine WL.cl Tryz.call73 rfl (k150_ _ _ _ _ _ _ (SlF.ofOwn ho13 (hs27.ow L12)) ?_ ?_ ?_) ?_
  · first | omega | exact hcb.1 | exact hcx.1
  · omega
  · first | omega | (simp only [List.length_append]; omega)
  rintro _ whs29 ⟨A30, c31, L1_32, rfl, hs29, ho33⟩
  replace hs29 := hs27.callF hs29
  refine ⟨_, rfl, ?_⟩
  replace hs29 := St.back [_] hs29
  refine WL.r 4 hs29 [] rfl (WL.nil (WC.sr (WL.r 3 hs29 [0] rfl (WL.cl Tryz.call73 rfl (k150_ _ _ _ _ _ _ (SlF.ofOwn ho33 (hs29.ow L1_32)) ?_ ?_ ?_) ?_))))
  · first | omega | exact hcb.1 | exact hcx.1
  · omega
  · first | omega | (simp only [List.length_append]; omega)
  rintro _ whs34 ⟨A35, c36, L1_37, rfl, hs34, ho38⟩
  replace hs34 := hs29.callF hs34
  refine ⟨_, rfl, ?_⟩
  replace hs34 := St.back [_] hs34
  refine WL.r 4 hs34 [] rfl (WL.nil (WC.sr (WL.r 3 hs34 [0] rfl (WL.cl Tryz.call138 rfl (k153_ _ _ _ _ _ _) ?_))))
  rintro _ whs39 ⟨rfl, hs39⟩
  replace hs39 := hs34.call0 hs39
  refine ⟨_, rfl, WL.cl Tryz.call73 rfl (k150_ _ _ _ _ _ _ (SlF.ofOwn ho38 (hs39.ow L1_37)) ?_ ?_ ?_) ?_⟩
  · first | omega | exact hcb.1 | exact hcx.1
  · omega
  · first | omega | (simp only [List.length_append]; omega)
  rintro _ whs40 ⟨A41, c42, L1_43, rfl, hs40, ho44⟩
  replace hs40 := hs39.callF hs40
  refine ⟨_, rfl, ?_⟩
  replace hs40 := St.back [_] hs40
  refine WL.r 4 hs40 [] rfl (WL.nil (WC.region (WL.r 1 hs40 [] rfl (WL.nil (hK17 _ _ (WC.region (WL.r 2 hs40 [] rfl ?_)))))))
  refine WL.nil (tkN ?_)
  replace hs40 := (((hs40.d1.rm L1_37).rm L1_32).rm L12)
  refine ⟨sbF rfl, _, hs40, _, ?_, _, i + 1, 0, _, _, rfl, ?_, ?_, ?_, ?_, ?_, ho44, ⟨rfl, rfl, rfl, trivial⟩⟩
  · omega
  · omega
  · omega
  · first | omega | (simp only [List.length_append]; omega)
  · first | (rw [p3, cellsGo_step (by omega), if_pos hnx]) | (rw [p3, cellsGo_step (by omega), if_neg hnx, runB]; simp only [List.append_assoc]; rfl)
  · intro k hk; rcases Nat.lt_or_ge k i with h_ | h_
    · exact p4 k h_
    · obtain rfl : k = i := by omega
      exact hci
 have hok : cellsOk l = true := cellsOk_all (fun k hk => p4 k (by omega))
 have hf : cellsFine l = true := by simp [cellsFine, hok]; omega
 refine WC.exit (hK9 _ _ (WC.r1 hs14 [] rfl (WC.ret (retV2 rfl (resV.tmp rfl) (resV.tmp rfl) ?_))))
 rw [hf]
 have hx_ := OwnF.eqOf (xs := cellsOut l) ho13 (by simp only [cellsOut, hf, if_true]; rw [p3, List.drop_eq_nil_of_le (by omega)]; simp [cellsGo])
 rw [← hx_]
 first | exact ⟨_, _, _, rfl, (St.keep1 hs14), ho13⟩ | exact ⟨A10, c11, _, by rw [OwnF.len_ ho13], (St.keep1 hs14), by rw [OwnF.len_ ho13]; exact ho13⟩
theorem k155_ (A_l : Option Addr) (n_l c_l : Nat) (l : List Bool) (w : World) (f_l : SlF encT w A_l n_l l) (hn : n_l ≤ 5) :
    Calls Tryz.prog 137 #[.slice A_l n_l c_l] w fun e w' => e = .returned (.int .i64 (flagsL l)) ∧ St w [] [] w' := by
 have hl := f_l.len
 refine enter 21 Tryz.func137 rfl Tryz.ntmps137 rfl rfl ?_
 have hs1 := St.init w
 refine WC.r1 hs1 [] rfl (WC.r1 hs1 [] rfl (WC.seq (fun K2 hK2 => WC.r1 hs1 [] rfl (WC.block ?_))))
 refine WC.lS [0, 2] rfl hs1 (fun k_ f w' => ∃ (i : Nat), k_ = i + i ∧ (i ≤ l.length) ∧ Sub [(4, .int .i64 ((i : Int) - 1)), (3, .int .i64 (flagsL (l.drop i)))] f) ((fun (i : Nat) => i + i) (l.length)) ?_ ?_
 ·refine ⟨l.length, rfl, ?_, ⟨?_, ?_, trivial⟩⟩
  · exact Nat.le_refl _
  · (refine congrArg some (congrArg (Value.int _) ?_); omega)
  · (refine congrArg some (congrArg (Value.int _) ?_); rw [List.drop_length]; rfl)
 clear hs1
 rintro _ f w ⟨i, rfl, p0, hG⟩ hF hs3
 refine WC.sub _ (hG.app hF) ?_
 clear hG hF
 have hfb := flagsL_le (l := l.drop i) (by rw [List.length_drop]; omega)
 refine WC.seq (fun K4 hK4 => WC.r1 hs3 [] rfl ?_)
 refine WC.cq rfl (fun h5 qh5 => ?_) (fun h5 qh5 => ?_)
 ·have hfd : flagsL (l.drop (i - 1)) = flagsL (l.drop i) * 2 + bitI (gat encT l (i - 1)) 1 := by have h9 := flagsL_drop (l := l) (i := i - 1) (by omega); rwa [show i - 1 + 1 = i by omega] at h9
  refine WC.skip (hK4 _ _ (WC.seq (fun K6 hK6 => WC.block (WC.r1 hs3 [] rfl (WC.sr (WL.r 2 hs3 [] rfl ?_))))))
  refine WL.val rfl rfl rfl (Run.idxK (i - 1) Tryz.runUnderlying177 Tryz.sizeOf4 rfl rfl rfl ?_ ?_ ?_) ?_
  · exact SlF.some_ (SlF.st0 f_l hs3)
  · omega
  · omega
  refine WL.val rfl rfl rfl (Run.load Tryz.isAgg4 rfl rfl (SlF.one1 (SlF.st0 f_l hs3) ?_ rfl)) ?_
  · omega
  refine WL.nil (WC.cq rfl (fun h7 qh7 => ?_) (fun h7 qh7 => ?_))
  ·have hb1 : bitI (gat encT l (i - 1)) 1 = 1 := by unfold bitI; rw [h7]; rfl
   refine WC.region (WL.r 3 hs3 [] rfl (WL.nil (hK6 _ _ (WC.region (WL.r 3 hs3 [] rfl (WL.nil (tkN ?_)))))))
   refine ⟨sbF rfl, hs3, _, ?_, i - 1, rfl, ?_, ⟨?_, ?_, trivial⟩⟩
   · omega
   · omega
   · (refine congrArg some (congrArg (Value.int _) ?_); omega)
   · (refine congrArg some (congrArg (Value.int _) ?_); rw [hfd, hb1]; try omega)
  have hb1 : bitI (gat encT l (i - 1)) 1 = 0 := by unfold bitI; rw [h7]; rfl
  refine WC.skip (hK6 _ _ (WC.region (WL.r 3 hs3 [] rfl (WL.nil (tkN ?_)))))
  refine ⟨sbF rfl, hs3, _, ?_, i - 1, rfl, ?_, ⟨?_, ?_, trivial⟩⟩
  · omega
  · omega
  · (refine congrArg some (congrArg (Value.int _) ?_); omega)
  · (refine congrArg some (congrArg (Value.int _) ?_); rw [hfd, hb1]; try omega)
 refine WC.exit (hK2 _ _ (WC.r1 hs3 [] rfl (WC.ret (rtv rfl rfl hs3 ?_))))
 rw [show i = 0 by omega, List.drop_zero]
theorem k156_ (v_b : Value) (b : List UInt8) (L_b : Hp) (A_l : Option Addr) (n_l c_l : Nat) (l : List Int) (w : World) (o_b : OwnF encB 5 v_b b L_b) (h_b : Hh w L_b) (f_l : SlF encI w A_l n_l l) (s_l : 0 < n_l → (adr A_l).block ∉ L_b.map (·.1)) (hl : ∀ x, x ∈ l → 0 ≤ x ∧ x ≤ 4294967295) (hx : b.length + 5 * n_l ≤ 268435400) :
    Calls Tryz.prog 76 #[v_b, .slice A_l n_l c_l] w fun e w' => ∃ A c L1, e = .returned (.slice A (b ++ varL l.length ++ numsL l).length c) ∧ St w (L_b.map (·.1)) L1 w' ∧ OwnF encB 5 (.slice A (b ++ varL l.length ++ numsL l).length c) (b ++ varL l.length ++ numsL l) L1 := by
 obtain ⟨A_b, c_b, rfl⟩ := o_b.shape
 have hll := f_l.len
 have hvl := varL_len ((n_l : Int)).toNat (by omega)
 refine enter 15 Tryz.func76 rfl Tryz.ntmps76 rfl rfl ?_
 have hs1 := St.lent1 w L_b o_b h_b
 refine WC.r1 hs1 [] rfl (WC.sr (WL.r 3 hs1 [] rfl (WL.cl Tryz.call73 rfl (k150_ _ _ _ _ _ _ (SlF.ofOwn o_b (hs1.ow L_b)) ?_ ?_ ?_) ?_)))
 iterate 3 omega
 rintro _ whs2 ⟨A3, c4, L1_5, rfl, hs2, ho6⟩
 replace hs2 := hs1.callF hs2
 refine ⟨_, rfl, WL.r 4 hs2 [] rfl (WL.nil (WC.sr (WL.r 2 hs2 [] rfl (WL.cl Tryz.call71 rfl (k151_ _ _ _ _ _ _ _ _ ho6 (hs2.ow L1_5) (SlF.st f_l hs2 s_l) (St.sepT hs2 f_l s_l) ?_ ?_) ?_))))⟩
 · exact hl
 · (simp only [List.length_append]; omega)
 rintro _ whs7 ⟨A8, c9, L1_10, rfl, hs7, ho11⟩
 replace hs7 := St.lend hs2 hs7
 refine ⟨_, rfl, WL.r 1 hs7 [] rfl (WL.nil (WC.ret (retV1 rfl (resV.tmp rfl) ?_)))⟩
 have hx_ := OwnF.eqOf (xs := b ++ varL l.length ++ numsL l) ho11 (by rw [← hll] at *; first | rfl | simp)
 rw [← hx_]
 first | exact ⟨_, _, _, rfl, (St.keep1 hs7), ho11⟩ | exact ⟨A8, c9, _, by rw [OwnF.len_ ho11], (St.keep1 hs7), by rw [OwnF.len_ ho11]; exact ho11⟩
theorem k157_ (t : TermR) (w : World) (f_t : okTermR 549755813888 w t) (hsm : smTerm 1048576 t.dat) :
    Calls Tryz.prog 72 #[.agg #[i64 t.P.State, .bool t.P.Mark, .slice t.P.Args.A t.P.Args.n t.P.Args.c, .slice t.P.Part.A t.P.Part.n t.P.Part.c, i64 t.S.W, i64 t.S.H, i64 t.S.Main.W, i64 t.S.Main.H, .slice t.S.Main.Cells.A t.S.Main.Cells.n t.S.Main.Cells.c, i64 t.S.Alt.W, i64 t.S.Alt.H, .slice t.S.Alt.Cells.A t.S.Alt.Cells.n t.S.Alt.Cells.c, .bool t.S.OnAlt, i64 t.S.X, i64 t.S.Y, .bool t.S.Wrap, i64 t.S.A.Fg, i64 t.S.A.Bg, .bool t.S.A.Bold, .bool t.S.A.Under, .bool t.S.A.Turn, i64 t.S.Top, i64 t.S.Bot, .bool t.S.NoWrap, .bool t.S.Hide, i64 t.S.SaveX, i64 t.S.SaveY, i64 t.S.SaveA.Fg, i64 t.S.SaveA.Bg, .bool t.S.SaveA.Bold, .bool t.S.SaveA.Under, .bool t.S.SaveA.Turn, .slice t.S.Tabs.A t.S.Tabs.n t.S.Tabs.c, i64 t.S.Limit, .slice t.S.Back.A t.S.Back.n t.S.Back.c]] w fun e w' => ∃ A c L1, e = .returned (.tuple #[.slice A (termOut t.dat).length c, .bool (termFine t.dat)]) ∧ St w [] L1 w' ∧ OwnF encB 5 (.slice A (termOut t.dat).length c) (termOut t.dat) L1 := by
 have nb_t_P_Args := f_t.P.Args_n
 have nl_t_P_Args := f_t.P.Args.len
 have nb_t_P_Part := f_t.P.Part_n
 have nl_t_P_Part := f_t.P.Part.len
 have nb_t_S_Main_Cells := f_t.S.Main.Cells_n
 have nl_t_S_Main_Cells := f_t.S.Main.Cells.len
 have nb_t_S_Alt_Cells := f_t.S.Alt.Cells_n
 have nl_t_S_Alt_Cells := f_t.S.Alt.Cells.len
 have nb_t_S_Tabs := f_t.S.Tabs_n
 have nl_t_S_Tabs := f_t.S.Tabs.len
 have nb_t_S_Back := f_t.S.Back_n
 have nl_t_S_Back := f_t.S.Back.sl.len
 refine enter 147 Tryz.func72 rfl Tryz.ntmps72 rfl rfl ?_
 have hs1 := St.init w
 refine WC.sr (WL.bx hs1 rfl (fun b2 _ hs3 => WL.r 2 hs3 [] rfl (WL.nil (WC.seq (fun K4 hK4 => WC.sr (WL.r 1 hs3 [0] rfl (WL.cl Tryz.call136 rfl (k131_ t _ (okTermR.st0 f_t hs3)) ?_)))))))
 rintro _ whs5 ⟨rfl, hs5⟩
 replace hs5 := hs3.call0 hs5
 refine ⟨_, rfl, WL.r 1 hs5 [] rfl (WL.nil (WC.cq rfl (fun h6 qh6 => ?_) (fun h6 qh6 => ?_)))⟩
 ·have hf : termFine t.dat = false := by unfold termFine; rw [show termOk t.dat = false from by have h9 := h6; simpa using h9]; rfl
  refine WC.r1 hs5 [] rfl (WC.ret (tkR ?_))
  clear hK4
  refine retV2 rfl (resV.tmp rfl) (resV.tmp rfl) ?_
  rw [hf]
  have hx_ := OwnF.eqOf (xs := termOut t.dat) (OwnF.nil encB 5) (by simp [termOut, hf])
  rw [← hx_]
  exact ⟨_, _, _, rfl, hs5.nil, (OwnF.nil encB 5)⟩
 have hok : termOk t.dat = true := by have h9 := h6; simpa using h9
 have hT0 := termOk_P hok
 obtain ⟨hv1, hv2, hv3⟩ := vpOk_bnd hT0.1
 obtain ⟨hgm, hga⟩ := scrOk_main hT0.2
 obtain ⟨hm1, hm2⟩ := gridOk_cells hgm
 obtain ⟨ha1, ha2⟩ := gridOk_cells hga
 have hh := headL_bnd hok
 have htb := scrOk_tabs hT0.2
 have hrw := scrOk_rows hT0.2
 obtain ⟨_, _, _, _, hb5, hb6⟩ := scrOk_bnd hT0.2
 have hp1 : t.P.Part.xs.length ≤ 1048576 := hsm.1.2
 have hp2 : t.S.Tabs.xs.length ≤ 1048576 := hsm.2.2.2.1
 have hp3 : t.P.Args.xs.length ≤ 8 := hv2
 have hp4 : t.S.Main.Cells.xs.length ≤ 4000 := hm1
 have hp5 : t.S.Alt.Cells.xs.length ≤ 4000 := ha1
 have hp6 : t.S.Back.xs.length ≤ 100 := by have h9 : ((t.S.Back.xs.map RowR.dat).length : Int) ≤ t.S.Limit := hb6; have h8 : t.S.Limit ≤ 100 := hb5.2; rw [List.length_map] at h9; omega
 have q1 := numsL_len (l := headL t.dat) (fun x hx => by have := (hh x hx).2; omega)
 have q2 := numsL_len (l := t.P.Args.xs) (fun x hx => by have := (hv3 x hx).2; omega)
 have q3 := numsL_len (l := partI t.P.Part.xs) (fun x hx => by have := (partI_bnd x hx).2; omega)
 rw [partI_len] at q3
 have q4 := numsL_len (l := t.S.Tabs.xs) (fun x hx => by have := (htb x hx).2; omega)
 have q5 : (cellsB t.S.Main.Cells.xs).length ≤ 15 * t.S.Main.Cells.xs.length := cellsB_len hm1 hm2
 have q6 : (cellsB t.S.Alt.Cells.xs).length ≤ 15 * t.S.Alt.Cells.xs.length := cellsB_len ha1 ha2
 have w4 := varL_len ((t.S.Back.n : Int)).toNat (by omega)
 have hhl : (headL t.dat).length = 13 := rfl
 have hhe : [t.S.W, t.S.H, flagsL [t.S.OnAlt, t.S.Wrap, t.S.NoWrap, t.S.Hide, t.P.Mark], t.S.X, t.S.Y, attrNum ⟨t.S.A.Fg, t.S.A.Bg, t.S.A.Bold, t.S.A.Under, t.S.A.Turn⟩, t.S.Top, t.S.Bot, t.S.SaveX, t.S.SaveY, attrNum ⟨t.S.SaveA.Fg, t.S.SaveA.Bg, t.S.SaveA.Bold, t.S.SaveA.Under, t.S.SaveA.Turn⟩, t.S.Limit, t.P.State] = headL t.dat := by rw [flagsL_5]; rfl
 have w1 := varL_len t.P.Args.xs.length (by omega)
 have w2 := varL_len t.P.Part.xs.length (by omega)
 have w3 := varL_len t.S.Tabs.xs.length (by omega)
 have z1 := cellsOut_len t.S.Main.Cells.xs
 have z2 := cellsOut_len t.S.Alt.Cells.xs
 have z5 : (numsL ([t.S.W, t.S.H, flagsL [t.S.OnAlt, t.S.Wrap, t.S.NoWrap, t.S.Hide, t.P.Mark], t.S.X, t.S.Y, attrNum ⟨t.S.A.Fg, t.S.A.Bg, t.S.A.Bold, t.S.A.Under, t.S.A.Turn⟩, t.S.Top, t.S.Bot, t.S.SaveX, t.S.SaveY, attrNum ⟨t.S.SaveA.Fg, t.S.SaveA.Bg, t.S.SaveA.Bold, t.S.SaveA.Under, t.S.SaveA.Turn⟩, t.S.Limit, t.P.State])).length ≤ 65 := by rw [hhe]; omega
 have hcm : cellsOut t.S.Main.Cells.xs = cellsB t.S.Main.Cells.xs := cellsOut_ok hm1 hm2
 have hca : cellsOut t.S.Alt.Cells.xs = cellsB t.S.Alt.Cells.xs := cellsOut_ok ha1 ha2
 refine WC.skip (hK4 _ _ (WC.sr (WL.r 2 hs5 [0] rfl (WL.al hs5 Tryz.zeroValue89 rfl rfl (fun b7 _ hs8 => WL.st tbk hs8 0 rfl rfl (fun _ hs9 => WL.nil (WC.sr ?_)))))))
 refine WL.buildF (F := encI) hs9 ([]) Tryz.runUnderlying60 Tryz.sizeOf3 Tryz.zeroValue3 rfl rfl rfl rfl rfl rfl rfl rfl rfl rfl rfl rfl (fun A13 c14 L10 whs11 hs11 ho12 => ?_)
 replace hs11 := St.back [_, _] hs11
 refine WL.r 1 hs11 [] rfl (WL.nil (WC.seq (fun K15 hK15 => WC.r1 hs11 [1] rfl (WC.block ?_))))
 refine WC.lO [1, 2, 3, 4, 19, 25, 26] rfl (hs11.fr L10) (fun k_ f L_ => ∃ (zs : List Int) (i : Nat) (A16 : Option Addr) (c17 : Nat), k_ = t.P.Part.n - i ∧ (i ≤ t.P.Part.n) ∧ (zs = partI (t.P.Part.xs.take i)) ∧ OwnF encI 3 (.slice A16 (zs.length) c17) (zs) L_ ∧ Sub [(5, .slice A16 (zs.length) c17), (27, .int .i64 i)] f) (t.P.Part.n) ?_ ?_
 ·refine ⟨[], 0, _, _, rfl, ?_, ?_, ho12, ⟨rfl, rfl, trivial⟩⟩
  · exact Nat.zero_le _
  · rfl
 clear hs11
 rintro _ f w L18 ⟨zs, i, A16, c17, rfl, p0, p1, ho19, hG⟩ hF hs20
 refine WC.sub _ (hG.app hF) ?_
 clear hG hF
 replace hs20 := St.back [_, _] hs20
 have hz1 : zs.length ≤ 1048576 := by rw [p1, partI_len, List.length_take]; omega
 refine WC.r1 hs20 [] rfl (WC.seq (fun K21 hK21 => ?_))
 refine WC.cq rfl (fun h22 qh22 => ?_) (fun h22 qh22 => ?_)
 ·refine WC.skip (hK21 _ _ (WC.seq (fun K23 hK23 => WC.block (WC.sr ?_))))
  refine WL.val rfl rfl rfl (Run.idxN Tryz.runUnderlying44 Tryz.sizeOf5 rfl rfl rfl ?_ ?_ ?_) ?_
  · exact SlF.some_ (SlF.st0 f_t.P.Part hs20)
  · omega
  · omega
  refine WL.val rfl rfl rfl (Run.load Tryz.isAgg5 rfl rfl (SlF.one1 (SlF.st0 f_t.P.Part hs20) ?_ rfl)) ?_
  · omega
  refine WL.r 1 hs20 [] rfl (WL.nil (WC.region (WL.r 3 hs20 [] rfl (WL.buildSlice hs20 Tryz.runUnderlying60 Tryz.sizeOf3 Tryz.zeroValue3 rfl rfl rfl rfl rfl rfl rfl rfl rfl rfl (fun b24 whs25 hs25 => ?_)))))
  refine WL.appendG (hs25.fr L18) ho19 (srcI1 Tryz.underlying60 (hs25.own _ (nthL_mem (i := 0) rfl)).1) Tryz.underlying60 inf3 rfl rfl rfl rfl rfl rfl rfl rfl rfl rfl ?_ (fun A29 c30 L26 whs27 hs27 ho28 => ?_)
  · first | omega | (simp only [List.length_append, List.length_nil, List.length_singleton, partI_len]; omega)
  replace hs27 := St.back [_, _, _] hs27
  refine WL.r 1 hs27 [] rfl (WL.nil (hK23 _ _ (WC.region (WL.r 2 hs27 [] rfl (WL.nil (tkN ?_))))))
  replace hs27 := hs27.d1
  refine ⟨sbF rfl, _, (hs27.fr L26), _, ?_, _, i + 1, _, _, rfl, ?_, ?_, ho28, ⟨rfl, rfl, trivial⟩⟩
  · omega
  · omega
  · rw [p1, partI_take (by omega)]
 have hin : i = t.P.Part.n := by omega
 have hz3 : zs = partI t.P.Part.xs := by rw [p1, hin, List.take_of_length_le (by omega)]
 subst hz3
 refine WC.exit (hK15 _ _ (WC.seq (fun K31 hK31 => WC.rH hs20 hs20 (fun _ hs32 => ?_))))
 refine WH.rn [0, 1, 2, 3, 4, 5, 6, 7, 8, 9, 10, 11, 12, 13, 14, 17, 18, 19, 20, 21, 22, 24, 25, 26, 27, 28, 29, 30, 31, 32, 33, 35, 36, 37, 38, 39] hs32 [0, 0, 0, 0, 0, 0, 1, 0, 0, 0, 0, 0, 0, 0, 0, 0, 1] rfl rfl (WH.o1 15 rfl (WL.buildF (F := encT) hs32 ([t.S.OnAlt, t.S.Wrap, t.S.NoWrap, t.S.Hide, t.P.Mark]) Tryz.runUnderlying177 Tryz.sizeOf4 Tryz.zeroValue4 rfl rfl rfl rfl rfl rfl rfl rfl rfl rfl rfl rfl (fun A36 c37 L33 whs34 hs34 ho35 => ?_)))
 replace hs34 := St.back [_, _] hs34
 refine WL.nil ⟨(hs34.rm L33), WH.o1 16 rfl (WL.cl Tryz.call137 rfl (k155_ _ _ _ _ _ (SlF.ofOwn ho35 (hs34.ow L33)) ?_) ?_)⟩
 · first | assumption | rfl | omega | exact Nat.le_refl 5
 rintro _ whs38 ⟨rfl, hs38⟩
 replace hs38 := hs34.call0 hs38
 refine ⟨_, rfl, WL.nil ⟨(hs38.rm L33), WH.o1 23 rfl (WL.cl Tryz.call138 rfl (k153_ _ _ _ _ _ _) ?_)⟩⟩
 rintro _ whs39 ⟨rfl, hs39⟩
 replace hs39 := hs38.call0 hs39
 refine ⟨_, rfl, WL.nil ⟨(hs39.rm L33), WH.o1 34 rfl (WL.cl Tryz.call138 rfl (k153_ _ _ _ _ _ _) ?_)⟩⟩
 rintro _ whs40 ⟨rfl, hs40⟩
 replace hs40 := hs39.call0 hs40
 refine ⟨_, rfl, WL.nil ⟨(hs40.rm L33), WH.o1 40 rfl (WL.buildF (F := encI) hs40 (([t.S.W, t.S.H, flagsL [t.S.OnAlt, t.S.Wrap, t.S.NoWrap, t.S.Hide, t.P.Mark], t.S.X, t.S.Y, attrNum ⟨t.S.A.Fg, t.S.A.Bg, t.S.A.Bold, t.S.A.Under, t.S.A.Turn⟩, t.S.Top, t.S.Bot, t.S.SaveX, t.S.SaveY, attrNum ⟨t.S.SaveA.Fg, t.S.SaveA.Bg, t.S.SaveA.Bold, t.S.SaveA.Under, t.S.SaveA.Turn⟩, t.S.Limit, t.P.State])) Tryz.runUnderlying60 Tryz.sizeOf3 Tryz.zeroValue3 rfl rfl rfl rfl rfl rfl rfl rfl rfl rfl rfl rfl (fun A44 c45 L41 whs42 hs42 ho43 => ?_))⟩⟩
 replace hs42 := St.back [_, _] hs42
 refine WL.nil ⟨((hs42.rm L41).rm L33), WH.o1 41 rfl (WL.cl Tryz.call71 rfl (k151_ _ _ _ _ _ _ _ _ (OwnF.nil _ _) (by simp) (SlF.ofOwn ho43 (hs42.ow L41)) sep_nil ?_ ?_) ?_)⟩
 · first | (exact fun x hx => (by have := hh x (hhe ▸ hx); omega)) | assumption | omega | exact Nat.le_refl 5
 · first | (simp only [List.length_cons, List.length_nil]; omega) | assumption | omega | exact Nat.le_refl 5
 rintro _ whs46 ⟨A47, c48, L1_49, rfl, hs46, ho50⟩
 replace hs46 := St.lend (A := []) hs42 hs46
 refine ⟨_, rfl, ?_⟩
 replace hs46 := St.back [_, _] hs46
 refine WL.nil ⟨(((hs46.rm L1_49).rm L41).rm L33), WH.rn [42] (((hs46.rm L1_49).rm L41).rm L33) [] rfl rfl (WH.dn (hK31 _ _ (WC.sr (WL.r 4 hs46 [1] rfl ?_))))⟩
 refine WL.cl Tryz.call76 rfl (k156_ _ _ _ _ _ _ _ _ ho50 (hs46.ow L1_49) (SlF.st0 f_t.P.Args hs46) (St.sep (hs46.fr L1_49) f_t.P.Args) ?_ ?_) ?_
 · first | exact fun x hx => (by have := hv3 x hx; omega) | exact fun x hx => (by have := partI_bnd x hx; omega) | exact fun x hx => (by have := htb x hx; omega) | assumption | omega | exact Nat.le_refl 5
 · first | omega | (simp only [List.length_append, List.length_nil, partI_len]; omega) | assumption | exact Nat.le_refl 5
 rintro _ whs51 ⟨A52, c53, L1_54, rfl, hs51, ho55⟩
 replace hs51 := St.lend (hs46.fr L1_49) hs51
 refine ⟨_, rfl, ?_⟩
 replace hs51 := St.back [_, _] hs51
 refine WL.r 1 hs51 [] rfl (WL.nil (WC.sr (WL.r 2 hs51 [] rfl (WL.cl Tryz.call76 rfl (k156_ _ _ _ _ _ _ _ _ ho55 (hs51.ow L1_54) (SlF.ofOwn ho19 (hs51.ow L18)) (OwnF.sep (hs51.fr L1_54) (fun p_ hp_ => (List.mem_append_right [_, _] (List.mem_append_right _ (List.mem_append_right _ (List.mem_append_left _ hp_))))) ho19) ?_ ?_) ?_))))
 · first | exact fun x hx => (by have := hv3 x hx; omega) | exact fun x hx => (by have := partI_bnd x hx; omega) | exact fun x hx => (by have := htb x hx; omega) | assumption | omega | exact Nat.le_refl 5
 · first | omega | (simp only [List.length_append, List.length_nil, partI_len]; omega) | assumption | exact Nat.le_refl 5
 rintro _ whs56 ⟨A57, c58, L1_59, rfl, hs56, ho60⟩
 replace hs56 := St.lend (hs51.fr L1_54) hs56
 refine ⟨_, rfl, ?_⟩
 replace hs56 := St.back [_, _] hs56
 refine WL.r 1 hs56 [] rfl (WL.nil (WC.sr (WL.r 3 hs56 [0] rfl (WL.cl Tryz.call76 rfl (k156_ _ _ _ _ _ _ _ _ ho60 (hs56.ow L1_59) (SlF.st0 f_t.S.Tabs hs56) (St.sep (hs56.fr L1_59) f_t.S.Tabs) ?_ ?_) ?_))))
 · first | exact fun x hx => (by have := hv3 x hx; omega) | exact fun x hx => (by have := partI_bnd x hx; omega) | exact fun x hx => (by have := htb x hx; omega) | assumption | omega | exact Nat.le_refl 5
 · first | omega | (simp only [List.length_append, List.length_nil, partI_len]; omega) | assumption | exact Nat.le_refl 5
 rintro _ whs61 ⟨A62, c63, L1_64, rfl, hs61, ho65⟩
 replace hs61 := St.lend (hs56.fr L1_59) hs61
 refine ⟨_, rfl, ?_⟩
 replace hs61 := St.back [_, _] hs61
 refine WL.r 1 hs61 [] rfl (WL.nil (WC.sr (WL.r 3 hs61 [0] rfl (WL.cl Tryz.call139 rfl (k154_ _ _ _ _ _ (SlF.st0 f_t.S.Main.Cells hs61) ?_) ?_))))
 · first | assumption | rfl | omega | exact Nat.le_refl 5
 rintro _ whs66 ⟨A67, c68, L1_69, rfl, hs66, ho70⟩
 replace hs66 := hs61.callF hs66
 refine ⟨_, rfl, ?_⟩
 replace hs66 := St.back [_, _] hs66
 refine WL.r 5 hs66 [] rfl (WL.nil (WC.sr (WL.r 3 hs66 [0] rfl (WL.cl Tryz.call139 rfl (k154_ _ _ _ _ _ (SlF.st0 f_t.S.Alt.Cells hs66) ?_) ?_))))
 · first | assumption | rfl | omega | exact Nat.le_refl 5
 rintro _ whs71 ⟨A72, c73, L1_74, rfl, hs71, ho75⟩
 replace hs71 := hs66.callF hs71
 refine ⟨_, rfl, ?_⟩
 replace hs71 := St.back [_, _] hs71
 refine WL.r 5 hs71 [] rfl (WL.nil (WC.sr (WL.r 2 hs71 [] rfl (WL.appendG (hs71.fr L1_64) ho65 (SlF.src (SlF.ofOwn ho70 (hs71.ow L1_69)) Tryz.underlying44) Tryz.underlying44 inf5 rfl rfl rfl rfl rfl rfl rfl rfl rfl rfl ?_ (fun A79 c80 L76 whs77 hs77 ho78 => ?_)))))
 · first | omega | (simp only [List.length_append, List.length_nil, List.length_singleton, partI_len]; omega)
 replace hs77 := St.back [_, _] hs77
 refine WL.r 1 hs77 [] rfl (WL.appendG (hs77.fr L76) ho78 (SlF.src (SlF.ofOwn ho75 (hs77.ow L1_74)) Tryz.underlying44) Tryz.underlying44 inf5 rfl rfl rfl rfl rfl rfl rfl rfl rfl rfl ?_ (fun A84 c85 L81 whs82 hs82 ho83 => ?_))
 · first | omega | (simp only [List.length_append, List.length_nil, List.length_singleton, partI_len]; omega)
 replace hs82 := St.back [_, _] hs82
 refine WL.r 1 hs82 [] rfl (WL.nil (WC.sr (WL.r 4 hs82 [0] rfl (WL.cl Tryz.call73 rfl (k150_ _ _ _ _ _ _ (SlF.ofOwn ho83 (hs82.ow L81)) ?_ ?_ ?_) ?_))))
 iterate 2 first | omega | assumption | exact Nat.le_refl 5
 · first | omega | (simp only [List.length_append, List.length_nil, partI_len, List.length_take]; omega) | assumption | exact Nat.le_refl 5
 rintro _ whs86 ⟨A87, c88, L1_89, rfl, hs86, ho90⟩
 replace hs86 := hs82.callF hs86
 refine ⟨_, rfl, ?_⟩
 replace hs86 := St.back [_, _] hs86
 refine WL.r 4 hs86 [] rfl (WL.nil (WC.seq (fun K91 hK91 => WC.r1 hs86 [0] rfl (WC.block ?_))))
 refine WC.lO [2, 3, 19, 28, 119, 120] rfl (hs86.fr L1_89) (fun k_ f L_ => ∃ (zs : List UInt8) (i : Nat) (A92 : Option Addr) (c93 : Nat), k_ = t.S.Back.n - i ∧ (i ≤ t.S.Back.n) ∧ (zs = [] ++ numsL ([t.S.W, t.S.H, flagsL [t.S.OnAlt, t.S.Wrap, t.S.NoWrap, t.S.Hide, t.P.Mark], t.S.X, t.S.Y, attrNum ⟨t.S.A.Fg, t.S.A.Bg, t.S.A.Bold, t.S.A.Under, t.S.A.Turn⟩, t.S.Top, t.S.Bot, t.S.SaveX, t.S.SaveY, attrNum ⟨t.S.SaveA.Fg, t.S.SaveA.Bg, t.S.SaveA.Bold, t.S.SaveA.Under, t.S.SaveA.Turn⟩, t.S.Limit, t.P.State]) ++ varL t.P.Args.xs.length ++ numsL t.P.Args.xs ++ varL (partI t.P.Part.xs).length ++ numsL (partI t.P.Part.xs) ++ varL t.S.Tabs.xs.length ++ numsL t.S.Tabs.xs ++ cellsOut t.S.Main.Cells.xs ++ cellsOut t.S.Alt.Cells.xs ++ varL ((t.S.Back.n : Int)).toNat ++ rowsL ((t.S.Back.xs.take i).map RowR.dat)) ∧ OwnF encB 5 (.slice A92 (zs.length) c93) (zs) L_ ∧ Sub [(8, .slice A92 (zs.length) c93), (121, .int .i64 i)] f) (t.S.Back.n) ?_ ?_
 ·refine ⟨[] ++ numsL ([t.S.W, t.S.H, flagsL [t.S.OnAlt, t.S.Wrap, t.S.NoWrap, t.S.Hide, t.P.Mark], t.S.X, t.S.Y, attrNum ⟨t.S.A.Fg, t.S.A.Bg, t.S.A.Bold, t.S.A.Under, t.S.A.Turn⟩, t.S.Top, t.S.Bot, t.S.SaveX, t.S.SaveY, attrNum ⟨t.S.SaveA.Fg, t.S.SaveA.Bg, t.S.SaveA.Bold, t.S.SaveA.Under, t.S.SaveA.Turn⟩, t.S.Limit, t.P.State]) ++ varL t.P.Args.xs.length ++ numsL t.P.Args.xs ++ varL (partI t.P.Part.xs).length ++ numsL (partI t.P.Part.xs) ++ varL t.S.Tabs.xs.length ++ numsL t.S.Tabs.xs ++ cellsOut t.S.Main.Cells.xs ++ cellsOut t.S.Alt.Cells.xs ++ varL ((t.S.Back.n : Int)).toNat, 0, _, _, rfl, ?_, ?_, ho90, ⟨rfl, rfl, trivial⟩⟩
  · exact Nat.zero_le _
  · simp [rowsL]
 clear hs86
 rintro _ f w L94 ⟨zs, i, A92, c93, rfl, r0, r1, ho95, hG⟩ hF hs96
 refine WC.sub _ (hG.app hF) ?_
 clear hG hF
 replace hs96 := St.back [_, _] hs96
 have hz2 : zs.length ≤ 20000000 := by rw [r1]; have q8 := rowsL_len (b := (t.S.Back.xs.take i).map RowR.dat) (fun r hr => hrw r (by obtain ⟨y, hy, rfl⟩ := List.mem_map.1 hr; exact List.mem_map_of_mem (List.mem_of_mem_take hy))); rw [List.length_map, List.length_take] at q8; rw [hhe]; simp only [List.length_append, List.length_nil, partI_len]; omega
 refine WC.r1 hs96 [] rfl (WC.seq (fun K97 hK97 => ?_))
 refine WC.cq rfl (fun h98 qh98 => ?_) (fun h98 qh98 => ?_)
 ·have hrk := rowOk_cells (hrw (RowR.dat (gat encRowR t.S.Back.xs i)) (List.mem_map_of_mem (gat_mem (by omega))))
  have hrc1 : (gat encRowR t.S.Back.xs i).Cells.xs.length ≤ 120 := hrk.1
  have hrn := (SlN.nth f_t.S.Back (show i < t.S.Back.n by omega)).Cells.len
  have hco : cellsOut (gat encRowR t.S.Back.xs i).Cells.xs = cellsB (gat encRowR t.S.Back.xs i).Cells.xs := cellsOut_ok (by omega) hrk.2
  have w5 := varL_len (((gat encRowR t.S.Back.xs i).Cells.n : Int)).toNat (by omega)
  have z6 := cellsOut_len (gat encRowR t.S.Back.xs i).Cells.xs
  refine WC.skip (hK97 _ _ (WC.seq (fun K99 hK99 => WC.block (WC.sr ?_))))
  refine WL.val rfl rfl rfl (Run.idxN Tryz.runUnderlying87 Tryz.sizeOf181 rfl rfl rfl ?_ ?_ ?_) ?_
  · exact SlF.some_ (SlF.st0 f_t.S.Back.sl hs96)
  · omega
  · omega
  refine WL.val rfl rfl rfl (Run.loadA Tryz.isAgg181 Tryz.sizeOf181 rfl rfl (SlF.whole (SlF.st0 f_t.S.Back.sl hs96) ?_)) ?_
  · omega
  refine WL.al hs96 Tryz.zeroValue181 rfl rfl (fun b100 _ hs101 => WL.st tbk hs101 0 rfl rfl (fun _ hs102 => WL.nil (WC.sr (WL.r 2 hs102 [0] rfl ?_))))
  refine WL.cl Tryz.call139 rfl (k154_ _ _ _ _ _ (SlF.st0 (SlN.nth f_t.S.Back (by omega)).Cells hs102) ?_) ?_
  · first | assumption | rfl | omega | exact Nat.le_refl 5
  rintro _ whs103 ⟨A104, c105, L1_106, rfl, hs103, ho107⟩
  replace hs103 := hs102.callF hs103
  refine ⟨_, rfl, ?_⟩
  replace hs103 := St.back [_, _, _] hs103
  refine WL.r 5 hs103 [] rfl (WL.nil (WC.sr (WL.r 4 hs103 [0] rfl (WL.cl Tryz.call73 rfl (k150_ _ _ _ _ _ _ (SlF.ofOwn ho95 (hs103.ow L94)) ?_ ?_ ?_) ?_))))
  iterate 2 first | omega | assumption | exact Nat.le_refl 5
  · first | omega | (simp only [List.length_append, List.length_nil, partI_len, List.length_take]; omega) | assumption | exact Nat.le_refl 5
  rintro _ whs108 ⟨A109, c110, L1_111, rfl, hs108, ho112⟩
  replace hs108 := hs103.callF hs108
  refine ⟨_, rfl, ?_⟩
  replace hs108 := St.back [_, _, _] hs108
  refine WL.r 4 hs108 [] rfl (WL.nil (WC.region (WL.r 2 hs108 [] rfl (WL.appendG (hs108.fr L1_111) ho112 (SlF.src (SlF.ofOwn ho107 (hs108.ow L1_106)) Tryz.underlying44) Tryz.underlying44 inf5 rfl rfl rfl rfl rfl rfl rfl rfl rfl rfl ?_ (fun A116 c117 L113 whs114 hs114 ho115 => ?_)))))
  · first | omega | (simp only [List.length_append, List.length_nil, List.length_singleton, partI_len]; omega)
  replace hs114 := St.back [_, _, _] hs114
  refine WL.r 1 hs114 [] rfl (WL.nil (hK99 _ _ (WC.region (WL.r 2 hs114 [] rfl (WL.nil (tkN ?_))))))
  replace hs114 := ((hs114.d1.rm L1_106).rm L94)
  refine ⟨sbF rfl, _, (hs114.fr L113), _, ?_, _, i + 1, _, _, rfl, ?_, ?_, ho115, ⟨rfl, rfl, trivial⟩⟩
  · omega
  · omega
  · rw [r1, rowsL_take (by omega), hco, hrn]; simp only [List.append_assoc, Int.toNat_natCast, List.nil_append]; try rfl
 have hzl : zs = termL t.dat := by rw [r1, List.take_of_length_le (by omega), hhe, hcm, hca]; unfold termL; simp only [Int.toNat_natCast, List.append_assoc, List.nil_append, partI_len]; have e_ : t.dat.S.Back.length = t.S.Back.n := (List.length_map _).trans nl_t_S_Back; rw [e_]; rfl
 refine WC.exit (hK91 _ _ (WC.seq (fun K118 hK118 => WC.r1 hs96 [] rfl ?_)))
 refine WC.cq rfl (fun h119 qh119 => ?_) (fun h119 qh119 => ?_)
 ·have hf : termFine t.dat = false := by unfold termFine; rw [hok, Bool.true_and, decide_eq_false_iff_not]; rw [← hzl]; have h9 := qh119; omega
  refine WC.r1 hs96 [] rfl (WC.ret (tkR ?_))
  clear hK118
  refine retV2 rfl (resV.tmp rfl) (resV.tmp rfl) ?_
  rw [hf]
  have hx_ := OwnF.eqOf (xs := termOut t.dat) (OwnF.nil encB 5) (by simp [termOut, hf])
  rw [← hx_]
  exact ⟨_, _, _, rfl, hs96.nil, (OwnF.nil encB 5)⟩
 have hf : termFine t.dat = true := by unfold termFine; rw [hok, Bool.true_and, decide_eq_true_eq]; rw [← hzl]; have h9 := qh119; omega
 refine WC.skip (hK118 _ _ (WC.r1 hs96 [] rfl (WC.ret (retV2 rfl (resV.tmp rfl) (resV.tmp rfl) ?_))))
 rw [hf]
 have hx_ := OwnF.eqOf (xs := termOut t.dat) ho95 (by unfold termOut; rw [hf, hzl]; rfl)
 rw [← hx_]
 first | exact ⟨_, _, _, rfl, (St.keep1 (hs96.fr L94)), ho95⟩ | exact ⟨A92, c93, _, by rw [OwnF.len_ ho95], (St.keep1 (hs96.fr L94)), by rw [OwnF.len_ ho95]; exact ho95⟩
set_option maxHeartbeats 4000000 in
theorem k158_ (s : StateR) (w : World) (f_s : okStateR 549755813888 w s) (hT : totState s.dat ≤ 1048576) :
    Calls Tryz.prog 56 #[.agg #[i64 s.W, i64 s.H, i64 s.Limit, i64 s.Next, .slice s.Panes.A s.Panes.n s.Panes.c, .slice s.Wins.A s.Wins.n s.Wins.c, .slice s.Sess.A s.Sess.n s.Sess.c]] w fun e w' => e = .returned (.bool (panesOkS s.dat)) ∧ St w [] [] w' := by
 have nb_s_Panes := f_s.Panes_n
 have nl_s_Panes := f_s.Panes.sl.len
 have nb_s_Wins := f_s.Wins_n
 have nl_s_Wins := f_s.Wins.sl.len
 have nb_s_Sess := f_s.Sess_n
 have nl_s_Sess := f_s.Sess.sl.len
 have hsm0 : smState 1048576 s.dat := totState_sm hT
 have hlP : s.dat.Panes.length = s.Panes.xs.length := List.length_map _
 have hlW : s.dat.Wins.length = s.Wins.xs.length := List.length_map _
 have hlS : s.dat.Sess.length = s.Sess.xs.length := List.length_map _
 have hnP : s.dat.Panes.length ≤ 1048576 := hsm0.1
 have hnW : s.dat.Wins.length ≤ 1048576 := hsm0.2.2.1
 have hnS : s.dat.Sess.length ≤ 1048576 := hsm0.2.2.2.2.1
 have hWn : ∀ y, y ∈ s.Wins.xs → y.Tree.n ≤ 1048576 := fun y hy => by have h1 := (f_s.Wins.all y hy).Tree.len; have h2 : y.Tree.xs.length ≤ 1048576 := (hsm0.2.2.2.1 _ (List.mem_map_of_mem hy)).2; omega
 refine enter 91 Tryz.func56 rfl Tryz.ntmps56 rfl rfl ?_
 have hs1 := St.init w
 refine WC.sr (WL.bx hs1 rfl (fun b2 _ hs3 => WL.r 1 hs3 [] rfl (WL.nil (WC.sr (WL.buildF (F := encI) hs3 ([]) Tryz.runUnderlying60 Tryz.sizeOf3 Tryz.zeroValue3 rfl rfl rfl rfl rfl rfl rfl rfl rfl rfl rfl rfl (fun A7 c8 L4 whs5 hs5 ho6 => ?_))))))
 replace hs5 := St.back [_] hs5
 refine WL.r 1 hs5 [] rfl (WL.nil (WC.seq (fun K9 hK9 => WC.r1 hs5 [0] rfl (WC.block ?_))))
 refine WC.lO [1, 10, 11] rfl (hs5.fr L4) (fun k_ f L_ => ∃ (zs : List Int) (i : Nat) (A10 : Option Addr) (c11 : Nat), k_ = s.Panes.n - i ∧ (i ≤ s.Panes.n) ∧ (zs = (pidsL ((s.Panes.xs.take (i)).map PaneR.dat))) ∧ (zs.length ≤ i) ∧ (∀ j, j < i → (paneB s.dat (gat encPaneR s.Panes.xs j).dat = true ∧ (0 < j → (gat encPaneR s.Panes.xs (j - 1)).Id < (gat encPaneR s.Panes.xs j).Id)) ∧ areaB s.dat (gat encPaneR s.Panes.xs j).dat = true) ∧ (zs.Nodup) ∧ OwnF encI 3 (.slice A10 (zs.length) c11) (zs) L_ ∧ Sub [(3, .slice A10 (zs.length) c11), (12, .int .i64 i)] f) (((fun (zs : List Int) (i : Nat) => s.Panes.n - i) ([]) (0))) ?_ ?_
 ·refine ⟨[], 0, _, _, rfl, ?_, ?_, ?_, ?_, ?_, ho6, ⟨rfl, rfl, trivial⟩⟩
  · exact Nat.zero_le _
  · rfl
  · exact Nat.le_refl _
  · exact fun j hj => absurd hj (by omega)
  · exact List.nodup_nil
 clear hs5
 rintro _ f w L12 ⟨zs, i, A10, c11, rfl, p0, p1, p2, p3, p4, ho13, hG⟩ hF hs14
 refine WC.sub _ (hG.app hF) ?_
 clear hG hF
 replace hs14 := St.back [_] hs14
 refine WC.r1 hs14 [] rfl (WC.seq (fun K15 hK15 => ?_))
 refine WC.cq rfl (fun h16 qh16 => ?_) (fun h16 qh16 => ?_)
 ·have hTm := (SlN.nth f_s.Panes (show i < s.Panes.n by omega))
  refine WC.skip (hK15 _ _ (WC.seq (fun K17 hK17 => WC.block (WC.sr (WL.r 1 hs14 [] rfl ?_)))))
  refine WL.val rfl rfl rfl (Run.idxN Tryz.runUnderlying29 Tryz.sizeOf93 rfl rfl rfl ?_ ?_ ?_) ?_
  · exact SlF.some_ (SlF.st0 f_s.Panes.sl hs14)
  · first | omega | (simp only [decide_eq_true_eq] at *; omega)
  · first | omega | (simp only [decide_eq_true_eq] at *; omega)
  refine WL.val rfl rfl rfl (Run.loadA Tryz.isAgg93 Tryz.sizeOf93 rfl rfl (SlF.whole (SlF.st0 f_s.Panes.sl hs14) ?_)) ?_
  · first | omega | (simp only [decide_eq_true_eq] at *; omega)
  refine WL.al hs14 Tryz.zeroValue93 rfl rfl (fun b18 _ hs19 => WL.r 1 hs19 [] rfl (WL.st tbk hs19 0 rfl rfl (fun _ hs20 => WL.nil (WC.seq (fun K21 hK21 => WC.sq1 hs20 (WQ.r 1 [0] rfl ?_))))))
  refine WQ.call rfl rfl rfl (fun w_ hs_ => (Run.call Tryz.call120 rfl rfl rfl)) (fun w_ hs_ => (k133_ (gat encPaneR s.Panes.xs i) _ (okPaneR.st0 (SlN.nth f_s.Panes (by first | omega | (simp only [decide_eq_true_eq] at *; omega))) (hs_ : St _ _ _ _))).mono fun e_ w_ h_ => ⟨h_.1, (hs_ : St _ _ _ _).call0 h_.2⟩) ?_
  refine WQ.r 2 [] rfl (WQ.pO tbk 5 Acts.nil [0, 1] rfl rfl rfl rfl (fun g_ => ⟨rfl, rfl, trivial⟩) (WQ.r 1 [] rfl ?_))
  apply WQ.gO 14 Acts.nil rfl
  ·intro g22 J23
   have qg22 := g22
   try simp only [bf, within_iff, within_not] at qg22
   refine WQ.runA tbk 3 (Acts.nil.cons (j := 10) rfl g22) [] rfl trivial ?_
   apply WQ.gA 10 (Acts.nil.cons (j := 10) rfl g22) rfl
   ·intro g24 J25
    have qg24 := g24
    try simp only [bf, within_iff, within_not] at qg24
    refine WQ.runA tbk 4 (Acts.nil.cons (j := 13) rfl g24) [1] rfl ⟨by omega, rfl, trivial⟩ ?_
    refine WQ.val (wantT rfl g24) rfl rfl (fun w_ hs_ => (Run.idxK ((i - 1)) Tryz.runUnderlying29 Tryz.sizeOf93 rfl rfl rfl ?_ ?_ ?_)) ?_
    · exact SlF.some_ (SlF.st0 f_s.Panes.sl (hs_ : St _ _ _ _))
    · first | omega | (simp only [decide_eq_true_eq] at *; omega)
    · first | omega | (simp only [decide_eq_true_eq] at *; omega)
    refine WQ.val (wantT rfl g24) rfl rfl (fun w_ hs_ => (Run.fieldO Tryz.runUnderlying93 rfl rfl rfl Tryz.sizeOf3 rfl)) ?_
    refine WQ.val (wantT rfl g24) rfl rfl (fun w_ hs_ => (Run.load Tryz.isAgg3 rfl rfl (SlF.fld (SlF.st0 f_s.Panes.sl (hs_ : St _ _ _ _)) ?_ rfl))) ?_
    · first | omega | (simp only [decide_eq_true_eq] at *; omega)
    refine WQ.runA tbk 3 (Acts.nil.cons (j := 13) rfl g24) [0] rfl ⟨rfl, trivial⟩ (WQ.eA 10 (Acts.nil.cons (j := 10) rfl g22) J25 g24 rfl rfl)
   exact WQ.eO 4 Acts.nil J23 g22 rfl rfl
  refine WQ.nil (fun _ (hs26 : St _ _ _ _) => ?_)
  refine WC.cq rfl (fun h27 qh27 => ?_) (fun h27 qh27 => ?_)
  ·have hbad : panesOkS s.dat = false := panesS_no (i := i) (by omega) (by
     show ((paneOk (gat encPaneR s.Panes.xs i).dat && decide ((gat encPaneR s.Panes.xs i).Id < s.Next)) && decide ((gat encPaneR s.Panes.xs i).Term.S.Limit = s.Limit)) = false ∨ _
     have h9 := h27
     grind)
   refine WC.r1 hs26 [] rfl (WC.ret (tkR (ibR (tkR (tkR (ibR (tkR ?_)))))))
   clear hK21 hK17 hK9
   refine rtv rfl rfl hs26 ?_
   first | rw [hbad] | rw [hall]
  have h42 := h27
  refine WC.skip (hK21 _ _ (WC.sr (WL.r 3 hs26 [1, 0] rfl ?_)))
  refine WL.cl Tryz.call16 rfl (k118_ s _ _ (okStateR.st0 f_s hs26) ?_) ?_
  · first | assumption | rfl | omega
  rintro _ whs28 ⟨rfl, hs28⟩
  replace hs28 := hs26.call0 hs28
  refine ⟨_, rfl, WL.r 5 hs28 [] rfl (WL.nil (WC.seq (fun K29 hK29 => WC.sr (WL.r 7 hs28 [0] rfl (WL.pO tbk 6 Acts.nil hs28 [0] rfl rfl rfl rfl (fun g_ => ⟨rfl, trivial⟩) (WL.r 1 hs28 [] rfl ?_))))))⟩
  refine WL.pO tbk 7 Acts.nil hs28 [0, 1] rfl rfl rfl rfl (fun g_ => ⟨rfl, rfl, trivial⟩) (WL.nil (WC.cq rfl (fun h30 qh30 => ?_) (fun h30 qh30 => ?_)))
  ·have hbad : panesOkS s.dat = false := panesS_no (i := i) (by omega) (by
     show ((paneOk (gat encPaneR s.Panes.xs i).dat && decide ((gat encPaneR s.Panes.xs i).Id < s.Next)) && decide ((gat encPaneR s.Panes.xs i).Term.S.Limit = s.Limit)) = false ∨ _ ∨ decide (areaD s.dat (gat encPaneR s.Panes.xs i).Id = ((gat encPaneR s.Panes.xs i).Term.S.W, (gat encPaneR s.Panes.xs i).Term.S.H)) = false
     have h9 := h30
     simp only [Bool.or_eq_true, Bool.not_eq_true', decide_eq_true_eq, decide_eq_false_iff_not, Bool.and_eq_false_iff, Prod.ext_iff] at h9 ⊢
     grind)
   refine WC.r1 hs28 [] rfl (WC.ret (tkR (ibR (tkR (tkR (ibR (tkR ?_)))))))
   clear hK29 hK17 hK9
   refine rtv rfl rfl hs28 ?_
   first | rw [hbad] | rw [hall]
  have hgood : (paneB s.dat (gat encPaneR s.Panes.xs i).dat = true ∧ (0 < i → (gat encPaneR s.Panes.xs (i - 1)).Id < (gat encPaneR s.Panes.xs i).Id)) ∧ areaB s.dat (gat encPaneR s.Panes.xs i).dat = true := by
    show (((paneOk (gat encPaneR s.Panes.xs i).dat && decide ((gat encPaneR s.Panes.xs i).Id < s.Next)) && decide ((gat encPaneR s.Panes.xs i).Term.S.Limit = s.Limit)) = true ∧ _) ∧ decide (areaD s.dat (gat encPaneR s.Panes.xs i).Id = ((gat encPaneR s.Panes.xs i).Term.S.W, (gat encPaneR s.Panes.xs i).Term.S.H)) = true
    have h9 := h30
    simp only [Bool.and_eq_true, Bool.or_eq_false_iff, Bool.not_eq_false', decide_eq_true_eq, decide_eq_false_iff_not, Prod.ext_iff] at h9 ⊢
    grind
  refine WC.skip (hK29 _ _ (WC.seq (fun K31 hK31 => WC.sr (WL.r 4 hs28 [0] rfl ?_))))
  apply WL.gA 4 Acts.nil hs28 rfl
  ·intro g32 J33
   have qg32 := g32
   try simp only [bf, within_iff, within_not] at qg32
   refine WL.runA tbk 3 (Acts.nil.cons (j := 3) rfl g32) hs28 [0] rfl ⟨rfl, trivial⟩ (WL.call (wantT rfl g32) rfl rfl (Run.call Tryz.call39 rfl rfl rfl) (k89_ _ _ _ _ _ _ (SlF.ofOwn ho13 (hs28.ow L12)) ?_) ?_)
   · first | assumption | rfl | omega
   rintro _ whs34 ⟨rfl, hs34⟩
   replace hs34 := hs28.call0 hs34
   refine ⟨_, rfl, WL.eA 4 Acts.nil J33 hs34 g32 rfl rfl⟩
  intro _ hs35
  refine WL.nil (WC.cq rfl (fun h36 qh36 => ?_) (fun h36 qh36 => ?_))
  ·have hbad : panesOkS s.dat = false := by
     have hpq := panesI_pid (s := s) (i := i) (by omega) (by grind) (by rw [← p1]; grind [hasI])
     unfold panesOkS
     rw [hpq, Bool.and_false]
   refine WC.r1 hs35 [] rfl (WC.ret (tkR (ibR (tkR (tkR (ibR (tkR ?_)))))))
   clear hK31 hK17 hK9
   refine rtv rfl rfl hs35 ?_
   first | rw [hbad] | rw [hall]
  have hpid : ¬ ((gat encPaneR s.Panes.xs i).Life = 1 ∧ (gat encPaneR s.Panes.xs i).Pid ∈ zs) := by
    have h9 := h36
    grind [hasI]
  refine WC.skip (hK31 _ _ (WC.r1 hs35 [0] rfl ?_))
  refine WC.cq rfl (fun h37 qh37 => ?_) (fun h37 qh37 => ?_)
  ·refine WC.region (WL.r 3 hs35 [0] rfl (WL.buildSlice hs35 Tryz.runUnderlying60 Tryz.sizeOf3 Tryz.zeroValue3 rfl rfl rfl rfl rfl rfl rfl rfl rfl rfl (fun b38 whs39 hs39 => ?_)))
   refine WL.appendG (hs39.fr L12) ho13 (srcI1 Tryz.underlying60 (hs39.own _ (nthL_mem (i := 0) rfl)).1) Tryz.underlying60 inf3 rfl rfl rfl rfl rfl rfl rfl rfl rfl rfl ?_ (fun A43 c44 L40 whs41 hs41 ho42 => ?_)
   · first | omega | (simp only [List.length_append, List.length_cons, List.length_nil]; omega)
   replace hs41 := St.back [_, _, _] hs41
   refine WL.r 1 hs41 [] rfl (WL.nil (hK17 _ _ (WC.region (WL.r 2 hs41 [] rfl (WL.nil (tkN ?_))))))
   replace hs41 := hs41.d1.d1
   refine ⟨sbF rfl, _, (hs41.fr L40), _, ?_, _, i + 1, _, _, rfl, ?_, ?_, ?_, ?_, ?_, ho42, ⟨rfl, rfl, trivial⟩⟩
   · omega
   · omega
   · rw [pidsL_take (by omega), p1]; first | (rw [if_pos (by grind)]) | (rw [if_neg (by grind), List.append_nil])
   · (try rw [List.length_append]); (try simp only [List.length_cons, List.length_nil]); omega
   · intro j hj; rcases Nat.lt_or_ge j i with h_ | h_
     · exact p3 j h_
     · obtain rfl : j = i := by omega
       exact hgood
   · first | exact p4 | (exact nodup_snoc p4 (fun hm => hpid ⟨by grind, hm⟩))
  refine WC.skip (hK17 _ _ (WC.region (WL.r 2 hs35 [] rfl (WL.nil (tkN ?_)))))
  replace hs35 := hs35.d1
  refine ⟨sbF rfl, _, (hs35.fr L12), _, ?_, _, i + 1, _, _, rfl, ?_, ?_, ?_, ?_, ?_, ho13, ⟨rfl, rfl, trivial⟩⟩
  · omega
  · omega
  · rw [pidsL_take (by omega), p1]; first | (rw [if_pos (by grind)]) | (rw [if_neg (by grind), List.append_nil])
  · (try rw [List.length_append]); (try simp only [List.length_cons, List.length_nil]); omega
  · intro j hj; rcases Nat.lt_or_ge j i with h_ | h_
    · exact p3 j h_
    · obtain rfl : j = i := by omega
      exact hgood
  · first | exact p4 | (exact nodup_snoc p4 (fun hm => hpid ⟨by grind, hm⟩))
 have hpc : pidsC s.dat = true := pidsC_all (i := i) (by omega) (by rw [← p1]; exact p4)
 have hall := panesS_yes (s := s) (fun j hj => p3 j (by omega)) hpc
 refine WC.exit (hK9 _ _ (WC.r1 hs14 [] rfl (WC.ret (rtv rfl rfl hs14 ?_))))
 first | rw [hbad] | rw [hall]
set_option maxHeartbeats 4000000 in
theorem k159_ (s : StateR) (w : World) (f_s : okStateR 549755813888 w s) (hT : totState s.dat ≤ 1048576) :
    Calls Tryz.prog 54 #[.agg #[i64 s.W, i64 s.H, i64 s.Limit, i64 s.Next, .slice s.Panes.A s.Panes.n s.Panes.c, .slice s.Wins.A s.Wins.n s.Wins.c, .slice s.Sess.A s.Sess.n s.Sess.c]] w fun e w' => e = .returned (.bool (winsOkS s.dat)) ∧ St w [] [] w' := by
 have nb_s_Panes := f_s.Panes_n
 have nl_s_Panes := f_s.Panes.sl.len
 have nb_s_Wins := f_s.Wins_n
 have nl_s_Wins := f_s.Wins.sl.len
 have nb_s_Sess := f_s.Sess_n
 have nl_s_Sess := f_s.Sess.sl.len
 have hsm0 : smState 1048576 s.dat := totState_sm hT
 have hlP : s.dat.Panes.length = s.Panes.xs.length := List.length_map _
 have hlW : s.dat.Wins.length = s.Wins.xs.length := List.length_map _
 have hlS : s.dat.Sess.length = s.Sess.xs.length := List.length_map _
 have hnP : s.dat.Panes.length ≤ 1048576 := hsm0.1
 have hnW : s.dat.Wins.length ≤ 1048576 := hsm0.2.2.1
 have hnS : s.dat.Sess.length ≤ 1048576 := hsm0.2.2.2.2.1
 have hWn : ∀ y, y ∈ s.Wins.xs → y.Tree.n ≤ 1048576 := fun y hy => by have h1 := (f_s.Wins.all y hy).Tree.len; have h2 : y.Tree.xs.length ≤ 1048576 := (hsm0.2.2.2.1 _ (List.mem_map_of_mem hy)).2; omega
 have hWnm : ∀ y, y ∈ s.Wins.xs → y.Name.size ≤ 1048576 := fun y hy => (hsm0.2.2.2.1 _ (List.mem_map_of_mem hy)).1
 refine enter 112 Tryz.func54 rfl Tryz.ntmps54 rfl rfl ?_
 have hs1 := St.init w
 refine WC.sr (WL.bx hs1 rfl (fun b2 _ hs3 => WL.r 1 hs3 [] rfl (WL.nil (WC.sr (WL.buildF (F := encI) hs3 ([]) Tryz.runUnderlying60 Tryz.sizeOf3 Tryz.zeroValue3 rfl rfl rfl rfl rfl rfl rfl rfl rfl rfl rfl rfl (fun A7 c8 L4 whs5 hs5 ho6 => ?_))))))
 replace hs5 := St.back [_] hs5
 refine WL.r 1 hs5 [] rfl (WL.nil (WC.seq (fun K9 hK9 => WC.r1 hs5 [0] rfl (WC.block ?_))))
 refine WC.lO [1, 12, 13] rfl (hs5.fr L4) (fun k_ f L_ => ∃ (zs : List Int) (i : Nat) (A10 : Option Addr) (c11 : Nat), k_ = s.Wins.n - i ∧ (i ≤ s.Wins.n) ∧ (zs = (treesL ((s.Wins.xs.take (i)).map WinR.dat))) ∧ (zs.length ≤ 31 * i) ∧ (∀ j, j < i → (winB s.dat (gat encWinR s.Wins.xs j).dat = true ∧ (0 < j → (gat encWinR s.Wins.xs (j - 1)).Id < (gat encWinR s.Wins.xs j).Id)) ∧ hasI (pIds s.dat) (gat encWinR s.Wins.xs j).Id = false) ∧ OwnF encI 3 (.slice A10 (zs.length) c11) (zs) L_ ∧ Sub [(3, .slice A10 (zs.length) c11), (14, .int .i64 i)] f) (((fun (zs : List Int) (i : Nat) => s.Wins.n - i) ([]) (0))) ?_ ?_
 ·refine ⟨[], 0, _, _, rfl, ?_, ?_, ?_, ?_, ho6, ⟨rfl, rfl, trivial⟩⟩
  · exact Nat.zero_le _
  · rfl
  · exact Nat.le_refl _
  · exact fun j hj => absurd hj (by omega)
 clear hs5
 rintro _ f w L12 ⟨zs, i, A10, c11, rfl, p0, p1, p2, p3, ho13, hG⟩ hF hs14
 refine WC.sub _ (hG.app hF) ?_
 clear hG hF
 replace hs14 := St.back [_] hs14
 refine WC.r1 hs14 [] rfl (WC.seq (fun K15 hK15 => ?_))
 refine WC.cq rfl (fun h16 qh16 => ?_) (fun h16 qh16 => ?_)
 ·have hTm := (SlN.nth f_s.Wins (show i < s.Wins.n by omega))
  have hTl := hTm.Tree.len
  have hWi := hWn (gat encWinR s.Wins.xs i) (gat_mem (by omega))
  have hWj := hWnm (gat encWinR s.Wins.xs i) (gat_mem (by omega))
  have hll := leavesL_len (gat encWinR s.Wins.xs i).Tree.xs
  refine WC.skip (hK15 _ _ (WC.seq (fun K17 hK17 => WC.block (WC.sr (WL.r 1 hs14 [] rfl ?_)))))
  refine WL.val rfl rfl rfl (Run.idxN Tryz.runUnderlying30 Tryz.sizeOf58 rfl rfl rfl ?_ ?_ ?_) ?_
  · exact SlF.some_ (SlF.st0 f_s.Wins.sl hs14)
  · first | omega | (simp only [decide_eq_true_eq] at *; omega)
  · first | omega | (simp only [decide_eq_true_eq] at *; omega)
  refine WL.val rfl rfl rfl (Run.loadA Tryz.isAgg58 Tryz.sizeOf58 rfl rfl (SlF.whole (SlF.st0 f_s.Wins.sl hs14) ?_)) ?_
  · first | omega | (simp only [decide_eq_true_eq] at *; omega)
  refine WL.al hs14 Tryz.zeroValue58 rfl rfl (fun b18 _ hs19 => WL.r 1 hs19 [] rfl (WL.st tbk hs19 0 rfl rfl (fun _ hs20 => WL.nil (WC.sr (WL.r 6 hs20 [0, 1, 1] rfl ?_)))))
  refine WL.cl Tryz.call111 rfl (k112_ _ _ _ _ _ _ _ (SlF.st0 (SlN.nth f_s.Wins (by first | omega | (simp only [decide_eq_true_eq] at *; omega))).Tree hs20) ?_) ?_
  · first | assumption | rfl | omega | (rw [List.length_take]; omega)
  rintro _ whs21 ⟨A22, c23, L1_24, rfl, hs21, ho25⟩
  replace hs21 := hs20.callF hs21
  refine ⟨_, rfl, ?_⟩
  replace hs21 := St.back [_, _] hs21
  refine WL.r 5 hs21 [] rfl (WL.nil (WC.seq (fun K26 hK26 => WC.seq (fun K27 hK27 => WC.rH hs21 hs21 (fun _ hs28 => ?_)))))
  refine WH.rn [0, 1, 2] hs28 [] rfl rfl (WH.split 31 rfl (fun g29 => ?_) (fun g29 => ?_))
  ·refine WH.takeSkip 3 rfl (by kernel_rfl) (wantNF rfl g29) rfl rfl hs28 (WH.takeSkip 4 rfl (by kernel_rfl) (wantNF rfl g29) rfl rfl hs28 (WH.takeSkip 5 rfl (by kernel_rfl) (wantNF rfl g29) rfl rfl hs28 ?_))
   refine WH.take 6 rfl (by kernel_rfl) rfl rfl rfl hs28 (fun w_ hs_ => (Run.pickT rfl rfl g29 rfl)) ?_
   refine WH.rn [7] hs28 [] rfl rfl (WH.takeSkip 8 rfl (by kernel_rfl) (wantNF rfl rfl) rfl rfl hs28 (WH.takeSkip 9 rfl (by kernel_rfl) (wantNF rfl rfl) rfl rfl hs28 (WH.takeSkip 10 rfl (by kernel_rfl) (wantNF rfl rfl) rfl rfl hs28 (WH.takeSkip 11 rfl (by kernel_rfl) (wantNF rfl rfl) rfl rfl hs28 (WH.takeSkip 12 rfl (by kernel_rfl) (wantNF rfl rfl) rfl rfl hs28 ?_)))))
   refine WH.take 13 rfl (by kernel_rfl) rfl rfl rfl hs28 (fun w_ hs_ => (Run.pickT rfl rfl rfl rfl)) ?_
   refine WH.rn [14] hs28 [] rfl rfl (WH.takeSkip 15 rfl (by kernel_rfl) (wantNF rfl rfl) rfl rfl hs28 (WH.takeSkip 16 rfl (by kernel_rfl) (wantNF rfl rfl) rfl rfl hs28 (WH.takeSkip 17 rfl (by kernel_rfl) (wantNF rfl rfl) rfl rfl hs28 (WH.takeSkip 18 rfl (by kernel_rfl) rfl rfl rfl hs28 (WH.takeSkip 19 rfl (by kernel_rfl) rfl rfl rfl hs28 (WH.takeSkip 20 rfl (by kernel_rfl) rfl rfl rfl hs28 (WH.takeSkip 21 rfl (by kernel_rfl) rfl rfl rfl hs28 ?_)))))))
   refine WH.takeSkip 22 rfl (by kernel_rfl) rfl rfl rfl hs28 (WH.takeSkip 23 rfl (by kernel_rfl) rfl rfl rfl hs28 (WH.takeSkip 24 rfl (by kernel_rfl) rfl rfl rfl hs28 (WH.takeSkip 25 rfl (by kernel_rfl) rfl rfl rfl hs28 (WH.takeSkip 26 rfl (by kernel_rfl) rfl rfl rfl hs28 (WH.takeSkip 27 rfl (by kernel_rfl) rfl rfl rfl hs28 (WH.takeSkip 28 rfl (by kernel_rfl) (wantNF rfl rfl) rfl rfl hs28 ?_))))))
   refine WH.take 29 rfl (by kernel_rfl) rfl rfl rfl hs28 (fun w_ hs_ => (Run.pickT rfl rfl rfl rfl)) ?_
   refine WH.rn [30] hs28 [] rfl rfl (WH.takeSkip 31 rfl (by kernel_rfl) (wantNF rfl rfl) rfl rfl hs28 (WH.takeSkip 32 rfl (by kernel_rfl) (wantNF rfl rfl) rfl rfl hs28 (WH.takeSkip 33 rfl (by kernel_rfl) (wantNF rfl rfl) rfl rfl hs28 (WH.o1 34 rfl (WL.skip (wantNF rfl rfl) rfl rfl (WL.nil ⟨hs28, WH.takeSkip 35 rfl (by kernel_rfl) (wantNF rfl rfl) rfl rfl hs28 ?_⟩))))))
   refine WH.take 36 rfl (by kernel_rfl) rfl rfl rfl hs28 (fun w_ hs_ => (Run.pickT rfl rfl rfl rfl)) ?_
   refine WH.rn [37] hs28 [] rfl rfl (WH.takeSkip 38 rfl (by kernel_rfl) (wantNF rfl rfl) rfl rfl hs28 (WH.takeSkip 39 rfl (by kernel_rfl) (wantNF rfl rfl) rfl rfl hs28 (WH.o1 40 rfl (WL.skip (wantNF rfl rfl) rfl rfl (WL.nil ⟨hs28, WH.takeSkip 41 rfl (by kernel_rfl) (wantNF rfl rfl) rfl rfl hs28 ?_⟩)))))
   refine WH.take 42 rfl (by kernel_rfl) rfl rfl rfl hs28 (fun w_ hs_ => (Run.pickT rfl rfl rfl rfl)) ?_
   refine WH.rn [43] hs28 [] rfl rfl (WH.takeSkip 44 rfl (by kernel_rfl) (wantNF rfl rfl) rfl rfl hs28 (WH.takeSkip 45 rfl (by kernel_rfl) (wantNF rfl rfl) rfl rfl hs28 (WH.takeSkip 47 rfl (by kernel_rfl) (wantNF rfl rfl) rfl rfl hs28 (WH.takeSkip 48 rfl (by kernel_rfl) (wantNF rfl rfl) rfl rfl hs28 (WH.o1 46 rfl (WL.skip (wantNF rfl rfl) rfl rfl (WL.nil ⟨hs28, ?_⟩)))))))
   refine WH.o1 49 rfl (WL.skip (wantNF rfl rfl) rfl rfl (WL.nil ⟨hs28, WH.takeSkip 50 rfl (by kernel_rfl) (wantNF rfl rfl) rfl rfl hs28 ?_⟩))
   refine WH.take 51 rfl (by kernel_rfl) rfl rfl rfl hs28 (fun w_ hs_ => (Run.pickT rfl rfl rfl rfl)) ?_
   refine WH.dn (hK27 _ _ (WC.condT rfl rfl ?_))
   have hbad : winsOkS s.dat = false := winsS_no (i := i) (by omega) (by
     show (((decide (1 ≤ (gat encWinR s.Wins.xs i).Id) && decide ((gat encWinR s.Wins.xs i).Id < s.Next)) && (wordOk (gat encWinR s.Wins.xs i).Name && placesOk (gat encWinR s.Wins.xs i).Tree.xs s.W s.H)) && hasI (panesL (gat encWinR s.Wins.xs i).Tree.xs) (gat encWinR s.Wins.xs i).Active) = false ∨ _
     rw [← paneAt_has]
     by_cases hpl : placesOk (gat encWinR s.Wins.xs i).Tree.xs s.W s.H = true
     · have hlp := leaves_panes hpl
       grind
     · grind)
   refine WC.r1 hs28 [] rfl (WC.ret (tkR (ibR (tkR (tkR (ibR (tkR ?_)))))))
   clear hK26 hK17 hK9
   refine rtv rfl rfl hs28 ?_
   first | rw [hbad] | (unfold winsOkS; rw [hWc, hall, Bool.true_and]; congr 1; rw [decide_eq_decide]; omega)
  refine WH.rnA (Acts.nil.cons (j := 2) rfl g29) [3, 4, 5] hs28 [0] rfl rfl ?_
  refine WH.take 6 rfl (by kernel_rfl) rfl rfl rfl hs28 (fun w_ hs_ => (Run.pick rfl rfl rfl rfl)) ?_
  refine WH.rn [7] hs28 [] rfl rfl (WH.split 36 rfl (fun g31 => ?_) (fun g31 => ?_))
  ·refine WH.takeSkip 8 rfl (by kernel_rfl) (wantNF rfl g31) rfl rfl hs28 (WH.takeSkip 9 rfl (by kernel_rfl) (wantNF rfl g31) rfl rfl hs28 (WH.takeSkip 10 rfl (by kernel_rfl) (wantNF rfl g31) rfl rfl hs28 (WH.takeSkip 11 rfl (by kernel_rfl) (wantNF rfl g31) rfl rfl hs28 (WH.takeSkip 12 rfl (by kernel_rfl) (wantNF rfl g31) rfl rfl hs28 ?_))))
   refine WH.take 13 rfl (by kernel_rfl) rfl rfl rfl hs28 (fun w_ hs_ => (Run.pickT rfl rfl g31 rfl)) ?_
   refine WH.rn [14] hs28 [] rfl rfl (WH.takeSkip 15 rfl (by kernel_rfl) (wantNF rfl rfl) rfl rfl hs28 (WH.takeSkip 16 rfl (by kernel_rfl) (wantNF rfl rfl) rfl rfl hs28 (WH.takeSkip 17 rfl (by kernel_rfl) (wantNF rfl rfl) rfl rfl hs28 (WH.takeSkip 18 rfl (by kernel_rfl) rfl rfl rfl hs28 (WH.takeSkip 19 rfl (by kernel_rfl) rfl rfl rfl hs28 (WH.takeSkip 20 rfl (by kernel_rfl) rfl rfl rfl hs28 (WH.takeSkip 21 rfl (by kernel_rfl) rfl rfl rfl hs28 ?_)))))))
   refine WH.takeSkip 22 rfl (by kernel_rfl) rfl rfl rfl hs28 (WH.takeSkip 23 rfl (by kernel_rfl) rfl rfl rfl hs28 (WH.takeSkip 24 rfl (by kernel_rfl) rfl rfl rfl hs28 (WH.takeSkip 25 rfl (by kernel_rfl) rfl rfl rfl hs28 (WH.takeSkip 26 rfl (by kernel_rfl) rfl rfl rfl hs28 (WH.takeSkip 27 rfl (by kernel_rfl) rfl rfl rfl hs28 (WH.takeSkip 28 rfl (by kernel_rfl) (wantNF rfl rfl) rfl rfl hs28 ?_))))))
   refine WH.take 29 rfl (by kernel_rfl) rfl rfl rfl hs28 (fun w_ hs_ => (Run.pickT rfl rfl rfl rfl)) ?_
   refine WH.rn [30] hs28 [] rfl rfl (WH.takeSkip 31 rfl (by kernel_rfl) (wantNF rfl rfl) rfl rfl hs28 (WH.takeSkip 32 rfl (by kernel_rfl) (wantNF rfl rfl) rfl rfl hs28 (WH.takeSkip 33 rfl (by kernel_rfl) (wantNF rfl rfl) rfl rfl hs28 (WH.o1 34 rfl (WL.skip (wantNF rfl rfl) rfl rfl (WL.nil ⟨hs28, WH.takeSkip 35 rfl (by kernel_rfl) (wantNF rfl rfl) rfl rfl hs28 ?_⟩))))))
   refine WH.take 36 rfl (by kernel_rfl) rfl rfl rfl hs28 (fun w_ hs_ => (Run.pickT rfl rfl rfl rfl)) ?_
   refine WH.rn [37] hs28 [] rfl rfl (WH.takeSkip 38 rfl (by kernel_rfl) (wantNF rfl rfl) rfl rfl hs28 (WH.takeSkip 39 rfl (by kernel_rfl) (wantNF rfl rfl) rfl rfl hs28 (WH.o1 40 rfl (WL.skip (wantNF rfl rfl) rfl rfl (WL.nil ⟨hs28, WH.takeSkip 41 rfl (by kernel_rfl) (wantNF rfl rfl) rfl rfl hs28 ?_⟩)))))
   refine WH.take 42 rfl (by kernel_rfl) rfl rfl rfl hs28 (fun w_ hs_ => (Run.pickT rfl rfl rfl rfl)) ?_
   refine WH.rn [43] hs28 [] rfl rfl (WH.takeSkip 44 rfl (by kernel_rfl) (wantNF rfl rfl) rfl rfl hs28 (WH.takeSkip 45 rfl (by kernel_rfl) (wantNF rfl rfl) rfl rfl hs28 (WH.takeSkip 47 rfl (by kernel_rfl) (wantNF rfl rfl) rfl rfl hs28 (WH.takeSkip 48 rfl (by kernel_rfl) (wantNF rfl rfl) rfl rfl hs28 (WH.o1 46 rfl (WL.skip (wantNF rfl rfl) rfl rfl (WL.nil ⟨hs28, ?_⟩)))))))
   refine WH.o1 49 rfl (WL.skip (wantNF rfl rfl) rfl rfl (WL.nil ⟨hs28, WH.takeSkip 50 rfl (by kernel_rfl) (wantNF rfl rfl) rfl rfl hs28 ?_⟩))
   refine WH.take 51 rfl (by kernel_rfl) rfl rfl rfl hs28 (fun w_ hs_ => (Run.pickT rfl rfl rfl rfl)) ?_
   refine WH.dn (hK27 _ _ (WC.condT rfl rfl ?_))
   have hbad : winsOkS s.dat = false := winsS_no (i := i) (by omega) (by
     show (((decide (1 ≤ (gat encWinR s.Wins.xs i).Id) && decide ((gat encWinR s.Wins.xs i).Id < s.Next)) && (wordOk (gat encWinR s.Wins.xs i).Name && placesOk (gat encWinR s.Wins.xs i).Tree.xs s.W s.H)) && hasI (panesL (gat encWinR s.Wins.xs i).Tree.xs) (gat encWinR s.Wins.xs i).Active) = false ∨ _
     rw [← paneAt_has]
     by_cases hpl : placesOk (gat encWinR s.Wins.xs i).Tree.xs s.W s.H = true
     · have hlp := leaves_panes hpl
       grind
     · grind)
   refine WC.r1 hs28 [] rfl (WC.ret (tkR (ibR (tkR (tkR (ibR (tkR ?_)))))))
   clear hK26 hK17 hK9
   refine rtv rfl rfl hs28 ?_
   first | rw [hbad] | (unfold winsOkS; rw [hWc, hall, Bool.true_and]; congr 1; rw [decide_eq_decide]; omega)
  refine WH.rnA (Acts.nil.cons (j := 7) rfl g31) [8, 9, 10, 11, 12] hs28 [0, 1] rfl rfl ?_
  refine WH.take 13 rfl (by kernel_rfl) rfl rfl rfl hs28 (fun w_ hs_ => (Run.pick rfl rfl rfl rfl)) ?_
  refine WH.rn [14] hs28 [] rfl rfl (WH.split 43 rfl (fun g33 => ?_) (fun g33 => ?_))
  ·refine WH.takeSkip 15 rfl (by kernel_rfl) (wantNF rfl g33) rfl rfl hs28 (WH.takeSkip 16 rfl (by kernel_rfl) (wantNF rfl g33) rfl rfl hs28 (WH.takeSkip 17 rfl (by kernel_rfl) (wantNF rfl g33) rfl rfl hs28 (WH.takeSkip 18 rfl (by kernel_rfl) rfl rfl rfl hs28 (WH.takeSkip 19 rfl (by kernel_rfl) rfl rfl rfl hs28 (WH.takeSkip 20 rfl (by kernel_rfl) rfl rfl rfl hs28 (WH.takeSkip 21 rfl (by kernel_rfl) rfl rfl rfl hs28 (WH.takeSkip 22 rfl (by kernel_rfl) rfl rfl rfl hs28 ?_)))))))
   refine WH.takeSkip 23 rfl (by kernel_rfl) rfl rfl rfl hs28 (WH.takeSkip 24 rfl (by kernel_rfl) rfl rfl rfl hs28 (WH.takeSkip 25 rfl (by kernel_rfl) rfl rfl rfl hs28 (WH.takeSkip 26 rfl (by kernel_rfl) rfl rfl rfl hs28 (WH.takeSkip 27 rfl (by kernel_rfl) rfl rfl rfl hs28 (WH.takeSkip 28 rfl (by kernel_rfl) (wantNF rfl g33) rfl rfl hs28 ?_)))))
   refine WH.take 29 rfl (by kernel_rfl) rfl rfl rfl hs28 (fun w_ hs_ => (Run.pickT rfl rfl g33 rfl)) ?_
   refine WH.rn [30] hs28 [] rfl rfl (WH.takeSkip 31 rfl (by kernel_rfl) (wantNF rfl rfl) rfl rfl hs28 (WH.takeSkip 32 rfl (by kernel_rfl) (wantNF rfl rfl) rfl rfl hs28 (WH.takeSkip 33 rfl (by kernel_rfl) (wantNF rfl rfl) rfl rfl hs28 (WH.o1 34 rfl (WL.skip (wantNF rfl rfl) rfl rfl (WL.nil ⟨hs28, WH.takeSkip 35 rfl (by kernel_rfl) (wantNF rfl rfl) rfl rfl hs28 ?_⟩))))))
   refine WH.take 36 rfl (by kernel_rfl) rfl rfl rfl hs28 (fun w_ hs_ => (Run.pickT rfl rfl rfl rfl)) ?_
   refine WH.rn [37] hs28 [] rfl rfl (WH.takeSkip 38 rfl (by kernel_rfl) (wantNF rfl rfl) rfl rfl hs28 (WH.takeSkip 39 rfl (by kernel_rfl) (wantNF rfl rfl) rfl rfl hs28 (WH.o1 40 rfl (WL.skip (wantNF rfl rfl) rfl rfl (WL.nil ⟨hs28, WH.takeSkip 41 rfl (by kernel_rfl) (wantNF rfl rfl) rfl rfl hs28 ?_⟩)))))
   refine WH.take 42 rfl (by kernel_rfl) rfl rfl rfl hs28 (fun w_ hs_ => (Run.pickT rfl rfl rfl rfl)) ?_
   refine WH.rn [43] hs28 [] rfl rfl (WH.takeSkip 44 rfl (by kernel_rfl) (wantNF rfl rfl) rfl rfl hs28 (WH.takeSkip 45 rfl (by kernel_rfl) (wantNF rfl rfl) rfl rfl hs28 (WH.takeSkip 47 rfl (by kernel_rfl) (wantNF rfl rfl) rfl rfl hs28 (WH.takeSkip 48 rfl (by kernel_rfl) (wantNF rfl rfl) rfl rfl hs28 (WH.o1 46 rfl (WL.skip (wantNF rfl rfl) rfl rfl (WL.nil ⟨hs28, ?_⟩)))))))
   refine WH.o1 49 rfl (WL.skip (wantNF rfl rfl) rfl rfl (WL.nil ⟨hs28, WH.takeSkip 50 rfl (by kernel_rfl) (wantNF rfl rfl) rfl rfl hs28 ?_⟩))
   refine WH.take 51 rfl (by kernel_rfl) rfl rfl rfl hs28 (fun w_ hs_ => (Run.pickT rfl rfl rfl rfl)) ?_
   refine WH.dn (hK27 _ _ (WC.condT rfl rfl ?_))
   have hbad : winsOkS s.dat = false := winsS_no (i := i) (by omega) (by
     show (((decide (1 ≤ (gat encWinR s.Wins.xs i).Id) && decide ((gat encWinR s.Wins.xs i).Id < s.Next)) && (wordOk (gat encWinR s.Wins.xs i).Name && placesOk (gat encWinR s.Wins.xs i).Tree.xs s.W s.H)) && hasI (panesL (gat encWinR s.Wins.xs i).Tree.xs) (gat encWinR s.Wins.xs i).Active) = false ∨ _
     rw [← paneAt_has]
     by_cases hpl : placesOk (gat encWinR s.Wins.xs i).Tree.xs s.W s.H = true
     · have hlp := leaves_panes hpl
       grind
     · grind)
   refine WC.r1 hs28 [] rfl (WC.ret (tkR (ibR (tkR (tkR (ibR (tkR ?_)))))))
   clear hK26 hK17 hK9
   refine rtv rfl rfl hs28 ?_
   first | rw [hbad] | (unfold winsOkS; rw [hWc, hall, Bool.true_and]; congr 1; rw [decide_eq_decide]; omega)
  refine WH.rnA (Acts.nil.cons (j := 14) rfl g33) [15, 16, 17] hs28 [] rfl rfl (WH.split 46 rfl (fun g35 => ?_) (fun g35 => ?_))
  ·refine WH.rnA (Acts.nil.cons (j := 17) rfl g35) [18, 19, 20, 21] hs28 [1] rfl rfl ?_
   refine WH.take 22 rfl (by kernel_rfl) (wantT rfl g35) rfl rfl hs28 (fun w_ hs_ => (Run.idxK ((i - 1)) Tryz.runUnderlying30 Tryz.sizeOf58 rfl rfl rfl ?_ ?_ ?_)) ?_
   · exact SlF.some_ (SlF.st0 f_s.Wins.sl (hs_ : St _ _ _ _))
   · first | omega | (simp only [decide_eq_true_eq] at *; omega)
   · first | omega | (simp only [decide_eq_true_eq] at *; omega)
   refine WH.take 23 rfl (by kernel_rfl) (wantT rfl g35) rfl rfl hs28 (fun w_ hs_ => (Run.fieldO Tryz.runUnderlying58 rfl rfl rfl Tryz.sizeOf3 rfl)) ?_
   refine WH.take 24 rfl (by kernel_rfl) (wantT rfl g35) rfl rfl hs28 (fun w_ hs_ => (Run.load Tryz.isAgg3 rfl rfl (SlF.fld (SlF.st0 f_s.Wins.sl (hs_ : St _ _ _ _)) ?_ rfl))) ?_
   · first | omega | (simp only [decide_eq_true_eq] at *; omega)
   refine WH.rnA (Acts.nil.cons (j := 17) rfl g35) [25, 26, 27] hs28 [0] rfl rfl ?_
   refine WH.take 28 rfl (by kernel_rfl) (wantF rfl g33) rfl rfl hs28 (fun w_ hs_ => (Run.pick rfl rfl rfl rfl)) ?_
   refine WH.take 29 rfl (by kernel_rfl) rfl rfl rfl hs28 (fun w_ hs_ => (Run.pick rfl rfl rfl rfl)) ?_
   refine WH.rn [30] hs28 [] rfl rfl (WH.split 59 rfl (fun g36 => ?_) (fun g36 => ?_))
   ·refine WH.takeSkip 31 rfl (by kernel_rfl) (wantNF rfl g36) rfl rfl hs28 (WH.takeSkip 32 rfl (by kernel_rfl) (wantNF rfl g36) rfl rfl hs28 (WH.takeSkip 33 rfl (by kernel_rfl) (wantNF rfl g36) rfl rfl hs28 (WH.o1 34 rfl (WL.skip (wantNF rfl g36) rfl rfl (WL.nil ⟨hs28, WH.takeSkip 35 rfl (by kernel_rfl) (wantNF rfl g36) rfl rfl hs28 ?_⟩)))))
    refine WH.take 36 rfl (by kernel_rfl) rfl rfl rfl hs28 (fun w_ hs_ => (Run.pickT rfl rfl g36 rfl)) ?_
    refine WH.rn [37] hs28 [] rfl rfl (WH.takeSkip 38 rfl (by kernel_rfl) (wantNF rfl rfl) rfl rfl hs28 (WH.takeSkip 39 rfl (by kernel_rfl) (wantNF rfl rfl) rfl rfl hs28 (WH.o1 40 rfl (WL.skip (wantNF rfl rfl) rfl rfl (WL.nil ⟨hs28, WH.takeSkip 41 rfl (by kernel_rfl) (wantNF rfl rfl) rfl rfl hs28 ?_⟩)))))
    refine WH.take 42 rfl (by kernel_rfl) rfl rfl rfl hs28 (fun w_ hs_ => (Run.pickT rfl rfl rfl rfl)) ?_
    refine WH.rn [43] hs28 [] rfl rfl (WH.takeSkip 44 rfl (by kernel_rfl) (wantNF rfl rfl) rfl rfl hs28 (WH.takeSkip 45 rfl (by kernel_rfl) (wantNF rfl rfl) rfl rfl hs28 (WH.takeSkip 47 rfl (by kernel_rfl) (wantNF rfl rfl) rfl rfl hs28 (WH.takeSkip 48 rfl (by kernel_rfl) (wantNF rfl rfl) rfl rfl hs28 (WH.o1 46 rfl (WL.skip (wantNF rfl rfl) rfl rfl (WL.nil ⟨hs28, ?_⟩)))))))
    refine WH.o1 49 rfl (WL.skip (wantNF rfl rfl) rfl rfl (WL.nil ⟨hs28, WH.takeSkip 50 rfl (by kernel_rfl) (wantNF rfl rfl) rfl rfl hs28 ?_⟩))
    refine WH.take 51 rfl (by kernel_rfl) rfl rfl rfl hs28 (fun w_ hs_ => (Run.pickT rfl rfl rfl rfl)) ?_
    refine WH.dn (hK27 _ _ (WC.condT rfl rfl ?_))
    have hbad : winsOkS s.dat = false := winsS_no (i := i) (by omega) (by
      show (((decide (1 ≤ (gat encWinR s.Wins.xs i).Id) && decide ((gat encWinR s.Wins.xs i).Id < s.Next)) && (wordOk (gat encWinR s.Wins.xs i).Name && placesOk (gat encWinR s.Wins.xs i).Tree.xs s.W s.H)) && hasI (panesL (gat encWinR s.Wins.xs i).Tree.xs) (gat encWinR s.Wins.xs i).Active) = false ∨ _
      rw [← paneAt_has]
      by_cases hpl : placesOk (gat encWinR s.Wins.xs i).Tree.xs s.W s.H = true
      · have hlp := leaves_panes hpl
        grind
      · grind)
    refine WC.r1 hs28 [] rfl (WC.ret (tkR (ibR (tkR (tkR (ibR (tkR ?_)))))))
    clear hK26 hK17 hK9
    refine rtv rfl rfl hs28 ?_
    first | rw [hbad] | (unfold winsOkS; rw [hWc, hall, Bool.true_and]; congr 1; rw [decide_eq_decide]; omega)
   refine WH.rnA (Acts.nil.cons (j := 30) rfl g36) [31, 32, 33] hs28 [1, 0] rfl rfl (WH.o1 34 rfl (WL.call (wantF rfl g36) rfl rfl (Run.call Tryz.call116 rfl rfl rfl) (k119_ s _ _ (okStateR.st0 f_s hs28)) ?_))
   rintro _ whs38 ⟨rfl, hs38⟩
   replace hs38 := hs28.call0 hs38
   refine ⟨_, rfl, WL.nil ⟨hs38, WH.rnA (Acts.nil.cons (j := 30) rfl g36) [35] hs38 [] rfl rfl ?_⟩⟩
   refine WH.take 36 rfl (by kernel_rfl) rfl rfl rfl hs38 (fun w_ hs_ => (Run.pick rfl rfl rfl rfl)) ?_
   refine WH.rn [37] hs38 [] rfl rfl (WH.split 66 rfl (fun g39 => ?_) (fun g39 => ?_))
   ·refine WH.takeSkip 38 rfl (by kernel_rfl) (wantNF rfl g39) rfl rfl hs38 (WH.takeSkip 39 rfl (by kernel_rfl) (wantNF rfl g39) rfl rfl hs38 (WH.o1 40 rfl (WL.skip (wantNF rfl g39) rfl rfl (WL.nil ⟨hs38, WH.takeSkip 41 rfl (by kernel_rfl) (wantNF rfl g39) rfl rfl hs38 ?_⟩))))
    refine WH.take 42 rfl (by kernel_rfl) rfl rfl rfl hs38 (fun w_ hs_ => (Run.pickT rfl rfl g39 rfl)) ?_
    refine WH.rn [43] hs38 [] rfl rfl (WH.takeSkip 44 rfl (by kernel_rfl) (wantNF rfl rfl) rfl rfl hs38 (WH.takeSkip 45 rfl (by kernel_rfl) (wantNF rfl rfl) rfl rfl hs38 (WH.takeSkip 47 rfl (by kernel_rfl) (wantNF rfl rfl) rfl rfl hs38 (WH.takeSkip 48 rfl (by kernel_rfl) (wantNF rfl rfl) rfl rfl hs38 (WH.o1 46 rfl (WL.skip (wantNF rfl rfl) rfl rfl (WL.nil ⟨hs38, ?_⟩)))))))
    refine WH.o1 49 rfl (WL.skip (wantNF rfl rfl) rfl rfl (WL.nil ⟨hs38, WH.takeSkip 50 rfl (by kernel_rfl) (wantNF rfl rfl) rfl rfl hs38 ?_⟩))
    refine WH.take 51 rfl (by kernel_rfl) rfl rfl rfl hs38 (fun w_ hs_ => (Run.pickT rfl rfl rfl rfl)) ?_
    refine WH.dn (hK27 _ _ (WC.condT rfl rfl ?_))
    have hbad : winsOkS s.dat = false := winsS_no (i := i) (by omega) (by
      show (((decide (1 ≤ (gat encWinR s.Wins.xs i).Id) && decide ((gat encWinR s.Wins.xs i).Id < s.Next)) && (wordOk (gat encWinR s.Wins.xs i).Name && placesOk (gat encWinR s.Wins.xs i).Tree.xs s.W s.H)) && hasI (panesL (gat encWinR s.Wins.xs i).Tree.xs) (gat encWinR s.Wins.xs i).Active) = false ∨ _
      rw [← paneAt_has]
      by_cases hpl : placesOk (gat encWinR s.Wins.xs i).Tree.xs s.W s.H = true
      · have hlp := leaves_panes hpl
        grind
      · grind)
    refine WC.r1 hs38 [] rfl (WC.ret (tkR (ibR (tkR (tkR (ibR (tkR ?_)))))))
    clear hK26 hK17 hK9
    refine rtv rfl rfl hs38 ?_
    first | rw [hbad] | (unfold winsOkS; rw [hWc, hall, Bool.true_and]; congr 1; rw [decide_eq_decide]; omega)
   refine WH.rnA (Acts.nil.cons (j := 37) rfl g39) [38, 39] hs38 [0] rfl rfl (WH.o1 40 rfl (WL.call (wantF rfl g39) rfl rfl (Run.call Tryz.call117 rfl rfl rfl) (k141_ _ _ ?_) ?_))
   · first | assumption | rfl | omega | (rw [List.length_take]; omega)
   rintro _ whs41 ⟨rfl, hs41⟩
   replace hs41 := hs38.call0 hs41
   refine ⟨_, rfl, WL.nil ⟨hs41, WH.rnA (Acts.nil.cons (j := 37) rfl g39) [41] hs41 [] rfl rfl ?_⟩⟩
   refine WH.take 42 rfl (by kernel_rfl) rfl rfl rfl hs41 (fun w_ hs_ => (Run.pick rfl rfl rfl rfl)) ?_
   refine WH.rn [43] hs41 [] rfl rfl (WH.split 72 rfl (fun g42 => ?_) (fun g42 => ?_))
   ·refine WH.takeSkip 44 rfl (by kernel_rfl) (wantNF rfl g42) rfl rfl hs41 (WH.takeSkip 45 rfl (by kernel_rfl) (wantNF rfl g42) rfl rfl hs41 (WH.takeSkip 47 rfl (by kernel_rfl) (wantNF rfl g42) rfl rfl hs41 (WH.takeSkip 48 rfl (by kernel_rfl) (wantNF rfl g42) rfl rfl hs41 (WH.o1 46 rfl (WL.skip (wantNF rfl g42) rfl rfl (WL.nil ⟨hs41, WH.o1 49 rfl ?_⟩))))))
    refine WL.skip (wantNF rfl g42) rfl rfl (WL.nil ⟨hs41, WH.takeSkip 50 rfl (by kernel_rfl) (wantNF rfl g42) rfl rfl hs41 ?_⟩)
    refine WH.take 51 rfl (by kernel_rfl) rfl rfl rfl hs41 (fun w_ hs_ => (Run.pickT rfl rfl g42 rfl)) ?_
    refine WH.dn (hK27 _ _ (WC.condT rfl rfl ?_))
    have hbad : winsOkS s.dat = false := winsS_no (i := i) (by omega) (by
      show (((decide (1 ≤ (gat encWinR s.Wins.xs i).Id) && decide ((gat encWinR s.Wins.xs i).Id < s.Next)) && (wordOk (gat encWinR s.Wins.xs i).Name && placesOk (gat encWinR s.Wins.xs i).Tree.xs s.W s.H)) && hasI (panesL (gat encWinR s.Wins.xs i).Tree.xs) (gat encWinR s.Wins.xs i).Active) = false ∨ _
      rw [← paneAt_has]
      by_cases hpl : placesOk (gat encWinR s.Wins.xs i).Tree.xs s.W s.H = true
      · have hlp := leaves_panes hpl
        grind
      · grind)
    refine WC.r1 hs41 [] rfl (WC.ret (tkR (ibR (tkR (tkR (ibR (tkR ?_)))))))
    clear hK26 hK17 hK9
    refine rtv rfl rfl hs41 ?_
    first | rw [hbad] | (unfold winsOkS; rw [hWc, hall, Bool.true_and]; congr 1; rw [decide_eq_decide]; omega)
   refine WH.rnA (Acts.nil.cons (j := 43) rfl g42) [44, 45, 47, 48] hs41 [0, 0] rfl rfl (WH.o1 46 rfl ?_)
   refine WL.call (wantF rfl g42) rfl rfl (Run.call Tryz.call40 rfl rfl rfl) (k91_ _ _ _ _ _ (SlF.st0 (SlN.nth f_s.Wins (by first | omega | (simp only [decide_eq_true_eq] at *; omega))).Tree hs41) ?_) ?_
   · first | assumption | rfl | omega | (rw [List.length_take]; omega)
   rintro _ whs44 ⟨A45, c46, L1_47, rfl, hs44, ho48⟩
   replace hs44 := hs41.callF hs44
   refine ⟨_, rfl, ?_⟩
   replace hs44 := St.back [_, _] hs44
   refine WL.nil ⟨(hs44.rm L1_47), WH.o1 49 rfl (WL.call (wantF rfl g42) rfl rfl (Run.call Tryz.call39 rfl rfl rfl) (k89_ _ _ _ _ _ _ (SlF.ofOwn ho48 (hs44.ow L1_47)) ?_) ?_)⟩
   · first | assumption | rfl | omega | (rw [List.length_take]; omega)
   rintro _ whs49 ⟨rfl, hs49⟩
   replace hs49 := hs44.call0 hs49
   refine ⟨_, rfl, WL.nil ⟨(hs49.rm L1_47), WH.rnA (Acts.nil.cons (j := 43) rfl g42) [50] (hs49.rm L1_47) [] rfl rfl ?_⟩⟩
   refine WH.take 51 rfl (by kernel_rfl) rfl rfl rfl (hs49.rm L1_47) (fun w_ hs_ => (Run.pick rfl rfl rfl rfl)) ?_
   refine WH.dn (hK27 _ _ ?_)
   refine WC.cq rfl (fun h50 qh50 => ?_) (fun h50 qh50 => ?_)
   ·have hbad : winsOkS s.dat = false := winsS_no (i := i) (by omega) (by
      show (((decide (1 ≤ (gat encWinR s.Wins.xs i).Id) && decide ((gat encWinR s.Wins.xs i).Id < s.Next)) && (wordOk (gat encWinR s.Wins.xs i).Name && placesOk (gat encWinR s.Wins.xs i).Tree.xs s.W s.H)) && hasI (panesL (gat encWinR s.Wins.xs i).Tree.xs) (gat encWinR s.Wins.xs i).Active) = false ∨ _
      rw [← paneAt_has]
      by_cases hpl : placesOk (gat encWinR s.Wins.xs i).Tree.xs s.W s.H = true
      · have hlp := leaves_panes hpl
        grind
      · grind)
    refine WC.r1 hs49 [] rfl (WC.ret (tkR (ibR (tkR (tkR (ibR (tkR ?_)))))))
    clear hK26 hK17 hK9
    refine rtv rfl rfl hs49 ?_
    first | rw [hbad] | (unfold winsOkS; rw [hWc, hall, Bool.true_and]; congr 1; rw [decide_eq_decide]; omega)
   have hpl : placesOk (gat encWinR s.Wins.xs i).Tree.xs s.W s.H = true := by grind
   have hlp := leaves_panes hpl
   have hgood : (winB s.dat (gat encWinR s.Wins.xs i).dat = true ∧ (0 < i → (gat encWinR s.Wins.xs (i - 1)).Id < (gat encWinR s.Wins.xs i).Id)) ∧ hasI (pIds s.dat) (gat encWinR s.Wins.xs i).Id = false := by
     show ((((decide (1 ≤ (gat encWinR s.Wins.xs i).Id) && decide ((gat encWinR s.Wins.xs i).Id < s.Next)) && (wordOk (gat encWinR s.Wins.xs i).Name && placesOk (gat encWinR s.Wins.xs i).Tree.xs s.W s.H)) && hasI (panesL (gat encWinR s.Wins.xs i).Tree.xs) (gat encWinR s.Wins.xs i).Active) = true ∧ _) ∧ _
     rw [← Bool.not_eq_true (hasI (pIds _) _), ← paneAt_has]
     grind
   refine WC.skip (hK26 _ _ (WC.region (WL.r 3 hs49 [0] rfl ?_)))
   refine WL.cl Tryz.call40 rfl (k91_ _ _ _ _ _ (SlF.st0 (SlN.nth f_s.Wins (by first | omega | (simp only [decide_eq_true_eq] at *; omega))).Tree hs49) ?_) ?_
   · first | assumption | rfl | omega | (rw [List.length_take]; omega)
   rintro _ whs51 ⟨A52, c53, L1_54, rfl, hs51, ho55⟩
   replace hs51 := hs49.callF hs51
   refine ⟨_, rfl, ?_⟩
   replace hs51 := St.back [_, _] hs51
   refine WL.appendG (hs51.fr L12) ho13 (SlF.src (SlF.ofOwn ho55 (hs51.ow L1_54)) Tryz.underlying60) Tryz.underlying60 inf3 rfl rfl rfl rfl rfl rfl rfl rfl rfl rfl ?_ (fun A59 c60 L56 whs57 hs57 ho58 => ?_)
   · first | omega | (simp only [List.length_append, List.length_cons, List.length_nil]; omega)
   replace hs57 := St.back [_, _] hs57
   refine WL.r 1 hs57 [] rfl (WL.nil (hK17 _ _ (WC.region (WL.r 2 hs57 [] rfl (WL.nil (tkN ?_))))))
   replace hs57 := (((hs57.d1.rm L1_54).rm L1_47).rm L1_24)
   refine ⟨sbF rfl, _, (hs57.fr L56), _, ?_, _, i + 1, _, _, rfl, ?_, ?_, ?_, ?_, ho58, ⟨rfl, rfl, trivial⟩⟩
   · omega
   · omega
   · rw [treesL_snoc (by omega), p1, leaves_panes hpl]
   · rw [List.length_append]; omega
   · intro j hj; rcases Nat.lt_or_ge j i with h_ | h_
     · exact p3 j h_
     · obtain rfl : j = i := by omega
       exact hgood
  refine WH.takeSkip 18 rfl (by kernel_rfl) (wantNT rfl g35) rfl rfl hs28 (WH.takeSkip 19 rfl (by kernel_rfl) (wantNT rfl g35) rfl rfl hs28 (WH.takeSkip 20 rfl (by kernel_rfl) (wantNT rfl g35) rfl rfl hs28 (WH.takeSkip 21 rfl (by kernel_rfl) (wantNT rfl g35) rfl rfl hs28 (WH.takeSkip 22 rfl (by kernel_rfl) (wantNT rfl g35) rfl rfl hs28 (WH.takeSkip 23 rfl (by kernel_rfl) (wantNT rfl g35) rfl rfl hs28 (WH.takeSkip 24 rfl (by kernel_rfl) (wantNT rfl g35) rfl rfl hs28 (WH.takeSkip 25 rfl (by kernel_rfl) (wantNT rfl g35) rfl rfl hs28 ?_)))))))
  refine WH.takeSkip 26 rfl (by kernel_rfl) (wantNT rfl g35) rfl rfl hs28 (WH.takeSkip 27 rfl (by kernel_rfl) (wantNT rfl g35) rfl rfl hs28 ?_)
  refine WH.take 28 rfl (by kernel_rfl) (wantF rfl g33) rfl rfl hs28 (fun w_ hs_ => (Run.pickF rfl rfl g35 rfl)) ?_
  refine WH.take 29 rfl (by kernel_rfl) rfl rfl rfl hs28 (fun w_ hs_ => (Run.pick rfl rfl rfl rfl)) ?_
  refine WH.rn [30] hs28 [] rfl rfl (WH.split 59 rfl (fun g61 => ?_) (fun g61 => ?_))
  ·refine WH.takeSkip 31 rfl (by kernel_rfl) (wantNF rfl g61) rfl rfl hs28 (WH.takeSkip 32 rfl (by kernel_rfl) (wantNF rfl g61) rfl rfl hs28 (WH.takeSkip 33 rfl (by kernel_rfl) (wantNF rfl g61) rfl rfl hs28 (WH.o1 34 rfl (WL.skip (wantNF rfl g61) rfl rfl (WL.nil ⟨hs28, WH.takeSkip 35 rfl (by kernel_rfl) (wantNF rfl g61) rfl rfl hs28 ?_⟩)))))
   refine WH.take 36 rfl (by kernel_rfl) rfl rfl rfl hs28 (fun w_ hs_ => (Run.pickT rfl rfl g61 rfl)) ?_
   refine WH.rn [37] hs28 [] rfl rfl (WH.takeSkip 38 rfl (by kernel_rfl) (wantNF rfl rfl) rfl rfl hs28 (WH.takeSkip 39 rfl (by kernel_rfl) (wantNF rfl rfl) rfl rfl hs28 (WH.o1 40 rfl (WL.skip (wantNF rfl rfl) rfl rfl (WL.nil ⟨hs28, WH.takeSkip 41 rfl (by kernel_rfl) (wantNF rfl rfl) rfl rfl hs28 ?_⟩)))))
   refine WH.take 42 rfl (by kernel_rfl) rfl rfl rfl hs28 (fun w_ hs_ => (Run.pickT rfl rfl rfl rfl)) ?_
   refine WH.rn [43] hs28 [] rfl rfl (WH.takeSkip 44 rfl (by kernel_rfl) (wantNF rfl rfl) rfl rfl hs28 (WH.takeSkip 45 rfl (by kernel_rfl) (wantNF rfl rfl) rfl rfl hs28 (WH.takeSkip 47 rfl (by kernel_rfl) (wantNF rfl rfl) rfl rfl hs28 (WH.takeSkip 48 rfl (by kernel_rfl) (wantNF rfl rfl) rfl rfl hs28 (WH.o1 46 rfl (WL.skip (wantNF rfl rfl) rfl rfl (WL.nil ⟨hs28, ?_⟩)))))))
   refine WH.o1 49 rfl (WL.skip (wantNF rfl rfl) rfl rfl (WL.nil ⟨hs28, WH.takeSkip 50 rfl (by kernel_rfl) (wantNF rfl rfl) rfl rfl hs28 ?_⟩))
   refine WH.take 51 rfl (by kernel_rfl) rfl rfl rfl hs28 (fun w_ hs_ => (Run.pickT rfl rfl rfl rfl)) ?_
   refine WH.dn (hK27 _ _ (WC.condT rfl rfl ?_))
   have hbad : winsOkS s.dat = false := winsS_no (i := i) (by omega) (by
     show (((decide (1 ≤ (gat encWinR s.Wins.xs i).Id) && decide ((gat encWinR s.Wins.xs i).Id < s.Next)) && (wordOk (gat encWinR s.Wins.xs i).Name && placesOk (gat encWinR s.Wins.xs i).Tree.xs s.W s.H)) && hasI (panesL (gat encWinR s.Wins.xs i).Tree.xs) (gat encWinR s.Wins.xs i).Active) = false ∨ _
     rw [← paneAt_has]
     by_cases hpl : placesOk (gat encWinR s.Wins.xs i).Tree.xs s.W s.H = true
     · have hlp := leaves_panes hpl
       grind
     · grind)
   refine WC.r1 hs28 [] rfl (WC.ret (tkR (ibR (tkR (tkR (ibR (tkR ?_)))))))
   clear hK26 hK17 hK9
   refine rtv rfl rfl hs28 ?_
   first | rw [hbad] | (unfold winsOkS; rw [hWc, hall, Bool.true_and]; congr 1; rw [decide_eq_decide]; omega)
  refine WH.rnA (Acts.nil.cons (j := 30) rfl g61) [31, 32, 33] hs28 [1, 0] rfl rfl (WH.o1 34 rfl (WL.call (wantF rfl g61) rfl rfl (Run.call Tryz.call116 rfl rfl rfl) (k119_ s _ _ (okStateR.st0 f_s hs28)) ?_))
  rintro _ whs63 ⟨rfl, hs63⟩
  replace hs63 := hs28.call0 hs63
  refine ⟨_, rfl, WL.nil ⟨hs63, WH.rnA (Acts.nil.cons (j := 30) rfl g61) [35] hs63 [] rfl rfl ?_⟩⟩
  refine WH.take 36 rfl (by kernel_rfl) rfl rfl rfl hs63 (fun w_ hs_ => (Run.pick rfl rfl rfl rfl)) ?_
  refine WH.rn [37] hs63 [] rfl rfl (WH.split 66 rfl (fun g64 => ?_) (fun g64 => ?_))
  ·refine WH.takeSkip 38 rfl (by kernel_rfl) (wantNF rfl g64) rfl rfl hs63 (WH.takeSkip 39 rfl (by kernel_rfl) (wantNF rfl g64) rfl rfl hs63 (WH.o1 40 rfl (WL.skip (wantNF rfl g64) rfl rfl (WL.nil ⟨hs63, WH.takeSkip 41 rfl (by kernel_rfl) (wantNF rfl g64) rfl rfl hs63 ?_⟩))))
   refine WH.take 42 rfl (by kernel_rfl) rfl rfl rfl hs63 (fun w_ hs_ => (Run.pickT rfl rfl g64 rfl)) ?_
   refine WH.rn [43] hs63 [] rfl rfl (WH.takeSkip 44 rfl (by kernel_rfl) (wantNF rfl rfl) rfl rfl hs63 (WH.takeSkip 45 rfl (by kernel_rfl) (wantNF rfl rfl) rfl rfl hs63 (WH.takeSkip 47 rfl (by kernel_rfl) (wantNF rfl rfl) rfl rfl hs63 (WH.takeSkip 48 rfl (by kernel_rfl) (wantNF rfl rfl) rfl rfl hs63 (WH.o1 46 rfl (WL.skip (wantNF rfl rfl) rfl rfl (WL.nil ⟨hs63, ?_⟩)))))))
   refine WH.o1 49 rfl (WL.skip (wantNF rfl rfl) rfl rfl (WL.nil ⟨hs63, WH.takeSkip 50 rfl (by kernel_rfl) (wantNF rfl rfl) rfl rfl hs63 ?_⟩))
   refine WH.take 51 rfl (by kernel_rfl) rfl rfl rfl hs63 (fun w_ hs_ => (Run.pickT rfl rfl rfl rfl)) ?_
   refine WH.dn (hK27 _ _ (WC.condT rfl rfl ?_))
   have hbad : winsOkS s.dat = false := winsS_no (i := i) (by omega) (by
     show (((decide (1 ≤ (gat encWinR s.Wins.xs i).Id) && decide ((gat encWinR s.Wins.xs i).Id < s.Next)) && (wordOk (gat encWinR s.Wins.xs i).Name && placesOk (gat encWinR s.Wins.xs i).Tree.xs s.W s.H)) && hasI (panesL (gat encWinR s.Wins.xs i).Tree.xs) (gat encWinR s.Wins.xs i).Active) = false ∨ _
     rw [← paneAt_has]
     by_cases hpl : placesOk (gat encWinR s.Wins.xs i).Tree.xs s.W s.H = true
     · have hlp := leaves_panes hpl
       grind
     · grind)
   refine WC.r1 hs63 [] rfl (WC.ret (tkR (ibR (tkR (tkR (ibR (tkR ?_)))))))
   clear hK26 hK17 hK9
   refine rtv rfl rfl hs63 ?_
   first | rw [hbad] | (unfold winsOkS; rw [hWc, hall, Bool.true_and]; congr 1; rw [decide_eq_decide]; omega)
  refine WH.rnA (Acts.nil.cons (j := 37) rfl g64) [38, 39] hs63 [0] rfl rfl (WH.o1 40 rfl (WL.call (wantF rfl g64) rfl rfl (Run.call Tryz.call117 rfl rfl rfl) (k141_ _ _ ?_) ?_))
  · first | assumption | rfl | omega | (rw [List.length_take]; omega)
  rintro _ whs66 ⟨rfl, hs66⟩
  replace hs66 := hs63.call0 hs66
  refine ⟨_, rfl, WL.nil ⟨hs66, WH.rnA (Acts.nil.cons (j := 37) rfl g64) [41] hs66 [] rfl rfl ?_⟩⟩
  refine WH.take 42 rfl (by kernel_rfl) rfl rfl rfl hs66 (fun w_ hs_ => (Run.pick rfl rfl rfl rfl)) ?_
  refine WH.rn [43] hs66 [] rfl rfl (WH.split 72 rfl (fun g67 => ?_) (fun g67 => ?_))
  ·refine WH.takeSkip 44 rfl (by kernel_rfl) (wantNF rfl g67) rfl rfl hs66 (WH.takeSkip 45 rfl (by kernel_rfl) (wantNF rfl g67) rfl rfl hs66 (WH.takeSkip 47 rfl (by kernel_rfl) (wantNF rfl g67) rfl rfl hs66 (WH.takeSkip 48 rfl (by kernel_rfl) (wantNF rfl g67) rfl rfl hs66 (WH.o1 46 rfl (WL.skip (wantNF rfl g67) rfl rfl (WL.nil ⟨hs66, WH.o1 49 rfl ?_⟩))))))
   refine WL.skip (wantNF rfl g67) rfl rfl (WL.nil ⟨hs66, WH.takeSkip 50 rfl (by kernel_rfl) (wantNF rfl g67) rfl rfl hs66 ?_⟩)
   refine WH.take 51 rfl (by kernel_rfl) rfl rfl rfl hs66 (fun w_ hs_ => (Run.pickT rfl rfl g67 rfl)) ?_
   refine WH.dn (hK27 _ _ (WC.condT rfl rfl ?_))
   have hbad : winsOkS s.dat = false := winsS_no (i := i) (by omega) (by
     show (((decide (1 ≤ (gat encWinR s.Wins.xs i).Id) && decide ((gat encWinR s.Wins.xs i).Id < s.Next)) && (wordOk (gat encWinR s.Wins.xs i).Name && placesOk (gat encWinR s.Wins.xs i).Tree.xs s.W s.H)) && hasI (panesL (gat encWinR s.Wins.xs i).Tree.xs) (gat encWinR s.Wins.xs i).Active) = false ∨ _
     rw [← paneAt_has]
     by_cases hpl : placesOk (gat encWinR s.Wins.xs i).Tree.xs s.W s.H = true
     · have hlp := leaves_panes hpl
       grind
     · grind)
   refine WC.r1 hs66 [] rfl (WC.ret (tkR (ibR (tkR (tkR (ibR (tkR ?_)))))))
   clear hK26 hK17 hK9
   refine rtv rfl rfl hs66 ?_
   first | rw [hbad] | (unfold winsOkS; rw [hWc, hall, Bool.true_and]; congr 1; rw [decide_eq_decide]; omega)
  refine WH.rnA (Acts.nil.cons (j := 43) rfl g67) [44, 45, 47, 48] hs66 [0, 0] rfl rfl (WH.o1 46 rfl ?_)
  refine WL.call (wantF rfl g67) rfl rfl (Run.call Tryz.call40 rfl rfl rfl) (k91_ _ _ _ _ _ (SlF.st0 (SlN.nth f_s.Wins (by first | omega | (simp only [decide_eq_true_eq] at *; omega))).Tree hs66) ?_) ?_
  · first | assumption | rfl | omega | (rw [List.length_take]; omega)
  rintro _ whs69 ⟨A70, c71, L1_72, rfl, hs69, ho73⟩
  replace hs69 := hs66.callF hs69
  refine ⟨_, rfl, ?_⟩
  replace hs69 := St.back [_, _] hs69
  refine WL.nil ⟨(hs69.rm L1_72), WH.o1 49 rfl (WL.call (wantF rfl g67) rfl rfl (Run.call Tryz.call39 rfl rfl rfl) (k89_ _ _ _ _ _ _ (SlF.ofOwn ho73 (hs69.ow L1_72)) ?_) ?_)⟩
  · first | assumption | rfl | omega | (rw [List.length_take]; omega)
  rintro _ whs74 ⟨rfl, hs74⟩
  replace hs74 := hs69.call0 hs74
  refine ⟨_, rfl, WL.nil ⟨(hs74.rm L1_72), WH.rnA (Acts.nil.cons (j := 43) rfl g67) [50] (hs74.rm L1_72) [] rfl rfl ?_⟩⟩
  refine WH.take 51 rfl (by kernel_rfl) rfl rfl rfl (hs74.rm L1_72) (fun w_ hs_ => (Run.pick rfl rfl rfl rfl)) ?_
  refine WH.dn (hK27 _ _ ?_)
  refine WC.cq rfl (fun h75 qh75 => ?_) (fun h75 qh75 => ?_)
  ·have hbad : winsOkS s.dat = false := winsS_no (i := i) (by omega) (by
     show (((decide (1 ≤ (gat encWinR s.Wins.xs i).Id) && decide ((gat encWinR s.Wins.xs i).Id < s.Next)) && (wordOk (gat encWinR s.Wins.xs i).Name && placesOk (gat encWinR s.Wins.xs i).Tree.xs s.W s.H)) && hasI (panesL (gat encWinR s.Wins.xs i).Tree.xs) (gat encWinR s.Wins.xs i).Active) = false ∨ _
     rw [← paneAt_has]
     by_cases hpl : placesOk (gat encWinR s.Wins.xs i).Tree.xs s.W s.H = true
     · have hlp := leaves_panes hpl
       grind
     · grind)
   refine WC.r1 hs74 [] rfl (WC.ret (tkR (ibR (tkR (tkR (ibR (tkR ?_)))))))
   clear hK26 hK17 hK9
   refine rtv rfl rfl hs74 ?_
   first | rw [hbad] | (unfold winsOkS; rw [hWc, hall, Bool.true_and]; congr 1; rw [decide_eq_decide]; omega)
  have hpl : placesOk (gat encWinR s.Wins.xs i).Tree.xs s.W s.H = true := by grind
  have hlp := leaves_panes hpl
  have hgood : (winB s.dat (gat encWinR s.Wins.xs i).dat = true ∧ (0 < i → (gat encWinR s.Wins.xs (i - 1)).Id < (gat encWinR s.Wins.xs i).Id)) ∧ hasI (pIds s.dat) (gat encWinR s.Wins.xs i).Id = false := by
    show ((((decide (1 ≤ (gat encWinR s.Wins.xs i).Id) && decide ((gat encWinR s.Wins.xs i).Id < s.Next)) && (wordOk (gat encWinR s.Wins.xs i).Name && placesOk (gat encWinR s.Wins.xs i).Tree.xs s.W s.H)) && hasI (panesL (gat encWinR s.Wins.xs i).Tree.xs) (gat encWinR s.Wins.xs i).Active) = true ∧ _) ∧ _
    rw [← Bool.not_eq_true (hasI (pIds _) _), ← paneAt_has]
    grind
  refine WC.skip (hK26 _ _ (WC.region (WL.r 3 hs74 [0] rfl ?_)))
  refine WL.cl Tryz.call40 rfl (k91_ _ _ _ _ _ (SlF.st0 (SlN.nth f_s.Wins (by first | omega | (simp only [decide_eq_true_eq] at *; omega))).Tree hs74) ?_) ?_
  · first | assumption | rfl | omega | (rw [List.length_take]; omega)
  rintro _ whs76 ⟨A77, c78, L1_79, rfl, hs76, ho80⟩
  replace hs76 := hs74.callF hs76
  refine ⟨_, rfl, ?_⟩
  replace hs76 := St.back [_, _] hs76
  refine WL.appendG (hs76.fr L12) ho13 (SlF.src (SlF.ofOwn ho80 (hs76.ow L1_79)) Tryz.underlying60) Tryz.underlying60 inf3 rfl rfl rfl rfl rfl rfl rfl rfl rfl rfl ?_ (fun A84 c85 L81 whs82 hs82 ho83 => ?_)
  · first | omega | (simp only [List.length_append, List.length_cons, List.length_nil]; omega)
  replace hs82 := St.back [_, _] hs82
  refine WL.r 1 hs82 [] rfl (WL.nil (hK17 _ _ (WC.region (WL.r 2 hs82 [] rfl (WL.nil (tkN ?_))))))
  replace hs82 := (((hs82.d1.rm L1_79).rm L1_72).rm L1_24)
  refine ⟨sbF rfl, _, (hs82.fr L81), _, ?_, _, i + 1, _, _, rfl, ?_, ?_, ?_, ?_, ho83, ⟨rfl, rfl, trivial⟩⟩
  · omega
  · omega
  · rw [treesL_snoc (by omega), p1, leaves_panes hpl]
  · rw [List.length_append]; omega
  · intro j hj; rcases Nat.lt_or_ge j i with h_ | h_
    · exact p3 j h_
    · obtain rfl : j = i := by omega
      exact hgood
 have hWc := winsS_yes (s := s) fun j hj => p3 j (by omega)
 have htr : treesL s.dat.Wins = zs := by rw [p1, List.take_of_length_le (by omega)]; rfl
 refine WC.exit (hK9 _ _ (WC.seq (fun K86 hK86 => WC.r1 hs14 [] rfl (WC.block ?_))))
 refine WC.lS [1, 3, 15, 87, 88] rfl hs14 (fun k_ f w' => ∃ (j : Nat), k_ = zs.length - j ∧ (j ≤ zs.length) ∧ (∀ k, k < j → hasI (zs.take k) (iat zs k) = false ∧ hasI (pIds s.dat) (iat zs k) = true) ∧ Sub [(89, .int .i64 j)] f) ((fun (j : Nat) => zs.length - j) (0)) ?_ ?_
 ·refine ⟨0, rfl, ?_, ?_, ⟨rfl, trivial⟩⟩
  · exact Nat.zero_le _
  · exact fun k hk => absurd hk (by omega)
 clear hs14
 rintro _ f w ⟨j, rfl, r0, r1, hG⟩ hF hs87
 refine WC.sub _ (hG.app hF) ?_
 clear hG hF
 refine WC.r1 hs87 [] rfl (WC.seq (fun K88 hK88 => ?_))
 refine WC.cq rfl (fun h89 qh89 => ?_) (fun h89 qh89 => ?_)
 ·refine WC.skip (hK88 _ _ (WC.seq (fun K90 hK90 => WC.block (WC.sr (WL.r 1 hs87 [] rfl ?_)))))
  refine WL.val rfl rfl rfl (Run.idxN Tryz.runUnderlying60 Tryz.sizeOf3 rfl rfl rfl ?_ ?_ ?_) ?_
  · exact SlF.some_ (SlF.ofOwn ho13 (hs87.ow L12))
  · first | omega | (simp only [decide_eq_true_eq] at *; omega)
  · first | omega | (simp only [decide_eq_true_eq] at *; omega)
  refine WL.val rfl rfl rfl (Run.load Tryz.isAgg3 rfl rfl (SlF.one1 (SlF.ofOwn ho13 (hs87.ow L12)) ?_ rfl)) ?_
  · first | omega | (simp only [decide_eq_true_eq] at *; omega)
  refine WL.r 2 hs87 [] rfl (WL.nil (WC.sr (WL.r 2 hs87 [] rfl ?_)))
  have ho91 := OwnF.take (k := j) ho13 (by omega)
  have hcho91 := OwnF.cap ho91
  refine WL.val rfl rfl rfl (Run.sliceH0 (j) Tryz.runUnderlying60 Tryz.sizeOf3 rfl rfl rfl ?_ ?_) ?_
  · first | rfl | (omega)
  · first | (exact Nat.zero_le _) | (omega)
  refine WL.r 1 hs87 [] rfl (WL.cl Tryz.call39 rfl (k89_ _ _ _ _ _ _ (SlF.ofOwn ho91 (hs87.ow L12)) ?_) ?_)
  · first | assumption | rfl | omega | (rw [List.length_take]; omega)
  rintro _ whs92 ⟨rfl, hs92⟩
  replace hs92 := hs87.call0 hs92
  refine ⟨_, rfl, WL.r 1 hs92 [] rfl ?_⟩
  apply WL.gO 4 Acts.nil hs92 rfl
  ·intro g93 J94
   have qg93 := g93
   try simp only [bf, within_iff, within_not] at qg93
   refine WL.runA tbk 2 (Acts.nil.cons (j := 5) rfl g93) hs92 [0] rfl ⟨rfl, trivial⟩ (WL.call (wantF rfl g93) rfl rfl (Run.call Tryz.call116 rfl rfl rfl) (k119_ s _ _ (okStateR.st0 f_s hs92)) ?_)
   rintro _ whs95 ⟨rfl, hs95⟩
   replace hs95 := hs92.call0 hs95
   refine ⟨_, rfl, WL.runA tbk 1 (Acts.nil.cons (j := 5) rfl g93) hs95 [] rfl trivial (WL.eO 4 Acts.nil J94 hs95 g93 rfl rfl)⟩
  intro _ hs96
  refine WL.nil (WC.cq rfl (fun h97 qh97 => ?_) (fun h97 qh97 => ?_))
  ·have hbad : winsOkS s.dat = false := by
     have hno := all1_no (s := s) (i := j) htr (by omega) (by
       rw [← Bool.not_eq_true (hasI (pIds _) _), ← paneAt_has]
       grind)
     unfold winsOkS
     rw [hno, Bool.and_false]
   refine WC.r1 hs96 [] rfl (WC.ret (ibR (tkR (tkR (ibR (tkR ?_))))))
   clear hK90 hK86
   refine rtv rfl rfl hs96 ?_
   first | rw [hbad] | (unfold winsOkS; rw [hWc, hall, Bool.true_and]; congr 1; rw [decide_eq_decide]; omega)
  have hgood2 : hasI (zs.take j) (iat zs j) = false ∧ hasI (pIds s.dat) (iat zs j) = true := by
    rw [← paneAt_has]
    grind
  refine WC.skip (hK90 _ _ (WC.region (WL.r 2 hs96 [] rfl (WL.nil (tkN ?_)))))
  refine ⟨sbF rfl, hs96, _, ?_, j + 1, rfl, ?_, ?_, ⟨rfl, trivial⟩⟩
  · omega
  · omega
  · intro k hk; rcases Nat.lt_or_ge k j with h_ | h_
    · exact r1 k h_
    · obtain rfl : k = j := by omega
      exact hgood2
 have hall := all1_yes (s := s) htr fun k hk => r1 k (by omega)
 refine WC.exit (hK86 _ _ (WC.r1 hs87 [0] rfl (WC.ret (rtv rfl rfl hs87 ?_))))
 first | rw [hbad] | (unfold winsOkS; rw [hWc, hall, Bool.true_and]; congr 1; rw [decide_eq_decide]; omega)
set_option maxHeartbeats 4000000 in
theorem k160_ (s : StateR) (w : World) (f_s : okStateR 549755813888 w s) (hT : totState s.dat ≤ 1048576) :
    Calls Tryz.prog 55 #[.agg #[i64 s.W, i64 s.H, i64 s.Limit, i64 s.Next, .slice s.Panes.A s.Panes.n s.Panes.c, .slice s.Wins.A s.Wins.n s.Wins.c, .slice s.Sess.A s.Sess.n s.Sess.c]] w fun e w' => e = .returned (.bool (sessOkS s.dat)) ∧ St w [] [] w' := by
 have nb_s_Panes := f_s.Panes_n
 have nl_s_Panes := f_s.Panes.sl.len
 have nb_s_Wins := f_s.Wins_n
 have nl_s_Wins := f_s.Wins.sl.len
 have nb_s_Sess := f_s.Sess_n
 have nl_s_Sess := f_s.Sess.sl.len
 have hsm0 : smState 1048576 s.dat := totState_sm hT
 have hlP : s.dat.Panes.length = s.Panes.xs.length := List.length_map _
 have hlW : s.dat.Wins.length = s.Wins.xs.length := List.length_map _
 have hlS : s.dat.Sess.length = s.Sess.xs.length := List.length_map _
 have hnP : s.dat.Panes.length ≤ 1048576 := hsm0.1
 have hnW : s.dat.Wins.length ≤ 1048576 := hsm0.2.2.1
 have hnS : s.dat.Sess.length ≤ 1048576 := hsm0.2.2.2.2.1
 have hWn : ∀ y, y ∈ s.Wins.xs → y.Tree.n ≤ 1048576 := fun y hy => by have h1 := (f_s.Wins.all y hy).Tree.len; have h2 : y.Tree.xs.length ≤ 1048576 := (hsm0.2.2.2.1 _ (List.mem_map_of_mem hy)).2; omega
 have hSnm : ∀ y, y ∈ s.Sess.xs → y.Name.size ≤ 1048576 ∧ y.Wins.xs.length ≤ 1048576 := fun y hy => hsm0.2.2.2.2.2 _ (List.mem_map_of_mem hy)
 refine enter 67 Tryz.func55 rfl Tryz.ntmps55 rfl rfl ?_
 have hs1 := St.init w
 refine WC.sr (WL.bx hs1 rfl (fun b2 _ hs3 => WL.r 1 hs3 [] rfl (WL.nil (WC.sr (WL.buildF (F := encI) hs3 ([]) Tryz.runUnderlying60 Tryz.sizeOf3 Tryz.zeroValue3 rfl rfl rfl rfl rfl rfl rfl rfl rfl rfl rfl rfl (fun A7 c8 L4 whs5 hs5 ho6 => ?_))))))
 replace hs5 := St.back [_] hs5
 refine WL.r 1 hs5 [] rfl (WL.nil (WC.seq (fun K9 hK9 => WC.r1 hs5 [0] rfl (WC.block ?_))))
 refine WC.lO [1, 10, 11] rfl (hs5.fr L4) (fun k_ f L_ => ∃ (zs : List Int) (i : Nat) (A10 : Option Addr) (c11 : Nat), k_ = s.Sess.n - i ∧ (i ≤ s.Sess.n) ∧ (zs = (sessL ((s.Sess.xs.take (i)).map SessR.dat))) ∧ (∀ j, j < i → sessB (gat encSessR s.Sess.xs j).dat = true ∧ findI (fun q : SessD => decide (q.Name = (gat encSessR s.Sess.xs j).Name)) s.dat.Sess = j) ∧ OwnF encI 3 (.slice A10 (zs.length) c11) (zs) L_ ∧ Sub [(3, .slice A10 (zs.length) c11), (12, .int .i64 i)] f) (((fun (zs : List Int) (i : Nat) => s.Sess.n - i) ([]) (0))) ?_ ?_
 ·refine ⟨[], 0, _, _, rfl, ?_, ?_, ?_, ho6, ⟨rfl, rfl, trivial⟩⟩
  · exact Nat.zero_le _
  · rfl
  · exact fun j hj => absurd hj (by omega)
 clear hs5
 rintro _ f w L12 ⟨zs, i, A10, c11, rfl, p0, p1, p2, ho13, hG⟩ hF hs14
 refine WC.sub _ (hG.app hF) ?_
 clear hG hF
 replace hs14 := St.back [_] hs14
 refine WC.r1 hs14 [] rfl (WC.seq (fun K15 hK15 => ?_))
 refine WC.cq rfl (fun h16 qh16 => ?_) (fun h16 qh16 => ?_)
 ·have hTm := (SlN.nth f_s.Sess (show i < s.Sess.n by omega))
  have hTl := hTm.Wins.len
  have hWi := hSnm (gat encSessR s.Sess.xs i) (gat_mem (by omega))
  have hzl := sessL_take_le (i := i) hT
  rw [← p1] at hzl
  have hzl2 := sessL_take_le (i := i + 1) hT
  rw [sessL_snoc (by omega), List.length_append, ← p1] at hzl2
  refine WC.skip (hK15 _ _ (WC.seq (fun K17 hK17 => WC.block (WC.sr (WL.r 1 hs14 [] rfl ?_)))))
  refine WL.val rfl rfl rfl (Run.idxN Tryz.runUnderlying31 Tryz.sizeOf106 rfl rfl rfl ?_ ?_ ?_) ?_
  · exact SlF.some_ (SlF.st0 f_s.Sess.sl hs14)
  · first | omega | (simp only [decide_eq_true_eq] at *; omega)
  · first | omega | (simp only [decide_eq_true_eq] at *; omega)
  refine WL.val rfl rfl rfl (Run.loadA Tryz.isAgg106 Tryz.sizeOf106 rfl rfl (SlF.whole (SlF.st0 f_s.Sess.sl hs14) ?_)) ?_
  · first | omega | (simp only [decide_eq_true_eq] at *; omega)
  refine WL.al hs14 Tryz.zeroValue106 rfl rfl (fun b18 _ hs19 => WL.r 1 hs19 [] rfl (WL.st tbk hs19 0 rfl rfl (fun _ hs20 => WL.nil (WC.seq (fun K21 hK21 => WC.sr (WL.r 2 hs20 [0] rfl ?_))))))
  refine WL.cl Tryz.call117 rfl (k141_ _ _ ?_) ?_
  · first | assumption | rfl | omega | (rw [List.length_take]; omega)
  rintro _ whs22 ⟨rfl, hs22⟩
  replace hs22 := hs20.call0 hs22
  refine ⟨_, rfl, WL.r 2 hs22 [] rfl ?_⟩
  apply WL.gO 6 Acts.nil hs22 rfl
  ·intro g23 J24
   have qg23 := g23
   try simp only [bf, within_iff, within_not] at qg23
   refine WL.runA tbk 3 (Acts.nil.cons (j := 4) rfl g23) hs22 [1, 0] rfl ⟨rfl, rfl, trivial⟩ (WL.call (wantF rfl g23) rfl rfl (Run.call Tryz.call118 rfl rfl rfl) (k127_ s _ _ (okStateR.st0 f_s hs22)) ?_)
   rintro _ whs25 ⟨rfl, hs25⟩
   replace hs25 := hs22.call0 hs25
   refine ⟨_, rfl, WL.runA tbk 2 (Acts.nil.cons (j := 4) rfl g23) hs25 [] rfl trivial (WL.eO 6 Acts.nil J24 hs25 g23 rfl rfl)⟩
  intro _ hs26
  refine WL.r 1 hs26 [] rfl ?_
  apply WL.gO 6 Acts.nil hs26 rfl
  ·intro g27 J28
   have qg27 := g27
   try simp only [bf, within_iff, within_not] at qg27
   refine WL.runA tbk 4 (Acts.nil.cons (j := 12) rfl g27) hs26 [0, 0] rfl ⟨rfl, rfl, trivial⟩ ?_
   refine WL.call (wantF rfl g27) rfl rfl (Run.call Tryz.call39 rfl rfl rfl) (k89_ _ _ _ _ _ _ (SlF.st0 (SlN.nth f_s.Sess (by first | omega | (simp only [decide_eq_true_eq] at *; omega))).Wins hs26) ?_) ?_
   · first | assumption | rfl | omega | (rw [List.length_take]; omega)
   rintro _ whs29 ⟨rfl, hs29⟩
   replace hs29 := hs26.call0 hs29
   refine ⟨_, rfl, WL.runA tbk 1 (Acts.nil.cons (j := 12) rfl g27) hs29 [] rfl trivial (WL.eO 6 Acts.nil J28 hs29 g27 rfl rfl)⟩
  intro _ hs30
  refine WL.nil (WC.cq rfl (fun h31 qh31 => ?_) (fun h31 qh31 => ?_))
  ·have hbad : sessOkS s.dat = false := by
     have hno : sessC s.dat = false := sessC_no (i := i) (by omega) (by
       show (wordOk (gat encSessR s.Sess.xs i).Name && hasI (gat encSessR s.Sess.xs i).Wins.xs (gat encSessR s.Sess.xs i).Active) = false ∨ _
       grind)
     unfold sessOkS
     rw [hno, Bool.false_and]
   refine WC.r1 hs30 [] rfl (WC.ret (tkR (ibR (tkR (tkR (ibR (tkR ?_)))))))
   clear hK21 hK17 hK9
   refine rtv rfl rfl hs30 ?_
   first | rw [hbad] | (unfold sessOkS; rw [hWc, hall, Bool.true_and]; congr 1; rw [decide_eq_decide]; omega)
  have hgood : sessB (gat encSessR s.Sess.xs i).dat = true ∧ findI (fun q : SessD => decide (q.Name = (gat encSessR s.Sess.xs i).Name)) s.dat.Sess = i := by
    show (wordOk (gat encSessR s.Sess.xs i).Name && hasI (gat encSessR s.Sess.xs i).Wins.xs (gat encSessR s.Sess.xs i).Active) = true ∧ _
    grind
  refine WC.skip (hK21 _ _ (WC.region (WL.r 3 hs30 [0] rfl ?_)))
  refine WL.appendG (hs30.fr L12) ho13 (SlF.src (SlF.st0 (SlN.nth f_s.Sess (by first | omega | (simp only [decide_eq_true_eq] at *; omega))).Wins hs30) Tryz.underlying60) Tryz.underlying60 inf3 rfl rfl rfl rfl rfl rfl rfl rfl rfl rfl ?_ (fun A35 c36 L32 whs33 hs33 ho34 => ?_)
  · first | omega | (simp only [List.length_append, List.length_cons, List.length_nil]; omega)
  replace hs33 := St.back [_, _] hs33
  refine WL.r 1 hs33 [] rfl (WL.nil (hK17 _ _ (WC.region (WL.r 2 hs33 [] rfl (WL.nil (tkN ?_))))))
  replace hs33 := hs33.d1
  refine ⟨sbF rfl, _, (hs33.fr L32), _, ?_, _, i + 1, _, _, rfl, ?_, ?_, ?_, ho34, ⟨rfl, rfl, trivial⟩⟩
  · omega
  · omega
  · rw [sessL_snoc (by omega), p1]
  · intro j hj; rcases Nat.lt_or_ge j i with h_ | h_
    · exact p2 j h_
    · obtain rfl : j = i := by omega
      exact hgood
 have hWc : sessC s.dat = true := sessC_yes fun j hj => p2 j (by omega)
 have htr : sessL s.dat.Sess = zs := by rw [p1, List.take_of_length_le (by omega)]; rfl
 have hzl := sessL_take_le (i := i) hT
 rw [← p1] at hzl
 refine WC.exit (hK9 _ _ (WC.seq (fun K37 hK37 => WC.r1 hs14 [] rfl (WC.block ?_))))
 refine WC.lS [1, 3, 13, 42, 43] rfl hs14 (fun k_ f w' => ∃ (j : Nat), k_ = zs.length - j ∧ (j ≤ zs.length) ∧ (∀ k, k < j → hasI (zs.take k) (iat zs k) = false ∧ hasI (wIds s.dat) (iat zs k) = true) ∧ Sub [(44, .int .i64 j)] f) ((fun (j : Nat) => zs.length - j) (0)) ?_ ?_
 ·refine ⟨0, rfl, ?_, ?_, ⟨rfl, trivial⟩⟩
  · exact Nat.zero_le _
  · exact fun k hk => absurd hk (by omega)
 clear hs14
 rintro _ f w ⟨j, rfl, r0, r1, hG⟩ hF hs38
 refine WC.sub _ (hG.app hF) ?_
 clear hG hF
 refine WC.r1 hs38 [] rfl (WC.seq (fun K39 hK39 => ?_))
 refine WC.cq rfl (fun h40 qh40 => ?_) (fun h40 qh40 => ?_)
 ·refine WC.skip (hK39 _ _ (WC.seq (fun K41 hK41 => WC.block (WC.sr (WL.r 1 hs38 [] rfl ?_)))))
  refine WL.val rfl rfl rfl (Run.idxN Tryz.runUnderlying60 Tryz.sizeOf3 rfl rfl rfl ?_ ?_ ?_) ?_
  · exact SlF.some_ (SlF.ofOwn ho13 (hs38.ow L12))
  · first | omega | (simp only [decide_eq_true_eq] at *; omega)
  · first | omega | (simp only [decide_eq_true_eq] at *; omega)
  refine WL.val rfl rfl rfl (Run.load Tryz.isAgg3 rfl rfl (SlF.one1 (SlF.ofOwn ho13 (hs38.ow L12)) ?_ rfl)) ?_
  · first | omega | (simp only [decide_eq_true_eq] at *; omega)
  refine WL.r 2 hs38 [] rfl (WL.nil (WC.sr (WL.r 2 hs38 [] rfl ?_)))
  have ho42 := OwnF.take (k := j) ho13 (by omega)
  have hcho42 := OwnF.cap ho42
  refine WL.val rfl rfl rfl (Run.sliceH0 (j) Tryz.runUnderlying60 Tryz.sizeOf3 rfl rfl rfl ?_ ?_) ?_
  · first | rfl | (omega)
  · first | (exact Nat.zero_le _) | (omega)
  refine WL.r 1 hs38 [] rfl (WL.cl Tryz.call39 rfl (k89_ _ _ _ _ _ _ (SlF.ofOwn ho42 (hs38.ow L12)) ?_) ?_)
  · first | assumption | rfl | omega | (rw [List.length_take]; omega)
  rintro _ whs43 ⟨rfl, hs43⟩
  replace hs43 := hs38.call0 hs43
  refine ⟨_, rfl, WL.r 1 hs43 [] rfl ?_⟩
  apply WL.gO 4 Acts.nil hs43 rfl
  ·intro g44 J45
   have qg44 := g44
   try simp only [bf, within_iff, within_not] at qg44
   refine WL.runA tbk 2 (Acts.nil.cons (j := 5) rfl g44) hs43 [0] rfl ⟨rfl, trivial⟩ (WL.call (wantF rfl g44) rfl rfl (Run.call Tryz.call119 rfl rfl rfl) (k123_ s _ _ (okStateR.st0 f_s hs43)) ?_)
   rintro _ whs46 ⟨rfl, hs46⟩
   replace hs46 := hs43.call0 hs46
   refine ⟨_, rfl, WL.runA tbk 1 (Acts.nil.cons (j := 5) rfl g44) hs46 [] rfl trivial (WL.eO 4 Acts.nil J45 hs46 g44 rfl rfl)⟩
  intro _ hs47
  refine WL.nil (WC.cq rfl (fun h48 qh48 => ?_) (fun h48 qh48 => ?_))
  ·have hbad : sessOkS s.dat = false := by
     have hno := all2_no (s := s) (i := j) htr (by omega) (by
       rw [← Bool.not_eq_true (hasI (wIds _) _), ← winAt_has]
       grind)
     unfold sessOkS
     rw [hno, Bool.and_false]
   refine WC.r1 hs47 [] rfl (WC.ret (ibR (tkR (tkR (ibR (tkR ?_))))))
   clear hK41 hK37
   refine rtv rfl rfl hs47 ?_
   first | rw [hbad] | (unfold sessOkS; rw [hWc, hall, Bool.true_and]; congr 1; rw [decide_eq_decide]; omega)
  have hgood2 : hasI (zs.take j) (iat zs j) = false ∧ hasI (wIds s.dat) (iat zs j) = true := by
    rw [← winAt_has]
    grind
  refine WC.skip (hK41 _ _ (WC.region (WL.r 2 hs47 [] rfl (WL.nil (tkN ?_)))))
  refine ⟨sbF rfl, hs47, _, ?_, j + 1, rfl, ?_, ?_, ⟨rfl, trivial⟩⟩
  · omega
  · omega
  · intro k hk; rcases Nat.lt_or_ge k j with h_ | h_
    · exact r1 k h_
    · obtain rfl : k = j := by omega
      exact hgood2
 have hall := all2_yes (s := s) htr fun k hk => r1 k (by omega)
 refine WC.exit (hK37 _ _ (WC.r1 hs38 [0] rfl (WC.ret (rtv rfl rfl hs38 ?_))))
 first | rw [hbad] | (unfold sessOkS; rw [hWc, hall, Bool.true_and]; congr 1; rw [decide_eq_decide]; omega)
end Go.Proofs.YthfhhldbglaieaaGreat
