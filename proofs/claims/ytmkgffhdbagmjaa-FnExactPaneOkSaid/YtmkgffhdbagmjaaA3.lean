/- Walks of Go functions, printed by a program (wip/gen). -/
import Derived.Test.YtmkgffhdbagmjaaV2
import Derived.Test.YtmkgffhdbagmjaaM12
import Derived.Test.YtmkgffhdbagmjaaH3
namespace Go.Proofs.Ytmkgffhdbagmjaa
open Go Go.RowKit
set_option linter.unusedVariables false
set_option linter.unusedSimpArgs false
set_option maxHeartbeats 4000000 in
theorem c_impl_PaneOk (p : PaneR) (w : World) (f_p : okPaneR 549755813888 w p) :
    Calls Try.prog 11 #[.agg #[i64 p.Id, .string p.Cmd, .string p.Dir, i64 p.Life, i64 p.Code, i64 p.Pid, i64 p.Term.P.State, .bool p.Term.P.Mark, .slice p.Term.P.Args.A p.Term.P.Args.n p.Term.P.Args.c, .slice p.Term.P.Part.A p.Term.P.Part.n p.Term.P.Part.c, i64 p.Term.S.W, i64 p.Term.S.H, i64 p.Term.S.Main.W, i64 p.Term.S.Main.H, .slice p.Term.S.Main.Cells.A p.Term.S.Main.Cells.n p.Term.S.Main.Cells.c, i64 p.Term.S.Alt.W, i64 p.Term.S.Alt.H, .slice p.Term.S.Alt.Cells.A p.Term.S.Alt.Cells.n p.Term.S.Alt.Cells.c, .bool p.Term.S.OnAlt, i64 p.Term.S.X, i64 p.Term.S.Y, .bool p.Term.S.Wrap, i64 p.Term.S.A.Fg, i64 p.Term.S.A.Bg, .bool p.Term.S.A.Bold, .bool p.Term.S.A.Under, .bool p.Term.S.A.Turn, i64 p.Term.S.Top, i64 p.Term.S.Bot, .bool p.Term.S.NoWrap, .bool p.Term.S.Hide, i64 p.Term.S.SaveX, i64 p.Term.S.SaveY, i64 p.Term.S.SaveA.Fg, i64 p.Term.S.SaveA.Bg, .bool p.Term.S.SaveA.Bold, .bool p.Term.S.SaveA.Under, .bool p.Term.S.SaveA.Turn, .slice p.Term.S.Tabs.A p.Term.S.Tabs.n p.Term.S.Tabs.c, i64 p.Term.S.Limit, .slice p.Term.S.Back.A p.Term.S.Back.n p.Term.S.Back.c]] w fun e w' => e = .returned (.bool (paneOk p.dat)) ∧ St w [] [] w' := by
 have nz_p_Cmd := f_p.Cmd_z
 have nz_p_Dir := f_p.Dir_z
 have nb_p_Term_P_Args := f_p.Term.P.Args_n
 have nl_p_Term_P_Args := f_p.Term.P.Args.len
 have nb_p_Term_P_Part := f_p.Term.P.Part_n
 have nl_p_Term_P_Part := f_p.Term.P.Part.len
 have nb_p_Term_S_Main_Cells := f_p.Term.S.Main.Cells_n
 have nl_p_Term_S_Main_Cells := f_p.Term.S.Main.Cells.len
 have nb_p_Term_S_Alt_Cells := f_p.Term.S.Alt.Cells_n
 have nl_p_Term_S_Alt_Cells := f_p.Term.S.Alt.Cells.len
 have nb_p_Term_S_Tabs := f_p.Term.S.Tabs_n
 have nl_p_Term_S_Tabs := f_p.Term.S.Tabs.len
 have nb_p_Term_S_Back := f_p.Term.S.Back_n
 have nl_p_Term_S_Back := f_p.Term.S.Back.sl.len
 refine enter (vs := [.agg #[i64 p.Id, .string p.Cmd, .string p.Dir, i64 p.Life, i64 p.Code, i64 p.Pid, i64 p.Term.P.State, .bool p.Term.P.Mark, .slice p.Term.P.Args.A p.Term.P.Args.n p.Term.P.Args.c, .slice p.Term.P.Part.A p.Term.P.Part.n p.Term.P.Part.c, i64 p.Term.S.W, i64 p.Term.S.H, i64 p.Term.S.Main.W, i64 p.Term.S.Main.H, .slice p.Term.S.Main.Cells.A p.Term.S.Main.Cells.n p.Term.S.Main.Cells.c, i64 p.Term.S.Alt.W, i64 p.Term.S.Alt.H, .slice p.Term.S.Alt.Cells.A p.Term.S.Alt.Cells.n p.Term.S.Alt.Cells.c, .bool p.Term.S.OnAlt, i64 p.Term.S.X, i64 p.Term.S.Y, .bool p.Term.S.Wrap, i64 p.Term.S.A.Fg, i64 p.Term.S.A.Bg, .bool p.Term.S.A.Bold, .bool p.Term.S.A.Under, .bool p.Term.S.A.Turn, i64 p.Term.S.Top, i64 p.Term.S.Bot, .bool p.Term.S.NoWrap, .bool p.Term.S.Hide, i64 p.Term.S.SaveX, i64 p.Term.S.SaveY, i64 p.Term.S.SaveA.Fg, i64 p.Term.S.SaveA.Bg, .bool p.Term.S.SaveA.Bold, .bool p.Term.S.SaveA.Under, .bool p.Term.S.SaveA.Turn, .slice p.Term.S.Tabs.A p.Term.S.Tabs.n p.Term.S.Tabs.c, i64 p.Term.S.Limit, .slice p.Term.S.Back.A p.Term.S.Back.n p.Term.S.Back.c]]) 57 Try.func11 rfl Try.ntmps11 rfl rfl ?_
 have hs1 := St.init w
 refine WC.sr ?_
 refine WL.bx hs1 rfl (fun b2 _ hs3 => ?_)
 refine WL.run tbk 1 hs3 [] rfl trivial ?_
 refine WL.nil ?_
 refine WC.seq (fun K4 hK4 => ?_)
 refine WC.sr ?_
 refine WL.run tbk 2 hs3 [0] rfl ⟨rfl, trivial⟩ ?_
 refine WL.call rfl rfl rfl (Run.call Try.call27 rfl rfl rfl) (c_impl_isId _ _) ?_
 rintro _ whs5 ⟨rfl, hs5⟩
 replace hs5 := hs3.call0 hs5
 refine ⟨_, rfl, ?_⟩
 refine WL.run tbk 2 hs5 [] rfl trivial ?_
 apply WL.gO 4 Acts.nil hs5 rfl
 ·intro g6 J7
  have qg6 := g6
  try simp only [bf, within_iff, within_not] at qg6
  refine WL.runA tbk 2 (Acts.nil.cons (j := 4) rfl g6) hs5 [0] rfl ⟨rfl, trivial⟩ ?_
  refine WL.call (wantF rfl g6) rfl rfl (Run.call Try.call28 rfl rfl rfl) (c_impl_isCmd _ _) ?_
  rintro _ whs8 ⟨rfl, hs8⟩
  replace hs8 := hs5.call0 hs8
  refine ⟨_, rfl, ?_⟩
  refine WL.runA tbk 1 (Acts.nil.cons (j := 4) rfl g6) hs8 [] rfl trivial ?_
  exact WL.eO 4 Acts.nil J7 hs8 g6 rfl rfl
 ·intro _ hs9
  refine WL.run tbk 1 hs9 [] rfl trivial ?_
  apply WL.gO 4 Acts.nil hs9 rfl
  ·intro g10 J11
   have qg10 := g10
   try simp only [bf, within_iff, within_not] at qg10
   refine WL.runA tbk 2 (Acts.nil.cons (j := 10) rfl g10) hs9 [0] rfl ⟨rfl, trivial⟩ ?_
   refine WL.call (wantF rfl g10) rfl rfl (Run.call Try.call28 rfl rfl rfl) (c_impl_isCmd _ _) ?_
   rintro _ whs12 ⟨rfl, hs12⟩
   replace hs12 := hs9.call0 hs12
   refine ⟨_, rfl, ?_⟩
   refine WL.runA tbk 1 (Acts.nil.cons (j := 10) rfl g10) hs12 [] rfl trivial ?_
   exact WL.eO 4 Acts.nil J11 hs12 g10 rfl rfl
  ·intro _ hs13
   refine WL.run tbk 1 hs13 [] rfl trivial ?_
   apply WL.gO 4 Acts.nil hs13 rfl
   ·intro g14 J15
    have qg14 := g14
    try simp only [bf, within_iff, within_not] at qg14
    refine WL.runA tbk 2 (Acts.nil.cons (j := 16) rfl g14) hs13 [0] rfl ⟨rfl, trivial⟩ ?_
    refine WL.call (wantF rfl g14) rfl rfl (Run.call Try.call29 rfl rfl rfl) (c_impl_TermOk p.Term _ (okTermR.st0 f_p.Term hs13)) ?_
    rintro _ whs16 ⟨rfl, hs16⟩
    replace hs16 := hs13.call0 hs16
    refine ⟨_, rfl, ?_⟩
    refine WL.runA tbk 1 (Acts.nil.cons (j := 16) rfl g14) hs16 [] rfl trivial ?_
    exact WL.eO 4 Acts.nil J15 hs16 g14 rfl rfl
   ·intro _ hs17
    refine WL.nil ?_
    refine WC.cond rfl (fun h18 => ?_) (fun h18 => ?_)
    ·have qh18 := h18
     try simp only [bf, within_iff, within_not] at qh18
     refine WC.rr tbk hs17 [] rfl trivial ?_
     refine WC.ret ?_
     refine tkR ?_
     clear hK4
     refine retV1 rfl (resV.tmp rfl) ?_
     refine ⟨congrArg Ending.returned (congrArg Value.bool ?_), hs17.nil⟩
     unfold paneOk; show _ = ((((isId p.Id && isCmd p.Cmd) && isCmd p.Dir) && termOk p.Term.dat) && lifeOk p.Life p.Code p.Pid)
     simp only [lifeOk, isId, isCmd, within] at *; grind
    ·have qh18 := h18
     try simp only [bf, within_iff, within_not] at qh18
     refine WC.skip ?_
     refine hK4 _ _ ?_
     refine WC.seq (fun K19 hK19 => ?_)
     refine WC.rr tbk hs17 [0] rfl ⟨rfl, trivial⟩ ?_
     refine WC.block ?_
     refine WC.rr tbk hs17 [] rfl trivial ?_
     refine WC.cond rfl (fun h20 => ?_) (fun h20 => ?_)
     ·have qh20 := h20
      try simp only [bf, within_iff, within_not] at qh20
      refine WC.sr ?_
      refine WL.run tbk 2 hs17 [0] rfl ⟨rfl, trivial⟩ ?_
      refine WL.call rfl rfl rfl (Run.call Try.call27 rfl rfl rfl) (c_impl_isId _ _) ?_
      rintro _ whs21 ⟨rfl, hs21⟩
      replace hs21 := hs17.call0 hs21
      refine ⟨_, rfl, ?_⟩
      refine WL.run tbk 1 hs21 [] rfl trivial ?_
      refine WL.pA tbk 3 Acts.nil hs21 [0] rfl rfl rfl rfl (fun g_ => ⟨rfl, trivial⟩) ?_
      refine WL.run tbk 1 hs21 [] rfl trivial ?_
      refine WL.nil ?_
      refine WC.ret ?_
      refine ibR (tkR ?_)
      clear hK19
      refine retV1 rfl (resV.tmp rfl) ?_
      refine ⟨congrArg Ending.returned (congrArg Value.bool ?_), hs21.nil⟩
      unfold paneOk; show _ = ((((isId p.Id && isCmd p.Cmd) && isCmd p.Dir) && termOk p.Term.dat) && lifeOk p.Life p.Code p.Pid)
      simp only [lifeOk, isId, isCmd, within] at *; grind
     ·have qh20 := h20
      try simp only [bf, within_iff, within_not] at qh20
      refine WC.rr tbk hs17 [] rfl trivial ?_
      refine WC.cond rfl (fun h22 => ?_) (fun h22 => ?_)
      ·have qh22 := h22
       try simp only [bf, within_iff, within_not] at qh22
       refine WC.sr ?_
       refine WL.run tbk 2 hs17 [0] rfl ⟨rfl, trivial⟩ ?_
       refine WL.call rfl rfl rfl (Run.call Try.call30 rfl rfl rfl) (c_impl_within _ _ _ _) ?_
       rintro _ whs23 ⟨rfl, hs23⟩
       replace hs23 := hs17.call0 hs23
       refine ⟨_, rfl, ?_⟩
       refine WL.run tbk 1 hs23 [] rfl trivial ?_
       refine WL.pA tbk 3 Acts.nil hs23 [0] rfl rfl rfl rfl (fun g_ => ⟨rfl, trivial⟩) ?_
       refine WL.run tbk 1 hs23 [] rfl trivial ?_
       refine WL.nil ?_
       refine WC.ret ?_
       refine ibR (tkR ?_)
       clear hK19
       refine retV1 rfl (resV.tmp rfl) ?_
       refine ⟨congrArg Ending.returned (congrArg Value.bool ?_), hs23.nil⟩
       unfold paneOk; show _ = ((((isId p.Id && isCmd p.Cmd) && isCmd p.Dir) && termOk p.Term.dat) && lifeOk p.Life p.Code p.Pid)
       simp only [lifeOk, isId, isCmd, within] at *; grind
      ·have qh22 := h22
       try simp only [bf, within_iff, within_not] at qh22
       refine WC.rr tbk hs17 [] rfl trivial ?_
       refine WC.cond rfl (fun h24 => ?_) (fun h24 => ?_)
       ·have qh24 := h24
        try simp only [bf, within_iff, within_not] at qh24
        refine WC.sr ?_
        refine WL.run tbk 4 hs17 [0] rfl ⟨rfl, trivial⟩ ?_
        refine WL.pA tbk 3 Acts.nil hs17 [0] rfl rfl rfl rfl (fun g_ => ⟨rfl, trivial⟩) ?_
        refine WL.run tbk 1 hs17 [] rfl trivial ?_
        refine WL.nil ?_
        refine WC.ret ?_
        refine ibR (tkR ?_)
        clear hK19
        refine retV1 rfl (resV.tmp rfl) ?_
        refine ⟨congrArg Ending.returned (congrArg Value.bool ?_), hs17.nil⟩
        unfold paneOk; show _ = ((((isId p.Id && isCmd p.Cmd) && isCmd p.Dir) && termOk p.Term.dat) && lifeOk p.Life p.Code p.Pid)
        simp only [lifeOk, isId, isCmd, within] at *; grind
       ·have qh24 := h24
        try simp only [bf, within_iff, within_not] at qh24
        refine WC.skip ?_
        refine hK19 _ _ ?_
        refine WC.rr tbk hs17 [] rfl trivial ?_
        refine WC.ret ?_
        refine retV1 rfl (resV.tmp rfl) ?_
        refine ⟨congrArg Ending.returned (congrArg Value.bool ?_), hs17.nil⟩
        unfold paneOk; show _ = ((((isId p.Id && isCmd p.Cmd) && isCmd p.Dir) && termOk p.Term.dat) && lifeOk p.Life p.Code p.Pid)
        simp only [lifeOk, isId, isCmd, within] at *; grind
set_option maxHeartbeats 4000000 in
theorem c_spec_PaneOk (p : PaneR) (w : World) (f_p : okPaneR 549755813888 w p) :
    Calls Try.prog 9 #[.agg #[i64 p.Id, .string p.Cmd, .string p.Dir, i64 p.Life, i64 p.Code, i64 p.Pid, i64 p.Term.P.State, .bool p.Term.P.Mark, .slice p.Term.P.Args.A p.Term.P.Args.n p.Term.P.Args.c, .slice p.Term.P.Part.A p.Term.P.Part.n p.Term.P.Part.c, i64 p.Term.S.W, i64 p.Term.S.H, i64 p.Term.S.Main.W, i64 p.Term.S.Main.H, .slice p.Term.S.Main.Cells.A p.Term.S.Main.Cells.n p.Term.S.Main.Cells.c, i64 p.Term.S.Alt.W, i64 p.Term.S.Alt.H, .slice p.Term.S.Alt.Cells.A p.Term.S.Alt.Cells.n p.Term.S.Alt.Cells.c, .bool p.Term.S.OnAlt, i64 p.Term.S.X, i64 p.Term.S.Y, .bool p.Term.S.Wrap, i64 p.Term.S.A.Fg, i64 p.Term.S.A.Bg, .bool p.Term.S.A.Bold, .bool p.Term.S.A.Under, .bool p.Term.S.A.Turn, i64 p.Term.S.Top, i64 p.Term.S.Bot, .bool p.Term.S.NoWrap, .bool p.Term.S.Hide, i64 p.Term.S.SaveX, i64 p.Term.S.SaveY, i64 p.Term.S.SaveA.Fg, i64 p.Term.S.SaveA.Bg, .bool p.Term.S.SaveA.Bold, .bool p.Term.S.SaveA.Under, .bool p.Term.S.SaveA.Turn, .slice p.Term.S.Tabs.A p.Term.S.Tabs.n p.Term.S.Tabs.c, i64 p.Term.S.Limit, .slice p.Term.S.Back.A p.Term.S.Back.n p.Term.S.Back.c]] w fun e w' => e = .returned (.bool (paneOk p.dat)) ∧ St w [] [] w' := by
 have nz_p_Cmd := f_p.Cmd_z
 have nz_p_Dir := f_p.Dir_z
 have nb_p_Term_P_Args := f_p.Term.P.Args_n
 have nl_p_Term_P_Args := f_p.Term.P.Args.len
 have nb_p_Term_P_Part := f_p.Term.P.Part_n
 have nl_p_Term_P_Part := f_p.Term.P.Part.len
 have nb_p_Term_S_Main_Cells := f_p.Term.S.Main.Cells_n
 have nl_p_Term_S_Main_Cells := f_p.Term.S.Main.Cells.len
 have nb_p_Term_S_Alt_Cells := f_p.Term.S.Alt.Cells_n
 have nl_p_Term_S_Alt_Cells := f_p.Term.S.Alt.Cells.len
 have nb_p_Term_S_Tabs := f_p.Term.S.Tabs_n
 have nl_p_Term_S_Tabs := f_p.Term.S.Tabs.len
 have nb_p_Term_S_Back := f_p.Term.S.Back_n
 have nl_p_Term_S_Back := f_p.Term.S.Back.sl.len
 refine enter (vs := [.agg #[i64 p.Id, .string p.Cmd, .string p.Dir, i64 p.Life, i64 p.Code, i64 p.Pid, i64 p.Term.P.State, .bool p.Term.P.Mark, .slice p.Term.P.Args.A p.Term.P.Args.n p.Term.P.Args.c, .slice p.Term.P.Part.A p.Term.P.Part.n p.Term.P.Part.c, i64 p.Term.S.W, i64 p.Term.S.H, i64 p.Term.S.Main.W, i64 p.Term.S.Main.H, .slice p.Term.S.Main.Cells.A p.Term.S.Main.Cells.n p.Term.S.Main.Cells.c, i64 p.Term.S.Alt.W, i64 p.Term.S.Alt.H, .slice p.Term.S.Alt.Cells.A p.Term.S.Alt.Cells.n p.Term.S.Alt.Cells.c, .bool p.Term.S.OnAlt, i64 p.Term.S.X, i64 p.Term.S.Y, .bool p.Term.S.Wrap, i64 p.Term.S.A.Fg, i64 p.Term.S.A.Bg, .bool p.Term.S.A.Bold, .bool p.Term.S.A.Under, .bool p.Term.S.A.Turn, i64 p.Term.S.Top, i64 p.Term.S.Bot, .bool p.Term.S.NoWrap, .bool p.Term.S.Hide, i64 p.Term.S.SaveX, i64 p.Term.S.SaveY, i64 p.Term.S.SaveA.Fg, i64 p.Term.S.SaveA.Bg, .bool p.Term.S.SaveA.Bold, .bool p.Term.S.SaveA.Under, .bool p.Term.S.SaveA.Turn, .slice p.Term.S.Tabs.A p.Term.S.Tabs.n p.Term.S.Tabs.c, i64 p.Term.S.Limit, .slice p.Term.S.Back.A p.Term.S.Back.n p.Term.S.Back.c]]) 71 Try.func9 rfl Try.ntmps9 rfl rfl ?_
 have hs1 := St.init w
 refine WC.sr ?_
 refine WL.bx hs1 rfl (fun b2 _ hs3 => ?_)
 refine WL.run tbk 1 hs3 [] rfl trivial ?_
 refine WL.nil ?_
 refine WC.seq (fun K4 hK4 => ?_)
 refine WC.sr ?_
 refine WL.run tbk 4 hs3 [0] rfl ⟨rfl, trivial⟩ ?_
 refine WL.pO tbk 3 Acts.nil hs3 [0] rfl rfl rfl rfl (fun g_ => ⟨rfl, trivial⟩) ?_
 refine WL.run tbk 1 hs3 [] rfl trivial ?_
 refine WL.pO tbk 4 Acts.nil hs3 [0] rfl rfl rfl rfl (fun g_ => ⟨rfl, trivial⟩) ?_
 refine WL.run tbk 1 hs3 [] rfl trivial ?_
 refine WL.pO tbk 4 Acts.nil hs3 [0] rfl rfl rfl rfl (fun g_ => ⟨rfl, trivial⟩) ?_
 refine WL.run tbk 1 hs3 [] rfl trivial ?_
 apply WL.gO 4 Acts.nil hs3 rfl
 ·intro g5 J6
  have qg5 := g5
  try simp only [bf, within_iff, within_not] at qg5
  refine WL.runA tbk 2 (Acts.nil.cons (j := 20) rfl g5) hs3 [0] rfl ⟨rfl, trivial⟩ ?_
  refine WL.call (wantF rfl g5) rfl rfl (Run.call Try.call25 rfl rfl rfl) (c_spec_TermOk p.Term _ (okTermR.st0 f_p.Term hs3)) ?_
  rintro _ whs7 ⟨rfl, hs7⟩
  replace hs7 := hs3.call0 hs7
  refine ⟨_, rfl, ?_⟩
  refine WL.runA tbk 1 (Acts.nil.cons (j := 20) rfl g5) hs7 [] rfl trivial ?_
  exact WL.eO 4 Acts.nil J6 hs7 g5 rfl rfl
 ·intro _ hs8
  refine WL.nil ?_
  refine WC.cond rfl (fun h9 => ?_) (fun h9 => ?_)
  ·have qh9 := h9
   try simp only [bf, within_iff, within_not] at qh9
   refine WC.rr tbk hs8 [] rfl trivial ?_
   refine WC.ret ?_
   refine tkR ?_
   clear hK4
   refine retV1 rfl (resV.tmp rfl) ?_
   refine ⟨congrArg Ending.returned (congrArg Value.bool ?_), hs8.nil⟩
   unfold paneOk; show _ = ((((isId p.Id && isCmd p.Cmd) && isCmd p.Dir) && termOk p.Term.dat) && lifeOk p.Life p.Code p.Pid)
   simp only [lifeOk, isId, isCmd, within] at *; grind
  ·have qh9 := h9
   try simp only [bf, within_iff, within_not] at qh9
   refine WC.skip ?_
   refine hK4 _ _ ?_
   refine WC.seq (fun K10 hK10 => ?_)
   refine WC.rr tbk hs8 [0] rfl ⟨rfl, trivial⟩ ?_
   refine WC.block ?_
   refine WC.rr tbk hs8 [] rfl trivial ?_
   refine WC.cond rfl (fun h11 => ?_) (fun h11 => ?_)
   ·have qh11 := h11
    try simp only [bf, within_iff, within_not] at qh11
    refine WC.sr ?_
    refine WL.run tbk 4 hs8 [0] rfl ⟨rfl, trivial⟩ ?_
    refine WL.pA tbk 3 Acts.nil hs8 [0] rfl rfl rfl rfl (fun g_ => ⟨rfl, trivial⟩) ?_
    refine WL.run tbk 1 hs8 [] rfl trivial ?_
    refine WL.pA tbk 3 Acts.nil hs8 [0] rfl rfl rfl rfl (fun g_ => ⟨rfl, trivial⟩) ?_
    refine WL.run tbk 1 hs8 [] rfl trivial ?_
    refine WL.nil ?_
    refine WC.ret ?_
    refine ibR (tkR ?_)
    clear hK10
    refine retV1 rfl (resV.tmp rfl) ?_
    refine ⟨congrArg Ending.returned (congrArg Value.bool ?_), hs8.nil⟩
    unfold paneOk; show _ = ((((isId p.Id && isCmd p.Cmd) && isCmd p.Dir) && termOk p.Term.dat) && lifeOk p.Life p.Code p.Pid)
    simp only [lifeOk, isId, isCmd, within] at *; grind
   ·have qh11 := h11
    try simp only [bf, within_iff, within_not] at qh11
    refine WC.rr tbk hs8 [] rfl trivial ?_
    refine WC.cond rfl (fun h12 => ?_) (fun h12 => ?_)
    ·have qh12 := h12
     try simp only [bf, within_iff, within_not] at qh12
     refine WC.sr ?_
     refine WL.run tbk 4 hs8 [0] rfl ⟨rfl, trivial⟩ ?_
     refine WL.pA tbk 3 Acts.nil hs8 [0] rfl rfl rfl rfl (fun g_ => ⟨rfl, trivial⟩) ?_
     refine WL.run tbk 1 hs8 [] rfl trivial ?_
     refine WL.pA tbk 3 Acts.nil hs8 [0] rfl rfl rfl rfl (fun g_ => ⟨rfl, trivial⟩) ?_
     refine WL.run tbk 1 hs8 [] rfl trivial ?_
     refine WL.nil ?_
     refine WC.ret ?_
     refine ibR (tkR ?_)
     clear hK10
     refine retV1 rfl (resV.tmp rfl) ?_
     refine ⟨congrArg Ending.returned (congrArg Value.bool ?_), hs8.nil⟩
     unfold paneOk; show _ = ((((isId p.Id && isCmd p.Cmd) && isCmd p.Dir) && termOk p.Term.dat) && lifeOk p.Life p.Code p.Pid)
     simp only [lifeOk, isId, isCmd, within] at *; grind
    ·have qh12 := h12
     try simp only [bf, within_iff, within_not] at qh12
     refine WC.rr tbk hs8 [] rfl trivial ?_
     refine WC.cond rfl (fun h13 => ?_) (fun h13 => ?_)
     ·have qh13 := h13
      try simp only [bf, within_iff, within_not] at qh13
      refine WC.sr ?_
      refine WL.run tbk 4 hs8 [0] rfl ⟨rfl, trivial⟩ ?_
      refine WL.pA tbk 3 Acts.nil hs8 [0] rfl rfl rfl rfl (fun g_ => ⟨rfl, trivial⟩) ?_
      refine WL.run tbk 1 hs8 [] rfl trivial ?_
      refine WL.nil ?_
      refine WC.ret ?_
      refine ibR (tkR ?_)
      clear hK10
      refine retV1 rfl (resV.tmp rfl) ?_
      refine ⟨congrArg Ending.returned (congrArg Value.bool ?_), hs8.nil⟩
      unfold paneOk; show _ = ((((isId p.Id && isCmd p.Cmd) && isCmd p.Dir) && termOk p.Term.dat) && lifeOk p.Life p.Code p.Pid)
      simp only [lifeOk, isId, isCmd, within] at *; grind
     ·have qh13 := h13
      try simp only [bf, within_iff, within_not] at qh13
      refine WC.skip ?_
      refine hK10 _ _ ?_
      refine WC.rr tbk hs8 [] rfl trivial ?_
      refine WC.ret ?_
      refine retV1 rfl (resV.tmp rfl) ?_
      refine ⟨congrArg Ending.returned (congrArg Value.bool ?_), hs8.nil⟩
      unfold paneOk; show _ = ((((isId p.Id && isCmd p.Cmd) && isCmd p.Dir) && termOk p.Term.dat) && lifeOk p.Life p.Code p.Pid)
      simp only [lifeOk, isId, isCmd, within] at *; grind
end Go.Proofs.Ytmkgffhdbagmjaa
