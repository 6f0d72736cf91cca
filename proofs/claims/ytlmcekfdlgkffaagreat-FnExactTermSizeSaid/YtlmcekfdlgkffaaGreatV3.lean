/- Walks of Go functions, printed by a program (wip/gen). -/
import Derived.Test.YtlmcekfdlgkffaaGreatV2
import Derived.Test.YtlmcekfdlgkffaaGreatP4
namespace Go.Proofs.YtlmcekfdlgkffaaGreat
open Go Go.RowKit
set_option linter.unusedVariables false
set_option linter.unusedSimpArgs false
theorem c_impl_TermOk (t : TermR) (w : World) (f_t : okTermR 549755813888 w t) :
    Calls Tryz.prog 58 #[.agg #[i64 t.P.State, .bool t.P.Mark, .slice t.P.Args.A t.P.Args.n t.P.Args.c, .slice t.P.Part.A t.P.Part.n t.P.Part.c, i64 t.S.W, i64 t.S.H, i64 t.S.Main.W, i64 t.S.Main.H, .slice t.S.Main.Cells.A t.S.Main.Cells.n t.S.Main.Cells.c, i64 t.S.Alt.W, i64 t.S.Alt.H, .slice t.S.Alt.Cells.A t.S.Alt.Cells.n t.S.Alt.Cells.c, .bool t.S.OnAlt, i64 t.S.X, i64 t.S.Y, .bool t.S.Wrap, i64 t.S.A.Fg, i64 t.S.A.Bg, .bool t.S.A.Bold, .bool t.S.A.Under, .bool t.S.A.Turn, i64 t.S.Top, i64 t.S.Bot, .bool t.S.NoWrap, .bool t.S.Hide, i64 t.S.SaveX, i64 t.S.SaveY, i64 t.S.SaveA.Fg, i64 t.S.SaveA.Bg, .bool t.S.SaveA.Bold, .bool t.S.SaveA.Under, .bool t.S.SaveA.Turn, .slice t.S.Tabs.A t.S.Tabs.n t.S.Tabs.c, i64 t.S.Limit, .slice t.S.Back.A t.S.Back.n t.S.Back.c]] w fun e w' => e = .returned (.bool (termOk t.dat)) ∧ St w [] [] w' := by
 have nb_t_P_Args := f_t.P.Args_n
 have nl_t_P_Args := f_t.P.Args.len
 have nb_t_P_Part := f_t.P.Part_n
 have nl_t_P_Part := f_t.P.Part.len
 have nb_t_S_Main_Cells := f_t.S.Main.Cells_n
 have nl_t_S_Main_Cells := f_t.S.Main.Cells.len
 have nb_t_S_Alt_Cells := f_t.S.Alt.Cells_n
 have nl_t_S_Alt_Cells := f_t.S.Alt.Cells.len
 have nb_t_S_Tabs := f_t.S.Tabs_n
 have nl_t_S_Tabs := f_t.S.Tabs.len
 have nb_t_S_Back := f_t.S.Back_n
 have nl_t_S_Back := f_t.S.Back.sl.len
 refine enter (vs := [.agg #[i64 t.P.State, .bool t.P.Mark, .slice t.P.Args.A t.P.Args.n t.P.Args.c, .slice t.P.Part.A t.P.Part.n t.P.Part.c, i64 t.S.W, i64 t.S.H, i64 t.S.Main.W, i64 t.S.Main.H, .slice t.S.Main.Cells.A t.S.Main.Cells.n t.S.Main.Cells.c, i64 t.S.Alt.W, i64 t.S.Alt.H, .slice t.S.Alt.Cells.A t.S.Alt.Cells.n t.S.Alt.Cells.c, .bool t.S.OnAlt, i64 t.S.X, i64 t.S.Y, .bool t.S.Wrap, i64 t.S.A.Fg, i64 t.S.A.Bg, .bool t.S.A.Bold, .bool t.S.A.Under, .bool t.S.A.Turn, i64 t.S.Top, i64 t.S.Bot, .bool t.S.NoWrap, .bool t.S.Hide, i64 t.S.SaveX, i64 t.S.SaveY, i64 t.S.SaveA.Fg, i64 t.S.SaveA.Bg, .bool t.S.SaveA.Bold, .bool t.S.SaveA.Under, .bool t.S.SaveA.Turn, .slice t.S.Tabs.A t.S.Tabs.n t.S.Tabs.c, i64 t.S.Limit, .slice t.S.Back.A t.S.Back.n t.S.Back.c]]) 11 Tryz.func58 rfl Tryz.ntmps58 rfl rfl ?_
 have hs1 := St.init w
 refine WC.sr ?_
 refine WL.bx hs1 rfl (fun b2 _ hs3 => ?_)
 refine WL.run tbk 1 hs3 [] rfl trivial ?_
 refine WL.nil ?_
 refine WC.sr ?_
 refine WL.run tbk 2 hs3 [0] rfl ⟨rfl, trivial⟩ ?_
 refine WL.call rfl rfl rfl (Run.call Tryz.call135 rfl rfl rfl) (c_impl_VpOk t.P _ (okVpR.st0 f_t.P hs3)) ?_
 rintro _ whs4 ⟨rfl, hs4⟩
 replace hs4 := hs3.call0 hs4
 refine ⟨_, rfl, ?_⟩
 refine WL.run tbk 1 hs4 [] rfl trivial ?_
 apply WL.gA 3 Acts.nil hs4 rfl
 ·intro g5 J6
  have qg5 := g5
  try simp only [bf, within_iff, within_not] at qg5
  refine WL.runA tbk 2 (Acts.nil.cons (j := 3) rfl g5) hs4 [0] rfl ⟨rfl, trivial⟩ ?_
  refine WL.call (wantT rfl g5) rfl rfl (Run.call Tryz.call44 rfl rfl rfl) (c_impl_ScrOk t.S _ (okScrR.st0 f_t.S hs4)) ?_
  rintro _ whs7 ⟨rfl, hs7⟩
  replace hs7 := hs4.call0 hs7
  refine ⟨_, rfl, ?_⟩
  exact WL.eA 3 Acts.nil J6 hs7 g5 rfl rfl
 ·intro _ hs8
  refine WL.run tbk 1 hs8 [] rfl trivial ?_
  refine WL.nil ?_
  refine WC.ret ?_
  refine retV1 rfl (resV.tmp rfl) ?_
  refine ⟨congrArg Ending.returned ?_, hs8.nil⟩
  rfl
theorem c_spec_TermOk (t : TermR) (w : World) (f_t : okTermR 549755813888 w t) :
    Calls Tryz.prog 54 #[.agg #[i64 t.P.State, .bool t.P.Mark, .slice t.P.Args.A t.P.Args.n t.P.Args.c, .slice t.P.Part.A t.P.Part.n t.P.Part.c, i64 t.S.W, i64 t.S.H, i64 t.S.Main.W, i64 t.S.Main.H, .slice t.S.Main.Cells.A t.S.Main.Cells.n t.S.Main.Cells.c, i64 t.S.Alt.W, i64 t.S.Alt.H, .slice t.S.Alt.Cells.A t.S.Alt.Cells.n t.S.Alt.Cells.c, .bool t.S.OnAlt, i64 t.S.X, i64 t.S.Y, .bool t.S.Wrap, i64 t.S.A.Fg, i64 t.S.A.Bg, .bool t.S.A.Bold, .bool t.S.A.Under, .bool t.S.A.Turn, i64 t.S.Top, i64 t.S.Bot, .bool t.S.NoWrap, .bool t.S.Hide, i64 t.S.SaveX, i64 t.S.SaveY, i64 t.S.SaveA.Fg, i64 t.S.SaveA.Bg, .bool t.S.SaveA.Bold, .bool t.S.SaveA.Under, .bool t.S.SaveA.Turn, .slice t.S.Tabs.A t.S.Tabs.n t.S.Tabs.c, i64 t.S.Limit, .slice t.S.Back.A t.S.Back.n t.S.Back.c]] w fun e w' => e = .returned (.bool (termOk t.dat)) ∧ St w [] [] w' := by
 have nb_t_P_Args := f_t.P.Args_n
 have nl_t_P_Args := f_t.P.Args.len
 have nb_t_P_Part := f_t.P.Part_n
 have nl_t_P_Part := f_t.P.Part.len
 have nb_t_S_Main_Cells := f_t.S.Main.Cells_n
 have nl_t_S_Main_Cells := f_t.S.Main.Cells.len
 have nb_t_S_Alt_Cells := f_t.S.Alt.Cells_n
 have nl_t_S_Alt_Cells := f_t.S.Alt.Cells.len
 have nb_t_S_Tabs := f_t.S.Tabs_n
 have nl_t_S_Tabs := f_t.S.Tabs.len
 have nb_t_S_Back := f_t.S.Back_n
 have nl_t_S_Back := f_t.S.Back.sl.len
 refine enter (vs := [.agg #[i64 t.P.State, .bool t.P.Mark, .slice t.P.Args.A t.P.Args.n t.P.Args.c, .slice t.P.Part.A t.P.Part.n t.P.Part.c, i64 t.S.W, i64 t.S.H, i64 t.S.Main.W, i64 t.S.Main.H, .slice t.S.Main.Cells.A t.S.Main.Cells.n t.S.Main.Cells.c, i64 t.S.Alt.W, i64 t.S.Alt.H, .slice t.S.Alt.Cells.A t.S.Alt.Cells.n t.S.Alt.Cells.c, .bool t.S.OnAlt, i64 t.S.X, i64 t.S.Y, .bool t.S.Wrap, i64 t.S.A.Fg, i64 t.S.A.Bg, .bool t.S.A.Bold, .bool t.S.A.Under, .bool t.S.A.Turn, i64 t.S.Top, i64 t.S.Bot, .bool t.S.NoWrap, .bool t.S.Hide, i64 t.S.SaveX, i64 t.S.SaveY, i64 t.S.SaveA.Fg, i64 t.S.SaveA.Bg, .bool t.S.SaveA.Bold, .bool t.S.SaveA.Under, .bool t.S.SaveA.Turn, .slice t.S.Tabs.A t.S.Tabs.n t.S.Tabs.c, i64 t.S.Limit, .slice t.S.Back.A t.S.Back.n t.S.Back.c]]) 11 Tryz.func54 rfl Tryz.ntmps54 rfl rfl ?_
 have hs1 := St.init w
 refine WC.sr ?_
 refine WL.bx hs1 rfl (fun b2 _ hs3 => ?_)
 refine WL.run tbk 1 hs3 [] rfl trivial ?_
 refine WL.nil ?_
 refine WC.sr ?_
 refine WL.run tbk 2 hs3 [0] rfl ⟨rfl, trivial⟩ ?_
 refine WL.call rfl rfl rfl (Run.call Tryz.call129 rfl rfl rfl) (c_spec_VpOk t.P _ (okVpR.st0 f_t.P hs3)) ?_
 rintro _ whs4 ⟨rfl, hs4⟩
 replace hs4 := hs3.call0 hs4
 refine ⟨_, rfl, ?_⟩
 refine WL.run tbk 1 hs4 [] rfl trivial ?_
 apply WL.gA 3 Acts.nil hs4 rfl
 ·intro g5 J6
  have qg5 := g5
  try simp only [bf, within_iff, within_not] at qg5
  refine WL.runA tbk 2 (Acts.nil.cons (j := 3) rfl g5) hs4 [0] rfl ⟨rfl, trivial⟩ ?_
  refine WL.call (wantT rfl g5) rfl rfl (Run.call Tryz.call85 rfl rfl rfl) (c_spec_ScrOk t.S _ (okScrR.st0 f_t.S hs4)) ?_
  rintro _ whs7 ⟨rfl, hs7⟩
  replace hs7 := hs4.call0 hs7
  refine ⟨_, rfl, ?_⟩
  exact WL.eA 3 Acts.nil J6 hs7 g5 rfl rfl
 ·intro _ hs8
  refine WL.run tbk 1 hs8 [] rfl trivial ?_
  refine WL.nil ?_
  refine WC.ret ?_
  refine retV1 rfl (resV.tmp rfl) ?_
  refine ⟨congrArg Ending.returned ?_, hs8.nil⟩
  rfl
end Go.Proofs.YtlmcekfdlgkffaaGreat
