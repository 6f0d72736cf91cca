/-
  The program's data, type by type, and the cells that it lies in. Printed by wip/gen/types.py.
-/
import Derived.Test.YtlmcekfdlgkffaaEB
namespace Go.Proofs.Ytlmcekfdlgkffaa
open Go Go.RowKit
set_option linter.unusedVariables false
set_option linter.unusedSimpArgs false
structure FileD where
  Id : Int
  Body : List UInt8
  Safe : Int
theorem FileD.ext' {x y : FileD} (h0 : x.Id = y.Id) (h1 : x.Body = y.Body) (h2 : x.Safe = y.Safe) : x = y := by cases x; cases y; simp_all
theorem FileD.iff' {x y : FileD} : x = y ↔ x.Id = y.Id ∧ x.Body = y.Body ∧ x.Safe = y.Safe := ⟨fun h => by subst h; simp, fun h => by cases x; cases y; simp_all⟩
instance : DecidableEq FileD := fun x y => decidable_of_iff (x.Id = y.Id ∧ x.Body = y.Body ∧ x.Safe = y.Safe) FileD.iff'.symm
structure LinkD where
  Name : ByteArray
  Id : Int
theorem LinkD.ext' {x y : LinkD} (h0 : x.Name = y.Name) (h1 : x.Id = y.Id) : x = y := by cases x; cases y; simp_all
theorem LinkD.iff' {x y : LinkD} : x = y ↔ x.Name = y.Name ∧ x.Id = y.Id := ⟨fun h => by subst h; simp, fun h => by cases x; cases y; simp_all⟩
instance : DecidableEq LinkD := fun x y => decidable_of_iff (x.Name = y.Name ∧ x.Id = y.Id) LinkD.iff'.symm
def encLink : Enc LinkD := ⟨2, fun d => [.string d.Name, i64 d.Id], ⟨{ data := #[] }, 0⟩, fun _ => rfl, fun x v h => by simp at h; rcases h with rfl | rfl <;> rfl, by decide⟩
structure TurnD where
  Kind : Int
  Name : ByteArray
  To : ByteArray
  Id : Int
theorem TurnD.ext' {x y : TurnD} (h0 : x.Kind = y.Kind) (h1 : x.Name = y.Name) (h2 : x.To = y.To) (h3 : x.Id = y.Id) : x = y := by cases x; cases y; simp_all
theorem TurnD.iff' {x y : TurnD} : x = y ↔ x.Kind = y.Kind ∧ x.Name = y.Name ∧ x.To = y.To ∧ x.Id = y.Id := ⟨fun h => by subst h; simp, fun h => by cases x; cases y; simp_all⟩
instance : DecidableEq TurnD := fun x y => decidable_of_iff (x.Kind = y.Kind ∧ x.Name = y.Name ∧ x.To = y.To ∧ x.Id = y.Id) TurnD.iff'.symm
def encTurn : Enc TurnD := ⟨4, fun d => [i64 d.Kind, .string d.Name, .string d.To, i64 d.Id], ⟨0, { data := #[] }, { data := #[] }, 0⟩, fun _ => rfl, fun x v h => by simp at h; rcases h with rfl | rfl | rfl | rfl <;> rfl, by decide⟩
structure DiskD where
  Room : Int
  Fuse : Int
  Next : Int
  Files : List FileD
  Kept : List LinkD
  Turns : List TurnD
theorem DiskD.ext' {x y : DiskD} (h0 : x.Room = y.Room) (h1 : x.Fuse = y.Fuse) (h2 : x.Next = y.Next) (h3 : x.Files = y.Files) (h4 : x.Kept = y.Kept) (h5 : x.Turns = y.Turns) : x = y := by cases x; cases y; simp_all
theorem DiskD.iff' {x y : DiskD} : x = y ↔ x.Room = y.Room ∧ x.Fuse = y.Fuse ∧ x.Next = y.Next ∧ x.Files = y.Files ∧ x.Kept = y.Kept ∧ x.Turns = y.Turns := ⟨fun h => by subst h; simp, fun h => by cases x; cases y; simp_all⟩
instance : DecidableEq DiskD := fun x y => decidable_of_iff (x.Room = y.Room ∧ x.Fuse = y.Fuse ∧ x.Next = y.Next ∧ x.Files = y.Files ∧ x.Kept = y.Kept ∧ x.Turns = y.Turns) DiskD.iff'.symm
structure DiskOpD where
  Kind : Int
  Name : ByteArray
  To : ByteArray
  Data : List UInt8
theorem DiskOpD.ext' {x y : DiskOpD} (h0 : x.Kind = y.Kind) (h1 : x.Name = y.Name) (h2 : x.To = y.To) (h3 : x.Data = y.Data) : x = y := by cases x; cases y; simp_all
theorem DiskOpD.iff' {x y : DiskOpD} : x = y ↔ x.Kind = y.Kind ∧ x.Name = y.Name ∧ x.To = y.To ∧ x.Data = y.Data := ⟨fun h => by subst h; simp, fun h => by cases x; cases y; simp_all⟩
instance : DecidableEq DiskOpD := fun x y => decidable_of_iff (x.Kind = y.Kind ∧ x.Name = y.Name ∧ x.To = y.To ∧ x.Data = y.Data) DiskOpD.iff'.symm
structure LoadD where
  Data : List UInt8
theorem LoadD.ext' {x y : LoadD} (h0 : x.Data = y.Data) : x = y := by cases x; cases y; simp_all
theorem LoadD.iff' {x y : LoadD} : x = y ↔ x.Data = y.Data := ⟨fun h => by subst h; simp, fun h => by cases x; cases y; simp_all⟩
instance : DecidableEq LoadD := fun x y => decidable_of_iff (x.Data = y.Data) LoadD.iff'.symm
structure DepotD where
  Disk : DiskD
  Gen : Int
  Seq : Int
  Size : Int
  Stuck : Bool
theorem DepotD.ext' {x y : DepotD} (h0 : x.Disk = y.Disk) (h1 : x.Gen = y.Gen) (h2 : x.Seq = y.Seq) (h3 : x.Size = y.Size) (h4 : x.Stuck = y.Stuck) : x = y := by cases x; cases y; simp_all
theorem DepotD.iff' {x y : DepotD} : x = y ↔ x.Disk = y.Disk ∧ x.Gen = y.Gen ∧ x.Seq = y.Seq ∧ x.Size = y.Size ∧ x.Stuck = y.Stuck := ⟨fun h => by subst h; simp, fun h => by cases x; cases y; simp_all⟩
instance : DecidableEq DepotD := fun x y => decidable_of_iff (x.Disk = y.Disk ∧ x.Gen = y.Gen ∧ x.Seq = y.Seq ∧ x.Size = y.Size ∧ x.Stuck = y.Stuck) DepotD.iff'.symm
structure AttrD where
  Fg : Int
  Bg : Int
  Bold : Bool
  Under : Bool
  Turn : Bool
theorem AttrD.ext' {x y : AttrD} (h0 : x.Fg = y.Fg) (h1 : x.Bg = y.Bg) (h2 : x.Bold = y.Bold) (h3 : x.Under = y.Under) (h4 : x.Turn = y.Turn) : x = y := by cases x; cases y; simp_all
theorem AttrD.iff' {x y : AttrD} : x = y ↔ x.Fg = y.Fg ∧ x.Bg = y.Bg ∧ x.Bold = y.Bold ∧ x.Under = y.Under ∧ x.Turn = y.Turn := ⟨fun h => by subst h; simp, fun h => by cases x; cases y; simp_all⟩
instance : DecidableEq AttrD := fun x y => decidable_of_iff (x.Fg = y.Fg ∧ x.Bg = y.Bg ∧ x.Bold = y.Bold ∧ x.Under = y.Under ∧ x.Turn = y.Turn) AttrD.iff'.symm
def encAttr : Enc AttrD := ⟨5, fun d => [i64 d.Fg, i64 d.Bg, .bool d.Bold, .bool d.Under, .bool d.Turn], ⟨0, 0, false, false, false⟩, fun _ => rfl, fun x v h => by simp at h; rcases h with rfl | rfl | rfl | rfl | rfl <;> rfl, by decide⟩
def mkAttr (k : Int) : AttrD := ⟨k, (k + 1), decide ((k + 1 + 1) % 3 = 0), decide ((k + 1 + 1 + 1) % 3 = 0), decide ((k + 1 + 1 + 1 + 1) % 3 = 0)⟩
structure CellD where
  R : Int
  A : AttrD
theorem CellD.ext' {x y : CellD} (h0 : x.R = y.R) (h1 : x.A = y.A) : x = y := by cases x; cases y; simp_all
theorem CellD.iff' {x y : CellD} : x = y ↔ x.R = y.R ∧ x.A = y.A := ⟨fun h => by subst h; simp, fun h => by cases x; cases y; simp_all⟩
instance : DecidableEq CellD := fun x y => decidable_of_iff (x.R = y.R ∧ x.A = y.A) CellD.iff'.symm
def encCell : Enc CellD := ⟨6, fun d => [i64 d.R, i64 d.A.Fg, i64 d.A.Bg, .bool d.A.Bold, .bool d.A.Under, .bool d.A.Turn], ⟨0, ⟨0, 0, false, false, false⟩⟩, fun _ => rfl, fun x v h => by simp at h; rcases h with rfl | rfl | rfl | rfl | rfl | rfl <;> rfl, by decide⟩
def mkCell (k : Int) : CellD := ⟨k, ⟨(k + 1), (k + 1 + 1), decide ((k + 1 + 1 + 1) % 3 = 0), decide ((k + 1 + 1 + 1 + 1) % 3 = 0), decide ((k + 1 + 1 + 1 + 1 + 1) % 3 = 0)⟩⟩
structure GridD where
  W : Int
  H : Int
  Cells : List CellD
theorem GridD.ext' {x y : GridD} (h0 : x.W = y.W) (h1 : x.H = y.H) (h2 : x.Cells = y.Cells) : x = y := by cases x; cases y; simp_all
theorem GridD.iff' {x y : GridD} : x = y ↔ x.W = y.W ∧ x.H = y.H ∧ x.Cells = y.Cells := ⟨fun h => by subst h; simp, fun h => by cases x; cases y; simp_all⟩
instance : DecidableEq GridD := fun x y => decidable_of_iff (x.W = y.W ∧ x.H = y.H ∧ x.Cells = y.Cells) GridD.iff'.symm
structure VpD where
  State : Int
  Mark : Bool
  Args : List Int
  Part : List UInt8
theorem VpD.ext' {x y : VpD} (h0 : x.State = y.State) (h1 : x.Mark = y.Mark) (h2 : x.Args = y.Args) (h3 : x.Part = y.Part) : x = y := by cases x; cases y; simp_all
theorem VpD.iff' {x y : VpD} : x = y ↔ x.State = y.State ∧ x.Mark = y.Mark ∧ x.Args = y.Args ∧ x.Part = y.Part := ⟨fun h => by subst h; simp, fun h => by cases x; cases y; simp_all⟩
instance : DecidableEq VpD := fun x y => decidable_of_iff (x.State = y.State ∧ x.Mark = y.Mark ∧ x.Args = y.Args ∧ x.Part = y.Part) VpD.iff'.symm
structure ActD where
  Kind : Int
  R : Int
  Mark : Bool
  Args : List Int
theorem ActD.ext' {x y : ActD} (h0 : x.Kind = y.Kind) (h1 : x.R = y.R) (h2 : x.Mark = y.Mark) (h3 : x.Args = y.Args) : x = y := by cases x; cases y; simp_all
theorem ActD.iff' {x y : ActD} : x = y ↔ x.Kind = y.Kind ∧ x.R = y.R ∧ x.Mark = y.Mark ∧ x.Args = y.Args := ⟨fun h => by subst h; simp, fun h => by cases x; cases y; simp_all⟩
instance : DecidableEq ActD := fun x y => decidable_of_iff (x.Kind = y.Kind ∧ x.R = y.R ∧ x.Mark = y.Mark ∧ x.Args = y.Args) ActD.iff'.symm
structure RowD where
  Cells : List CellD
theorem RowD.ext' {x y : RowD} (h0 : x.Cells = y.Cells) : x = y := by cases x; cases y; simp_all
theorem RowD.iff' {x y : RowD} : x = y ↔ x.Cells = y.Cells := ⟨fun h => by subst h; simp, fun h => by cases x; cases y; simp_all⟩
instance : DecidableEq RowD := fun x y => decidable_of_iff (x.Cells = y.Cells) RowD.iff'.symm
structure ScrD where
  W : Int
  H : Int
  Main : GridD
  Alt : GridD
  OnAlt : Bool
  X : Int
  Y : Int
  Wrap : Bool
  A : AttrD
  Top : Int
  Bot : Int
  NoWrap : Bool
  Hide : Bool
  SaveX : Int
  SaveY : Int
  SaveA : AttrD
  Tabs : List Int
  Limit : Int
  Back : List RowD
theorem ScrD.ext' {x y : ScrD} (h0 : x.W = y.W) (h1 : x.H = y.H) (h2 : x.Main = y.Main) (h3 : x.Alt = y.Alt) (h4 : x.OnAlt = y.OnAlt) (h5 : x.X = y.X) (h6 : x.Y = y.Y) (h7 : x.Wrap = y.Wrap) (h8 : x.A = y.A) (h9 : x.Top = y.Top) (h10 : x.Bot = y.Bot) (h11 : x.NoWrap = y.NoWrap) (h12 : x.Hide = y.Hide) (h13 : x.SaveX = y.SaveX) (h14 : x.SaveY = y.SaveY) (h15 : x.SaveA = y.SaveA) (h16 : x.Tabs = y.Tabs) (h17 : x.Limit = y.Limit) (h18 : x.Back = y.Back) : x = y := by cases x; cases y; simp_all
theorem ScrD.iff' {x y : ScrD} : x = y ↔ x.W = y.W ∧ x.H = y.H ∧ x.Main = y.Main ∧ x.Alt = y.Alt ∧ x.OnAlt = y.OnAlt ∧ x.X = y.X ∧ x.Y = y.Y ∧ x.Wrap = y.Wrap ∧ x.A = y.A ∧ x.Top = y.Top ∧ x.Bot = y.Bot ∧ x.NoWrap = y.NoWrap ∧ x.Hide = y.Hide ∧ x.SaveX = y.SaveX ∧ x.SaveY = y.SaveY ∧ x.SaveA = y.SaveA ∧ x.Tabs = y.Tabs ∧ x.Limit = y.Limit ∧ x.Back = y.Back := ⟨fun h => by subst h; simp, fun h => by cases x; cases y; simp_all⟩
instance : DecidableEq ScrD := fun x y => decidable_of_iff (x.W = y.W ∧ x.H = y.H ∧ x.Main = y.Main ∧ x.Alt = y.Alt ∧ x.OnAlt = y.OnAlt ∧ x.X = y.X ∧ x.Y = y.Y ∧ x.Wrap = y.Wrap ∧ x.A = y.A ∧ x.Top = y.Top ∧ x.Bot = y.Bot ∧ x.NoWrap = y.NoWrap ∧ x.Hide = y.Hide ∧ x.SaveX = y.SaveX ∧ x.SaveY = y.SaveY ∧ x.SaveA = y.SaveA ∧ x.Tabs = y.Tabs ∧ x.Limit = y.Limit ∧ x.Back = y.Back) ScrD.iff'.symm
structure TermD where
  P : VpD
  S : ScrD
theorem TermD.ext' {x y : TermD} (h0 : x.P = y.P) (h1 : x.S = y.S) : x = y := by cases x; cases y; simp_all
theorem TermD.iff' {x y : TermD} : x = y ↔ x.P = y.P ∧ x.S = y.S := ⟨fun h => by subst h; simp, fun h => by cases x; cases y; simp_all⟩
instance : DecidableEq TermD := fun x y => decidable_of_iff (x.P = y.P ∧ x.S = y.S) TermD.iff'.symm
structure NodeD where
  Pane : Int
  Down : Bool
  First : Int
theorem NodeD.ext' {x y : NodeD} (h0 : x.Pane = y.Pane) (h1 : x.Down = y.Down) (h2 : x.First = y.First) : x = y := by cases x; cases y; simp_all
theorem NodeD.iff' {x y : NodeD} : x = y ↔ x.Pane = y.Pane ∧ x.Down = y.Down ∧ x.First = y.First := ⟨fun h => by subst h; simp, fun h => by cases x; cases y; simp_all⟩
instance : DecidableEq NodeD := fun x y => decidable_of_iff (x.Pane = y.Pane ∧ x.Down = y.Down ∧ x.First = y.First) NodeD.iff'.symm
def encNode : Enc NodeD := ⟨3, fun d => [i64 d.Pane, .bool d.Down, i64 d.First], ⟨0, false, 0⟩, fun _ => rfl, fun x v h => by simp at h; rcases h with rfl | rfl | rfl <;> rfl, by decide⟩
def mkNode (k : Int) : NodeD := ⟨k, decide ((k + 1) % 3 = 0), (k + 1 + 1)⟩
structure PaneD where
  Id : Int
  Cmd : ByteArray
  Dir : ByteArray
  Life : Int
  Code : Int
  Pid : Int
  Term : TermD
theorem PaneD.ext' {x y : PaneD} (h0 : x.Id = y.Id) (h1 : x.Cmd = y.Cmd) (h2 : x.Dir = y.Dir) (h3 : x.Life = y.Life) (h4 : x.Code = y.Code) (h5 : x.Pid = y.Pid) (h6 : x.Term = y.Term) : x = y := by cases x; cases y; simp_all
theorem PaneD.iff' {x y : PaneD} : x = y ↔ x.Id = y.Id ∧ x.Cmd = y.Cmd ∧ x.Dir = y.Dir ∧ x.Life = y.Life ∧ x.Code = y.Code ∧ x.Pid = y.Pid ∧ x.Term = y.Term := ⟨fun h => by subst h; simp, fun h => by cases x; cases y; simp_all⟩
instance : DecidableEq PaneD := fun x y => decidable_of_iff (x.Id = y.Id ∧ x.Cmd = y.Cmd ∧ x.Dir = y.Dir ∧ x.Life = y.Life ∧ x.Code = y.Code ∧ x.Pid = y.Pid ∧ x.Term = y.Term) PaneD.iff'.symm
structure WinD where
  Id : Int
  Name : ByteArray
  Tree : List NodeD
  Active : Int
  Zoom : Bool
theorem WinD.ext' {x y : WinD} (h0 : x.Id = y.Id) (h1 : x.Name = y.Name) (h2 : x.Tree = y.Tree) (h3 : x.Active = y.Active) (h4 : x.Zoom = y.Zoom) : x = y := by cases x; cases y; simp_all
theorem WinD.iff' {x y : WinD} : x = y ↔ x.Id = y.Id ∧ x.Name = y.Name ∧ x.Tree = y.Tree ∧ x.Active = y.Active ∧ x.Zoom = y.Zoom := ⟨fun h => by subst h; simp, fun h => by cases x; cases y; simp_all⟩
instance : DecidableEq WinD := fun x y => decidable_of_iff (x.Id = y.Id ∧ x.Name = y.Name ∧ x.Tree = y.Tree ∧ x.Active = y.Active ∧ x.Zoom = y.Zoom) WinD.iff'.symm
structure SessD where
  Name : ByteArray
  Wins : List Int
  Active : Int
theorem SessD.ext' {x y : SessD} (h0 : x.Name = y.Name) (h1 : x.Wins = y.Wins) (h2 : x.Active = y.Active) : x = y := by cases x; cases y; simp_all
theorem SessD.iff' {x y : SessD} : x = y ↔ x.Name = y.Name ∧ x.Wins = y.Wins ∧ x.Active = y.Active := ⟨fun h => by subst h; simp, fun h => by cases x; cases y; simp_all⟩
instance : DecidableEq SessD := fun x y => decidable_of_iff (x.Name = y.Name ∧ x.Wins = y.Wins ∧ x.Active = y.Active) SessD.iff'.symm
structure StateD where
  W : Int
  H : Int
  Limit : Int
  Next : Int
  Panes : List PaneD
  Wins : List WinD
  Sess : List SessD
theorem StateD.ext' {x y : StateD} (h0 : x.W = y.W) (h1 : x.H = y.H) (h2 : x.Limit = y.Limit) (h3 : x.Next = y.Next) (h4 : x.Panes = y.Panes) (h5 : x.Wins = y.Wins) (h6 : x.Sess = y.Sess) : x = y := by cases x; cases y; simp_all
theorem StateD.iff' {x y : StateD} : x = y ↔ x.W = y.W ∧ x.H = y.H ∧ x.Limit = y.Limit ∧ x.Next = y.Next ∧ x.Panes = y.Panes ∧ x.Wins = y.Wins ∧ x.Sess = y.Sess := ⟨fun h => by subst h; simp, fun h => by cases x; cases y; simp_all⟩
instance : DecidableEq StateD := fun x y => decidable_of_iff (x.W = y.W ∧ x.H = y.H ∧ x.Limit = y.Limit ∧ x.Next = y.Next ∧ x.Panes = y.Panes ∧ x.Wins = y.Wins ∧ x.Sess = y.Sess) StateD.iff'.symm
structure OpD where
  Kind : Int
  A : Int
  B : Int
  C : Int
  Name : ByteArray
  Text : ByteArray
  Dir : ByteArray
  Data : List UInt8
theorem OpD.ext' {x y : OpD} (h0 : x.Kind = y.Kind) (h1 : x.A = y.A) (h2 : x.B = y.B) (h3 : x.C = y.C) (h4 : x.Name = y.Name) (h5 : x.Text = y.Text) (h6 : x.Dir = y.Dir) (h7 : x.Data = y.Data) : x = y := by cases x; cases y; simp_all
theorem OpD.iff' {x y : OpD} : x = y ↔ x.Kind = y.Kind ∧ x.A = y.A ∧ x.B = y.B ∧ x.C = y.C ∧ x.Name = y.Name ∧ x.Text = y.Text ∧ x.Dir = y.Dir ∧ x.Data = y.Data := ⟨fun h => by subst h; simp, fun h => by cases x; cases y; simp_all⟩
instance : DecidableEq OpD := fun x y => decidable_of_iff (x.Kind = y.Kind ∧ x.A = y.A ∧ x.B = y.B ∧ x.C = y.C ∧ x.Name = y.Name ∧ x.Text = y.Text ∧ x.Dir = y.Dir ∧ x.Data = y.Data) OpD.iff'.symm
structure ViewD where
  Grid : GridD
  X : Int
  Y : Int
  Hide : Bool
theorem ViewD.ext' {x y : ViewD} (h0 : x.Grid = y.Grid) (h1 : x.X = y.X) (h2 : x.Y = y.Y) (h3 : x.Hide = y.Hide) : x = y := by cases x; cases y; simp_all
theorem ViewD.iff' {x y : ViewD} : x = y ↔ x.Grid = y.Grid ∧ x.X = y.X ∧ x.Y = y.Y ∧ x.Hide = y.Hide := ⟨fun h => by subst h; simp, fun h => by cases x; cases y; simp_all⟩
instance : DecidableEq ViewD := fun x y => decidable_of_iff (x.Grid = y.Grid ∧ x.X = y.X ∧ x.Y = y.Y ∧ x.Hide = y.Hide) ViewD.iff'.symm
structure ProcD where
  Pid : Int
  Pane : Int
theorem ProcD.ext' {x y : ProcD} (h0 : x.Pid = y.Pid) (h1 : x.Pane = y.Pane) : x = y := by cases x; cases y; simp_all
theorem ProcD.iff' {x y : ProcD} : x = y ↔ x.Pid = y.Pid ∧ x.Pane = y.Pane := ⟨fun h => by subst h; simp, fun h => by cases x; cases y; simp_all⟩
instance : DecidableEq ProcD := fun x y => decidable_of_iff (x.Pid = y.Pid ∧ x.Pane = y.Pane) ProcD.iff'.symm
def encProc : Enc ProcD := ⟨2, fun d => [i64 d.Pid, i64 d.Pane], ⟨0, 0⟩, fun _ => rfl, fun x v h => by simp at h; rcases h with rfl | rfl <;> rfl, by decide⟩
def mkProc (k : Int) : ProcD := ⟨k, (k + 1)⟩
structure AskD where
  Pane : Int
  Cmd : ByteArray
  Dir : ByteArray
  W : Int
  H : Int
  Pid : Int
theorem AskD.ext' {x y : AskD} (h0 : x.Pane = y.Pane) (h1 : x.Cmd = y.Cmd) (h2 : x.Dir = y.Dir) (h3 : x.W = y.W) (h4 : x.H = y.H) (h5 : x.Pid = y.Pid) : x = y := by cases x; cases y; simp_all
theorem AskD.iff' {x y : AskD} : x = y ↔ x.Pane = y.Pane ∧ x.Cmd = y.Cmd ∧ x.Dir = y.Dir ∧ x.W = y.W ∧ x.H = y.H ∧ x.Pid = y.Pid := ⟨fun h => by subst h; simp, fun h => by cases x; cases y; simp_all⟩
instance : DecidableEq AskD := fun x y => decidable_of_iff (x.Pane = y.Pane ∧ x.Cmd = y.Cmd ∧ x.Dir = y.Dir ∧ x.W = y.W ∧ x.H = y.H ∧ x.Pid = y.Pid) AskD.iff'.symm
def encAsk : Enc AskD := ⟨6, fun d => [i64 d.Pane, .string d.Cmd, .string d.Dir, i64 d.W, i64 d.H, i64 d.Pid], ⟨0, { data := #[] }, { data := #[] }, 0, 0, 0⟩, fun _ => rfl, fun x v h => by simp at h; rcases h with rfl | rfl | rfl | rfl | rfl | rfl <;> rfl, by decide⟩
structure TableD where
  Next : Int
  Live : List ProcD
  Asked : List AskD
theorem TableD.ext' {x y : TableD} (h0 : x.Next = y.Next) (h1 : x.Live = y.Live) (h2 : x.Asked = y.Asked) : x = y := by cases x; cases y; simp_all
theorem TableD.iff' {x y : TableD} : x = y ↔ x.Next = y.Next ∧ x.Live = y.Live ∧ x.Asked = y.Asked := ⟨fun h => by subst h; simp, fun h => by cases x; cases y; simp_all⟩
instance : DecidableEq TableD := fun x y => decidable_of_iff (x.Next = y.Next ∧ x.Live = y.Live ∧ x.Asked = y.Asked) TableD.iff'.symm
structure HistD where
  Lost : Bool
  Op : OpD
theorem HistD.ext' {x y : HistD} (h0 : x.Lost = y.Lost) (h1 : x.Op = y.Op) : x = y := by cases x; cases y; simp_all
theorem HistD.iff' {x y : HistD} : x = y ↔ x.Lost = y.Lost ∧ x.Op = y.Op := ⟨fun h => by subst h; simp, fun h => by cases x; cases y; simp_all⟩
instance : DecidableEq HistD := fun x y => decidable_of_iff (x.Lost = y.Lost ∧ x.Op = y.Op) HistD.iff'.symm
structure SrvD where
  Base : StateD
  Top : Int
  Up : Bool
  St : StateD
  Dep : DepotD
  Disk : DiskD
  Tab : TableD
  Sure : Int
  Done : List HistD
theorem SrvD.ext' {x y : SrvD} (h0 : x.Base = y.Base) (h1 : x.Top = y.Top) (h2 : x.Up = y.Up) (h3 : x.St = y.St) (h4 : x.Dep = y.Dep) (h5 : x.Disk = y.Disk) (h6 : x.Tab = y.Tab) (h7 : x.Sure = y.Sure) (h8 : x.Done = y.Done) : x = y := by cases x; cases y; simp_all
theorem SrvD.iff' {x y : SrvD} : x = y ↔ x.Base = y.Base ∧ x.Top = y.Top ∧ x.Up = y.Up ∧ x.St = y.St ∧ x.Dep = y.Dep ∧ x.Disk = y.Disk ∧ x.Tab = y.Tab ∧ x.Sure = y.Sure ∧ x.Done = y.Done := ⟨fun h => by subst h; simp, fun h => by cases x; cases y; simp_all⟩
instance : DecidableEq SrvD := fun x y => decidable_of_iff (x.Base = y.Base ∧ x.Top = y.Top ∧ x.Up = y.Up ∧ x.St = y.St ∧ x.Dep = y.Dep ∧ x.Disk = y.Disk ∧ x.Tab = y.Tab ∧ x.Sure = y.Sure ∧ x.Done = y.Done) SrvD.iff'.symm
structure StepD where
  Kind : Int
  A : Int
  B : Int
  Text : ByteArray
  Data : List UInt8
  Cuts : List Int
theorem StepD.ext' {x y : StepD} (h0 : x.Kind = y.Kind) (h1 : x.A = y.A) (h2 : x.B = y.B) (h3 : x.Text = y.Text) (h4 : x.Data = y.Data) (h5 : x.Cuts = y.Cuts) : x = y := by cases x; cases y; simp_all
theorem StepD.iff' {x y : StepD} : x = y ↔ x.Kind = y.Kind ∧ x.A = y.A ∧ x.B = y.B ∧ x.Text = y.Text ∧ x.Data = y.Data ∧ x.Cuts = y.Cuts := ⟨fun h => by subst h; simp, fun h => by cases x; cases y; simp_all⟩
instance : DecidableEq StepD := fun x y => decidable_of_iff (x.Kind = y.Kind ∧ x.A = y.A ∧ x.B = y.B ∧ x.Text = y.Text ∧ x.Data = y.Data ∧ x.Cuts = y.Cuts) StepD.iff'.symm
structure RectD where
  Pane : Int
  X : Int
  Y : Int
  W : Int
  H : Int
theorem RectD.ext' {x y : RectD} (h0 : x.Pane = y.Pane) (h1 : x.X = y.X) (h2 : x.Y = y.Y) (h3 : x.W = y.W) (h4 : x.H = y.H) : x = y := by cases x; cases y; simp_all
theorem RectD.iff' {x y : RectD} : x = y ↔ x.Pane = y.Pane ∧ x.X = y.X ∧ x.Y = y.Y ∧ x.W = y.W ∧ x.H = y.H := ⟨fun h => by subst h; simp, fun h => by cases x; cases y; simp_all⟩
instance : DecidableEq RectD := fun x y => decidable_of_iff (x.Pane = y.Pane ∧ x.X = y.X ∧ x.Y = y.Y ∧ x.W = y.W ∧ x.H = y.H) RectD.iff'.symm
def encRect : Enc RectD := ⟨5, fun d => [i64 d.Pane, i64 d.X, i64 d.Y, i64 d.W, i64 d.H], ⟨0, 0, 0, 0, 0⟩, fun _ => rfl, fun x v h => by simp at h; rcases h with rfl | rfl | rfl | rfl | rfl <;> rfl, by decide⟩
def mkRect (k : Int) : RectD := ⟨k, (k + 1), (k + 1 + 1), (k + 1 + 1 + 1), (k + 1 + 1 + 1 + 1)⟩
end Go.Proofs.Ytlmcekfdlgkffaa
