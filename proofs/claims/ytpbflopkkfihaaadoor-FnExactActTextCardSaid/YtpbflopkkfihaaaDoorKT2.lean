/-
  What the proof stands on, part 2.
-/
import Derived.Test.YtpbflopkkfihaaaDoorKT1
namespace Go.Proofs.YtpbflopkkfihaaaDoor
open Go Go.RowKit
set_option linter.unusedVariables false
set_option linter.unusedSimpArgs false
structure FileD where
 Id : Int
 Body : List UInt8
 Safe : Int
theorem FileD.ext' {x y : FileD} (h0 : x.Id = y.Id) (h1 : x.Body = y.Body) (h2 : x.Safe = y.Safe) : x = y := by cases x; cases y; simp_all
theorem FileD.iff' {x y : FileD} : x = y ↔ x.Id = y.Id ∧ x.Body = y.Body ∧ x.Safe = y.Safe := ⟨fun h => by subst h; simp, fun h => by cases x; cases y; simp_all⟩
instance : DecidableEq FileD := fun x y => decidable_of_iff (x.Id = y.Id ∧ x.Body = y.Body ∧ x.Safe = y.Safe) FileD.iff'.symm
structure LinkD where
 Name : ByteArray
 Id : Int
theorem LinkD.ext' {x y : LinkD} (h0 : x.Name = y.Name) (h1 : x.Id = y.Id) : x = y := by cases x; cases y; simp_all
theorem LinkD.iff' {x y : LinkD} : x = y ↔ x.Name = y.Name ∧ x.Id = y.Id := ⟨fun h => by subst h; simp, fun h => by cases x; cases y; simp_all⟩
instance : DecidableEq LinkD := fun x y => decidable_of_iff (x.Name = y.Name ∧ x.Id = y.Id) LinkD.iff'.symm
structure TurnD where
 Kind : Int
 Name : ByteArray
 To : ByteArray
 Id : Int
theorem TurnD.ext' {x y : TurnD} (h0 : x.Kind = y.Kind) (h1 : x.Name = y.Name) (h2 : x.To = y.To) (h3 : x.Id = y.Id) : x = y := by cases x; cases y; simp_all
theorem TurnD.iff' {x y : TurnD} : x = y ↔ x.Kind = y.Kind ∧ x.Name = y.Name ∧ x.To = y.To ∧ x.Id = y.Id := ⟨fun h => by subst h; simp, fun h => by cases x; cases y; simp_all⟩
instance : DecidableEq TurnD := fun x y => decidable_of_iff (x.Kind = y.Kind ∧ x.Name = y.Name ∧ x.To = y.To ∧ x.Id = y.Id) TurnD.iff'.symm
structure DiskD where
 Room : Int
 Fuse : Int
 Next : Int
 Files : List FileD
 Kept : List LinkD
 Turns : List TurnD
theorem DiskD.ext' {x y : DiskD} (h0 : x.Room = y.Room) (h1 : x.Fuse = y.Fuse) (h2 : x.Next = y.Next) (h3 : x.Files = y.Files) (h4 : x.Kept = y.Kept) (h5 : x.Turns = y.Turns) : x = y := by cases x; cases y; simp_all
theorem DiskD.iff' {x y : DiskD} : x = y ↔ x.Room = y.Room ∧ x.Fuse = y.Fuse ∧ x.Next = y.Next ∧ x.Files = y.Files ∧ x.Kept = y.Kept ∧ x.Turns = y.Turns := ⟨fun h => by subst h; simp, fun h => by cases x; cases y; simp_all⟩
instance : DecidableEq DiskD := fun x y => decidable_of_iff (x.Room = y.Room ∧ x.Fuse = y.Fuse ∧ x.Next = y.Next ∧ x.Files = y.Files ∧ x.Kept = y.Kept ∧ x.Turns = y.Turns) DiskD.iff'.symm
structure DiskOpD where
 Kind : Int
 Name : ByteArray
 To : ByteArray
 Data : List UInt8
theorem DiskOpD.ext' {x y : DiskOpD} (h0 : x.Kind = y.Kind) (h1 : x.Name = y.Name) (h2 : x.To = y.To) (h3 : x.Data = y.Data) : x = y := by cases x; cases y; simp_all
theorem DiskOpD.iff' {x y : DiskOpD} : x = y ↔ x.Kind = y.Kind ∧ x.Name = y.Name ∧ x.To = y.To ∧ x.Data = y.Data := ⟨fun h => by subst h; simp, fun h => by cases x; cases y; simp_all⟩
instance : DecidableEq DiskOpD := fun x y => decidable_of_iff (x.Kind = y.Kind ∧ x.Name = y.Name ∧ x.To = y.To ∧ x.Data = y.Data) DiskOpD.iff'.symm
structure LoadD where
 Data : List UInt8
theorem LoadD.ext' {x y : LoadD} (h0 : x.Data = y.Data) : x = y := by cases x; cases y; simp_all
theorem LoadD.iff' {x y : LoadD} : x = y ↔ x.Data = y.Data := ⟨fun h => by subst h; simp, fun h => by cases x; cases y; simp_all⟩
instance : DecidableEq LoadD := fun x y => decidable_of_iff (x.Data = y.Data) LoadD.iff'.symm
structure DepotD where
 Disk : DiskD
 Gen : Int
 Seq : Int
 Size : Int
 Stuck : Bool
theorem DepotD.ext' {x y : DepotD} (h0 : x.Disk = y.Disk) (h1 : x.Gen = y.Gen) (h2 : x.Seq = y.Seq) (h3 : x.Size = y.Size) (h4 : x.Stuck = y.Stuck) : x = y := by cases x; cases y; simp_all
theorem DepotD.iff' {x y : DepotD} : x = y ↔ x.Disk = y.Disk ∧ x.Gen = y.Gen ∧ x.Seq = y.Seq ∧ x.Size = y.Size ∧ x.Stuck = y.Stuck := ⟨fun h => by subst h; simp, fun h => by cases x; cases y; simp_all⟩
instance : DecidableEq DepotD := fun x y => decidable_of_iff (x.Disk = y.Disk ∧ x.Gen = y.Gen ∧ x.Seq = y.Seq ∧ x.Size = y.Size ∧ x.Stuck = y.Stuck) DepotD.iff'.symm
structure AttrD where
 Fg : Int
 Bg : Int
 Bold : Bool
 Under : Bool
 Turn : Bool
theorem AttrD.ext' {x y : AttrD} (h0 : x.Fg = y.Fg) (h1 : x.Bg = y.Bg) (h2 : x.Bold = y.Bold) (h3 : x.Under = y.Under) (h4 : x.Turn = y.Turn) : x = y := by cases x; cases y; simp_all
theorem AttrD.iff' {x y : AttrD} : x = y ↔ x.Fg = y.Fg ∧ x.Bg = y.Bg ∧ x.Bold = y.Bold ∧ x.Under = y.Under ∧ x.Turn = y.Turn := ⟨fun h => by subst h; simp, fun h => by cases x; cases y; simp_all⟩
instance : DecidableEq AttrD := fun x y => decidable_of_iff (x.Fg = y.Fg ∧ x.Bg = y.Bg ∧ x.Bold = y.Bold ∧ x.Under = y.Under ∧ x.Turn = y.Turn) AttrD.iff'.symm
structure CellD where
 R : Int
 A : AttrD
theorem CellD.ext' {x y : CellD} (h0 : x.R = y.R) (h1 : x.A = y.A) : x = y := by cases x; cases y; simp_all
theorem CellD.iff' {x y : CellD} : x = y ↔ x.R = y.R ∧ x.A = y.A := ⟨fun h => by subst h; simp, fun h => by cases x; cases y; simp_all⟩
instance : DecidableEq CellD := fun x y => decidable_of_iff (x.R = y.R ∧ x.A = y.A) CellD.iff'.symm
structure GridD where
 W : Int
 H : Int
 Cells : List CellD
theorem GridD.ext' {x y : GridD} (h0 : x.W = y.W) (h1 : x.H = y.H) (h2 : x.Cells = y.Cells) : x = y := by cases x; cases y; simp_all
theorem GridD.iff' {x y : GridD} : x = y ↔ x.W = y.W ∧ x.H = y.H ∧ x.Cells = y.Cells := ⟨fun h => by subst h; simp, fun h => by cases x; cases y; simp_all⟩
instance : DecidableEq GridD := fun x y => decidable_of_iff (x.W = y.W ∧ x.H = y.H ∧ x.Cells = y.Cells) GridD.iff'.symm
structure VpD where
 State : Int
 Mark : Bool
 Args : List Int
 Part : List UInt8
theorem VpD.ext' {x y : VpD} (h0 : x.State = y.State) (h1 : x.Mark = y.Mark) (h2 : x.Args = y.Args) (h3 : x.Part = y.Part) : x = y := by cases x; cases y; simp_all
theorem VpD.iff' {x y : VpD} : x = y ↔ x.State = y.State ∧ x.Mark = y.Mark ∧ x.Args = y.Args ∧ x.Part = y.Part := ⟨fun h => by subst h; simp, fun h => by cases x; cases y; simp_all⟩
instance : DecidableEq VpD := fun x y => decidable_of_iff (x.State = y.State ∧ x.Mark = y.Mark ∧ x.Args = y.Args ∧ x.Part = y.Part) VpD.iff'.symm
structure ActD where
 Kind : Int
 R : Int
 Mark : Bool
 Args : List Int
theorem ActD.ext' {x y : ActD} (h0 : x.Kind = y.Kind) (h1 : x.R = y.R) (h2 : x.Mark = y.Mark) (h3 : x.Args = y.Args) : x = y := by cases x; cases y; simp_all
theorem ActD.iff' {x y : ActD} : x = y ↔ x.Kind = y.Kind ∧ x.R = y.R ∧ x.Mark = y.Mark ∧ x.Args = y.Args := ⟨fun h => by subst h; simp, fun h => by cases x; cases y; simp_all⟩
instance : DecidableEq ActD := fun x y => decidable_of_iff (x.Kind = y.Kind ∧ x.R = y.R ∧ x.Mark = y.Mark ∧ x.Args = y.Args) ActD.iff'.symm
structure RowD where
 Cells : List CellD
theorem RowD.ext' {x y : RowD} (h0 : x.Cells = y.Cells) : x = y := by cases x; cases y; simp_all
theorem RowD.iff' {x y : RowD} : x = y ↔ x.Cells = y.Cells := ⟨fun h => by subst h; simp, fun h => by cases x; cases y; simp_all⟩
instance : DecidableEq RowD := fun x y => decidable_of_iff (x.Cells = y.Cells) RowD.iff'.symm
structure ScrD where
 W : Int
 H : Int
 Main : GridD
 Alt : GridD
 OnAlt : Bool
 X : Int
 Y : Int
 Wrap : Bool
 A : AttrD
 Top : Int
 Bot : Int
 NoWrap : Bool
 Hide : Bool
 SaveX : Int
 SaveY : Int
 SaveA : AttrD
 Tabs : List Int
 Limit : Int
 Back : List RowD
theorem ScrD.ext' {x y : ScrD} (h0 : x.W = y.W) (h1 : x.H = y.H) (h2 : x.Main = y.Main) (h3 : x.Alt = y.Alt) (h4 : x.OnAlt = y.OnAlt) (h5 : x.X = y.X) (h6 : x.Y = y.Y) (h7 : x.Wrap = y.Wrap) (h8 : x.A = y.A) (h9 : x.Top = y.Top) (h10 : x.Bot = y.Bot) (h11 : x.NoWrap = y.NoWrap) (h12 : x.Hide = y.Hide) (h13 : x.SaveX = y.SaveX) (h14 : x.SaveY = y.SaveY) (h15 : x.SaveA = y.SaveA) (h16 : x.Tabs = y.Tabs) (h17 : x.Limit = y.Limit) (h18 : x.Back = y.Back) : x = y := by cases x; cases y; simp_all
theorem ScrD.iff' {x y : ScrD} : x = y ↔ x.W = y.W ∧ x.H = y.H ∧ x.Main = y.Main ∧ x.Alt = y.Alt ∧ x.OnAlt = y.OnAlt ∧ x.X = y.X ∧ x.Y = y.Y ∧ x.Wrap = y.Wrap ∧ x.A = y.A ∧ x.Top = y.Top ∧ x.Bot = y.Bot ∧ x.NoWrap = y.NoWrap ∧ x.Hide = y.Hide ∧ x.SaveX = y.SaveX ∧ x.SaveY = y.SaveY ∧ x.SaveA = y.SaveA ∧ x.Tabs = y.Tabs ∧ x.Limit = y.Limit ∧ x.Back = y.Back := ⟨fun h => by subst h; simp, fun h => by cases x; cases y; simp_all⟩
instance : DecidableEq ScrD := fun x y => decidable_of_iff (x.W = y.W ∧ x.H = y.H ∧ x.Main = y.Main ∧ x.Alt = y.Alt ∧ x.OnAlt = y.OnAlt ∧ x.X = y.X ∧ x.Y = y.Y ∧ x.Wrap = y.Wrap ∧ x.A = y.A ∧ x.Top = y.Top ∧ x.Bot = y.Bot ∧ x.NoWrap = y.NoWrap ∧ x.Hide = y.Hide ∧ x.SaveX = y.SaveX ∧ x.SaveY = y.SaveY ∧ x.SaveA = y.SaveA ∧ x.Tabs = y.Tabs ∧ x.Limit = y.Limit ∧ x.Back = y.Back) ScrD.iff'.symm
structure TermD where
 P : VpD
 S : ScrD
theorem TermD.ext' {x y : TermD} (h0 : x.P = y.P) (h1 : x.S = y.S) : x = y := by cases x; cases y; simp_all
theorem TermD.iff' {x y : TermD} : x = y ↔ x.P = y.P ∧ x.S = y.S := ⟨fun h => by subst h; simp, fun h => by cases x; cases y; simp_all⟩
instance : DecidableEq TermD := fun x y => decidable_of_iff (x.P = y.P ∧ x.S = y.S) TermD.iff'.symm
structure NodeD where
 Pane : Int
 Down : Bool
 First : Int
theorem NodeD.ext' {x y : NodeD} (h0 : x.Pane = y.Pane) (h1 : x.Down = y.Down) (h2 : x.First = y.First) : x = y := by cases x; cases y; simp_all
theorem NodeD.iff' {x y : NodeD} : x = y ↔ x.Pane = y.Pane ∧ x.Down = y.Down ∧ x.First = y.First := ⟨fun h => by subst h; simp, fun h => by cases x; cases y; simp_all⟩
instance : DecidableEq NodeD := fun x y => decidable_of_iff (x.Pane = y.Pane ∧ x.Down = y.Down ∧ x.First = y.First) NodeD.iff'.symm
structure PaneD where
 Id : Int
 Cmd : ByteArray
 Dir : ByteArray
 Life : Int
 Code : Int
 Pid : Int
 Term : TermD
theorem PaneD.ext' {x y : PaneD} (h0 : x.Id = y.Id) (h1 : x.Cmd = y.Cmd) (h2 : x.Dir = y.Dir) (h3 : x.Life = y.Life) (h4 : x.Code = y.Code) (h5 : x.Pid = y.Pid) (h6 : x.Term = y.Term) : x = y := by cases x; cases y; simp_all
theorem PaneD.iff' {x y : PaneD} : x = y ↔ x.Id = y.Id ∧ x.Cmd = y.Cmd ∧ x.Dir = y.Dir ∧ x.Life = y.Life ∧ x.Code = y.Code ∧ x.Pid = y.Pid ∧ x.Term = y.Term := ⟨fun h => by subst h; simp, fun h => by cases x; cases y; simp_all⟩
instance : DecidableEq PaneD := fun x y => decidable_of_iff (x.Id = y.Id ∧ x.Cmd = y.Cmd ∧ x.Dir = y.Dir ∧ x.Life = y.Life ∧ x.Code = y.Code ∧ x.Pid = y.Pid ∧ x.Term = y.Term) PaneD.iff'.symm
structure WinD where
 Id : Int
 Name : ByteArray
 Tree : List NodeD
 Active : Int
 Zoom : Bool
theorem WinD.ext' {x y : WinD} (h0 : x.Id = y.Id) (h1 : x.Name = y.Name) (h2 : x.Tree = y.Tree) (h3 : x.Active = y.Active) (h4 : x.Zoom = y.Zoom) : x = y := by cases x; cases y; simp_all
theorem WinD.iff' {x y : WinD} : x = y ↔ x.Id = y.Id ∧ x.Name = y.Name ∧ x.Tree = y.Tree ∧ x.Active = y.Active ∧ x.Zoom = y.Zoom := ⟨fun h => by subst h; simp, fun h => by cases x; cases y; simp_all⟩
instance : DecidableEq WinD := fun x y => decidable_of_iff (x.Id = y.Id ∧ x.Name = y.Name ∧ x.Tree = y.Tree ∧ x.Active = y.Active ∧ x.Zoom = y.Zoom) WinD.iff'.symm
structure SessD where
 Name : ByteArray
 Wins : List Int
 Active : Int
theorem SessD.ext' {x y : SessD} (h0 : x.Name = y.Name) (h1 : x.Wins = y.Wins) (h2 : x.Active = y.Active) : x = y := by cases x; cases y; simp_all
theorem SessD.iff' {x y : SessD} : x = y ↔ x.Name = y.Name ∧ x.Wins = y.Wins ∧ x.Active = y.Active := ⟨fun h => by subst h; simp, fun h => by cases x; cases y; simp_all⟩
instance : DecidableEq SessD := fun x y => decidable_of_iff (x.Name = y.Name ∧ x.Wins = y.Wins ∧ x.Active = y.Active) SessD.iff'.symm
structure StateD where
 W : Int
 H : Int
 Limit : Int
 Next : Int
 Panes : List PaneD
 Wins : List WinD
 Sess : List SessD
theorem StateD.ext' {x y : StateD} (h0 : x.W = y.W) (h1 : x.H = y.H) (h2 : x.Limit = y.Limit) (h3 : x.Next = y.Next) (h4 : x.Panes = y.Panes) (h5 : x.Wins = y.Wins) (h6 : x.Sess = y.Sess) : x = y := by cases x; cases y; simp_all
theorem StateD.iff' {x y : StateD} : x = y ↔ x.W = y.W ∧ x.H = y.H ∧ x.Limit = y.Limit ∧ x.Next = y.Next ∧ x.Panes = y.Panes ∧ x.Wins = y.Wins ∧ x.Sess = y.Sess := ⟨fun h => by subst h; simp, fun h => by cases x; cases y; simp_all⟩
instance : DecidableEq StateD := fun x y => decidable_of_iff (x.W = y.W ∧ x.H = y.H ∧ x.Limit = y.Limit ∧ x.Next = y.Next ∧ x.Panes = y.Panes ∧ x.Wins = y.Wins ∧ x.Sess = y.Sess) StateD.iff'.symm
structure OpD where
 Kind : Int
 A : Int
 B : Int
 C : Int
 Name : ByteArray
 Text : ByteArray
 Dir : ByteArray
 Data : List UInt8
theorem OpD.ext' {x y : OpD} (h0 : x.Kind = y.Kind) (h1 : x.A = y.A) (h2 : x.B = y.B) (h3 : x.C = y.C) (h4 : x.Name = y.Name) (h5 : x.Text = y.Text) (h6 : x.Dir = y.Dir) (h7 : x.Data = y.Data) : x = y := by cases x; cases y; simp_all
theorem OpD.iff' {x y : OpD} : x = y ↔ x.Kind = y.Kind ∧ x.A = y.A ∧ x.B = y.B ∧ x.C = y.C ∧ x.Name = y.Name ∧ x.Text = y.Text ∧ x.Dir = y.Dir ∧ x.Data = y.Data := ⟨fun h => by subst h; simp, fun h => by cases x; cases y; simp_all⟩
instance : DecidableEq OpD := fun x y => decidable_of_iff (x.Kind = y.Kind ∧ x.A = y.A ∧ x.B = y.B ∧ x.C = y.C ∧ x.Name = y.Name ∧ x.Text = y.Text ∧ x.Dir = y.Dir ∧ x.Data = y.Data) OpD.iff'.symm
structure ViewD where
 Grid : GridD
 X : Int
 Y : Int
 Hide : Bool
theorem ViewD.ext' {x y : ViewD} (h0 : x.Grid = y.Grid) (h1 : x.X = y.X) (h2 : x.Y = y.Y) (h3 : x.Hide = y.Hide) : x = y := by cases x; cases y; simp_all
theorem ViewD.iff' {x y : ViewD} : x = y ↔ x.Grid = y.Grid ∧ x.X = y.X ∧ x.Y = y.Y ∧ x.Hide = y.Hide := ⟨fun h => by subst h; simp, fun h => by cases x; cases y; simp_all⟩
instance : DecidableEq ViewD := fun x y => decidable_of_iff (x.Grid = y.Grid ∧ x.X = y.X ∧ x.Y = y.Y ∧ x.Hide = y.Hide) ViewD.iff'.symm
structure ProcD where
 Pid : Int
 Pane : Int
theorem ProcD.ext' {x y : ProcD} (h0 : x.Pid = y.Pid) (h1 : x.Pane = y.Pane) : x = y := by cases x; cases y; simp_all
theorem ProcD.iff' {x y : ProcD} : x = y ↔ x.Pid = y.Pid ∧ x.Pane = y.Pane := ⟨fun h => by subst h; simp, fun h => by cases x; cases y; simp_all⟩
instance : DecidableEq ProcD := fun x y => decidable_of_iff (x.Pid = y.Pid ∧ x.Pane = y.Pane) ProcD.iff'.symm
structure AskD where
 Pane : Int
 Cmd : ByteArray
 Dir : ByteArray
 W : Int
 H : Int
 Pid : Int
theorem AskD.ext' {x y : AskD} (h0 : x.Pane = y.Pane) (h1 : x.Cmd = y.Cmd) (h2 : x.Dir = y.Dir) (h3 : x.W = y.W) (h4 : x.H = y.H) (h5 : x.Pid = y.Pid) : x = y := by cases x; cases y; simp_all
theorem AskD.iff' {x y : AskD} : x = y ↔ x.Pane = y.Pane ∧ x.Cmd = y.Cmd ∧ x.Dir = y.Dir ∧ x.W = y.W ∧ x.H = y.H ∧ x.Pid = y.Pid := ⟨fun h => by subst h; simp, fun h => by cases x; cases y; simp_all⟩
instance : DecidableEq AskD := fun x y => decidable_of_iff (x.Pane = y.Pane ∧ x.Cmd = y.Cmd ∧ x.Dir = y.Dir ∧ x.W = y.W ∧ x.H = y.H ∧ x.Pid = y.Pid) AskD.iff'.symm
structure TableD where
 Next : Int
 Live : List ProcD
 Asked : List AskD
theorem TableD.ext' {x y : TableD} (h0 : x.Next = y.Next) (h1 : x.Live = y.Live) (h2 : x.Asked = y.Asked) : x = y := by cases x; cases y; simp_all
theorem TableD.iff' {x y : TableD} : x = y ↔ x.Next = y.Next ∧ x.Live = y.Live ∧ x.Asked = y.Asked := ⟨fun h => by subst h; simp, fun h => by cases x; cases y; simp_all⟩
instance : DecidableEq TableD := fun x y => decidable_of_iff (x.Next = y.Next ∧ x.Live = y.Live ∧ x.Asked = y.Asked) TableD.iff'.symm
structure HistD where
 Lost : Bool
 Op : OpD
theorem HistD.ext' {x y : HistD} (h0 : x.Lost = y.Lost) (h1 : x.Op = y.Op) : x = y := by cases x; cases y; simp_all
theorem HistD.iff' {x y : HistD} : x = y ↔ x.Lost = y.Lost ∧ x.Op = y.Op := ⟨fun h => by subst h; simp, fun h => by cases x; cases y; simp_all⟩
instance : DecidableEq HistD := fun x y => decidable_of_iff (x.Lost = y.Lost ∧ x.Op = y.Op) HistD.iff'.symm
structure SrvD where
 Base : StateD
 Top : Int
 Up : Bool
 St : StateD
 Dep : DepotD
 Disk : DiskD
 Tab : TableD
 Sure : Int
 Done : List HistD
theorem SrvD.ext' {x y : SrvD} (h0 : x.Base = y.Base) (h1 : x.Top = y.Top) (h2 : x.Up = y.Up) (h3 : x.St = y.St) (h4 : x.Dep = y.Dep) (h5 : x.Disk = y.Disk) (h6 : x.Tab = y.Tab) (h7 : x.Sure = y.Sure) (h8 : x.Done = y.Done) : x = y := by cases x; cases y; simp_all
theorem SrvD.iff' {x y : SrvD} : x = y ↔ x.Base = y.Base ∧ x.Top = y.Top ∧ x.Up = y.Up ∧ x.St = y.St ∧ x.Dep = y.Dep ∧ x.Disk = y.Disk ∧ x.Tab = y.Tab ∧ x.Sure = y.Sure ∧ x.Done = y.Done := ⟨fun h => by subst h; simp, fun h => by cases x; cases y; simp_all⟩
instance : DecidableEq SrvD := fun x y => decidable_of_iff (x.Base = y.Base ∧ x.Top = y.Top ∧ x.Up = y.Up ∧ x.St = y.St ∧ x.Dep = y.Dep ∧ x.Disk = y.Disk ∧ x.Tab = y.Tab ∧ x.Sure = y.Sure ∧ x.Done = y.Done) SrvD.iff'.symm
structure StepD where
 Kind : Int
 A : Int
 B : Int
 Text : ByteArray
 Data : List UInt8
 Cuts : List Int
theorem StepD.ext' {x y : StepD} (h0 : x.Kind = y.Kind) (h1 : x.A = y.A) (h2 : x.B = y.B) (h3 : x.Text = y.Text) (h4 : x.Data = y.Data) (h5 : x.Cuts = y.Cuts) : x = y := by cases x; cases y; simp_all
theorem StepD.iff' {x y : StepD} : x = y ↔ x.Kind = y.Kind ∧ x.A = y.A ∧ x.B = y.B ∧ x.Text = y.Text ∧ x.Data = y.Data ∧ x.Cuts = y.Cuts := ⟨fun h => by subst h; simp, fun h => by cases x; cases y; simp_all⟩
instance : DecidableEq StepD := fun x y => decidable_of_iff (x.Kind = y.Kind ∧ x.A = y.A ∧ x.B = y.B ∧ x.Text = y.Text ∧ x.Data = y.Data ∧ x.Cuts = y.Cuts) StepD.iff'.symm
structure RectD where
 Pane : Int
 X : Int
 Y : Int
 W : Int
 H : Int
theorem RectD.ext' {x y : RectD} (h0 : x.Pane = y.Pane) (h1 : x.X = y.X) (h2 : x.Y = y.Y) (h3 : x.W = y.W) (h4 : x.H = y.H) : x = y := by cases x; cases y; simp_all
theorem RectD.iff' {x y : RectD} : x = y ↔ x.Pane = y.Pane ∧ x.X = y.X ∧ x.Y = y.Y ∧ x.W = y.W ∧ x.H = y.H := ⟨fun h => by subst h; simp, fun h => by cases x; cases y; simp_all⟩
instance : DecidableEq RectD := fun x y => decidable_of_iff (x.Pane = y.Pane ∧ x.X = y.X ∧ x.Y = y.Y ∧ x.W = y.W ∧ x.H = y.H) RectD.iff'.symm
structure VpR where
  State : Int
  Mark : Bool
  Args : SlD Int
  Part : SlD UInt8
structure okVpR (B : Nat) (w : World) (x : VpR) : Prop where
  Args : SlF encI w x.Args.A x.Args.n x.Args.xs
  Args_c : x.Args.n ≤ x.Args.c
  Args_n : x.Args.n ≤ B
  Part : SlF encB w x.Part.A x.Part.n x.Part.xs
  Part_c : x.Part.n ≤ x.Part.c
  Part_n : x.Part.n ≤ B
structure sepVpR (T : List Nat) (x : VpR) : Prop where
  Args : 0 < x.Args.n → (adr x.Args.A).block ∉ T
  Part : 0 < x.Part.n → (adr x.Part.A).block ∉ T
theorem okVpR.st0 {B : Nat} {w0 w : World} {L : Hp} {x : VpR} (h : okVpR B w0 x) (hs : St w0 [] L w) : okVpR B w x := ⟨SlF.st0 h.Args hs, h.Args_c, h.Args_n, SlF.st0 h.Part hs, h.Part_c, h.Part_n⟩
theorem okVpR.st {B : Nat} {w0 w : World} {T : List Nat} {L : Hp} {x : VpR} (h : okVpR B w0 x) (hs : St w0 T L w) (hp : sepVpR T x) : okVpR B w x := ⟨SlF.st h.Args hs hp.Args, h.Args_c, h.Args_n, SlF.st h.Part hs hp.Part, h.Part_c, h.Part_n⟩
def VpR.dat (x : VpR) : VpD := ⟨x.State, x.Mark, x.Args.xs, x.Part.xs⟩
def smVp (B : Nat) (d : VpD) : Prop := (d.Args.length ≤ B) ∧ (d.Part.length ≤ B)
theorem okVpR.to {B B' : Nat} {w : World} {x : VpR} (h : okVpR B w x) (h2 : smVp B' x.dat) : okVpR B' w x := ⟨h.Args, h.Args_c, (by have := h.Args.len; have h3 := h2.1; simp only [smVp, VpR.dat] at h3; omega), h.Part, h.Part_c, (by have := h.Part.len; have h3 := h2.2; simp only [smVp, VpR.dat] at h3; omega)⟩
def ownVpR (x : VpR) (L : Hp) : Prop := ∃ L1 L2, L = L1 ++ L2 ∧ OwnF encI 3 (.slice x.Args.A x.Args.n x.Args.c) x.Args.xs L1 ∧ OwnF encB 5 (.slice x.Part.A x.Part.n x.Part.c) x.Part.xs L2
theorem ownVpR.fold {w0 w : World} {T : List Nat} {L1 L2 R : Hp} (x : VpR) (hs : St w0 T (L1 ++ (L2 ++ R)) w) (o1 : OwnF encI 3 (.slice x.Args.A x.Args.n x.Args.c) x.Args.xs L1) (o2 : OwnF encB 5 (.slice x.Part.A x.Part.n x.Part.c) x.Part.xs L2) : ∃ L, St w0 T (L ++ R) w ∧ ownVpR x L := ⟨L1 ++ L2, by simpa only [List.append_assoc] using hs, L1, L2, rfl, o1, o2⟩
theorem ownVpR.fl {w0 w : World} {T : List Nat} {L1 L2 L S1 S2 : Hp} [k1 : Fr1 L1 L S1] [k2 : Fr1 L2 S1 S2] {A1 : Option Addr} {n1 c1 : Nat} {x1 : _} {A2 : Option Addr} {n2 c2 : Nat} {x2 : _} (hs : St w0 T L w) (o1 : OwnF encI 3 (.slice A1 n1 c1) x1 L1) (o2 : OwnF encB 5 (.slice A2 n2 c2) x2 L2) : ∃ L', St w0 T (L' ++ S2) w ∧ ownVpR ⟨0, false, ⟨A1, n1, c1, x1⟩, ⟨A2, n2, c2, x2⟩⟩ L' := ⟨L1 ++ L2, by simpa only [List.append_assoc] using hs.perm ((List.Perm.append_left L1 k2.pf).trans k1.pf), L1, L2, rfl, o1, o2⟩
theorem ownVpR.op {w0 w : World} {T : List Nat} {L LL R : Hp} {x : VpR} [k : Fr1 LL L R] (hs : St w0 T L w) (h : ownVpR x LL) : ∃ L1 L2, St w0 T (L1 ++ (L2 ++ R)) w ∧ OwnF encI 3 (.slice x.Args.A x.Args.n x.Args.c) x.Args.xs L1 ∧ OwnF encB 5 (.slice x.Part.A x.Part.n x.Part.c) x.Part.xs L2 := by
  have hs := hs.fr LL
  obtain ⟨L1, L2, rfl, h⟩ := h
  exact ⟨L1, L2, by simpa only [List.append_assoc] using hs, h⟩
theorem ownVpR.ret {w w' : World} {K : List Nat} {L1 : Hp} {e : Ending} {D : VpD} {v0 : Int} {v1 : Bool} {A1 : Option Addr} {n1 c1 : Nat} {x1 : _} {A2 : Option Addr} {n2 c2 : Nat} {x2 : _} (he : e = .returned (.agg (List.toArray [i64 v0, .bool v1, .slice A1 n1 c1, .slice A2 n2 c2]))) (hs : St w K L1 w') (ho : ownVpR ⟨0, false, ⟨A1, n1, c1, x1⟩, ⟨A2, n2, c2, x2⟩⟩ L1) (hd : (⟨v0, v1, ⟨A1, n1, c1, x1⟩, ⟨A2, n2, c2, x2⟩⟩ : VpR).dat = D) : ∃ r L1, e = .returned (.agg #[i64 r.State, .bool r.Mark, .slice r.Args.A r.Args.n r.Args.c, .slice r.Part.A r.Part.n r.Part.c]) ∧ St w K L1 w' ∧ ownVpR r L1 ∧ r.dat = D := ⟨⟨v0, v1, ⟨A1, n1, c1, x1⟩, ⟨A2, n2, c2, x2⟩⟩, L1, he, hs, ho, hd⟩
theorem ownVpR.open_ {w0 w : World} {T : List Nat} {L R : Hp} {x : VpR} (hs : St w0 T (L ++ R) w) (h : ownVpR x L) : ∃ L1 L2, St w0 T (L1 ++ (L2 ++ R)) w ∧ OwnF encI 3 (.slice x.Args.A x.Args.n x.Args.c) x.Args.xs L1 ∧ OwnF encB 5 (.slice x.Part.A x.Part.n x.Part.c) x.Part.xs L2 := by
  obtain ⟨L1, L2, rfl, h⟩ := h
  exact ⟨L1, L2, by simpa only [List.append_assoc] using hs, h⟩
theorem ownVpR.len {x : VpR} {L : Hp} (h : ownVpR x L) : x.Args.xs.length = x.Args.n ∧ x.Part.xs.length = x.Part.n := by
  obtain ⟨L1, L2, rfl, o1, o2⟩ := h
  exact ⟨(OwnF.len_ o1), (OwnF.len_ o2)⟩
theorem ownVpR.ok {B : Nat} {w : World} {x : VpR} {L : Hp} (h : ownVpR x L) (hh : ∀ p, p ∈ L → w.heap[p.1]? = some p.2) (h2 : smVp B x.dat) : okVpR B w x := by
  obtain ⟨L1, L2, rfl, o1, o2⟩ := h
  simp only [List.mem_append] at hh
  exact ⟨SlF.ofOwn o1 (fun p hp => hh p (.inl hp)), OwnF.cap o1, (by have := OwnF.len_ o1; have h3 := h2.1; simp only [VpR.dat, smVp] at h3; omega), SlF.ofOwn o2 (fun p hp => hh p (.inr (hp))), OwnF.cap o2, (by have := OwnF.len_ o2; have h3 := h2.2; simp only [VpR.dat, smVp] at h3; omega)⟩
structure ActR where
  Kind : Int
  R : Int
  Mark : Bool
  Args : SlD Int
def encActR : Enc ActR := ⟨4, fun d => [i64 d.Kind, i64 d.R, .bool d.Mark, .slice d.Args.A d.Args.n d.Args.c], ⟨0, 0, false, ⟨none, 0, 0, []⟩⟩, fun _ => rfl, fun x v h => by simp at h; rcases h with rfl | rfl | rfl | rfl <;> rfl, by decide⟩
structure okActR (B : Nat) (w : World) (x : ActR) : Prop where
  Args : SlF encI w x.Args.A x.Args.n x.Args.xs
  Args_c : x.Args.n ≤ x.Args.c
  Args_n : x.Args.n ≤ B
structure sepActR (T : List Nat) (x : ActR) : Prop where
  Args : 0 < x.Args.n → (adr x.Args.A).block ∉ T
theorem okActR.st0 {B : Nat} {w0 w : World} {L : Hp} {x : ActR} (h : okActR B w0 x) (hs : St w0 [] L w) : okActR B w x := ⟨SlF.st0 h.Args hs, h.Args_c, h.Args_n⟩
theorem okActR.st {B : Nat} {w0 w : World} {T : List Nat} {L : Hp} {x : ActR} (h : okActR B w0 x) (hs : St w0 T L w) (hp : sepActR T x) : okActR B w x := ⟨SlF.st h.Args hs hp.Args, h.Args_c, h.Args_n⟩
def ActR.dat (x : ActR) : ActD := ⟨x.Kind, x.R, x.Mark, x.Args.xs⟩
def smAct (B : Nat) (d : ActD) : Prop := (d.Args.length ≤ B)
theorem okActR.to {B B' : Nat} {w : World} {x : ActR} (h : okActR B w x) (h2 : smAct B' x.dat) : okActR B' w x := ⟨h.Args, h.Args_c, (by have := h.Args.len; have h3 := h2; simp only [smAct, ActR.dat] at h3; omega)⟩
def totAct (d : ActD) : Nat := d.Args.length
theorem totAct_sm {B : Nat} {d : ActD} (h : totAct d ≤ B) : smAct B d := by
  simp only [totAct] at h
  unfold smAct
  exact (by omega)
def ownActR (x : ActR) (L : Hp) : Prop := OwnF encI 3 (.slice x.Args.A x.Args.n x.Args.c) x.Args.xs L
theorem ownActR.len {x : ActR} {L : Hp} (h : ownActR x L) : x.Args.xs.length = x.Args.n := by
  exact (OwnF.len_ h)
theorem ownActR.ok {B : Nat} {w : World} {x : ActR} {L : Hp} (h : ownActR x L) (hh : ∀ p, p ∈ L → w.heap[p.1]? = some p.2) (h2 : smAct B x.dat) : okActR B w x := by
  exact ⟨SlF.ofOwn h (fun p hp => hh p hp), OwnF.cap h, (by have := OwnF.len_ h; have h3 := h2; simp only [ActR.dat, smAct] at h3; omega)⟩
def within (n lo hi : Int) : Bool := decide (lo ≤ n) && decide (n ≤ hi)
theorem within_iff {n lo hi : Int} : within n lo hi = true ↔ lo ≤ n ∧ n ≤ hi := by simp [within]
theorem within_not {n lo hi : Int} : within n lo hi = false ↔ ¬ (lo ≤ n ∧ n ≤ hi) := by rw [← within_iff]; simp
def shows (n : Int) : Bool := within n 32 126 || within n 160 65535 && !within n 55296 57343
def isNumB (n : Int) : Bool := decide (0 ≤ n) && decide (n ≤ 4294967295)
def szR (left total : Int) : Int := if total ≤ left then left - total else -1
theorem szR_b {a n : Int} (h : ¬ szR a n < 0) (hn : 0 ≤ n) (ha : a ≤ 1048576) : szR a n ≤ 1048576 := by unfold szR at *; split at * <;> omega
theorem szR_ok {a n : Int} (h : ¬ szR a n < 0) (hn : 0 ≤ n) : szR a n = a - n ∧ n ≤ a := by unfold szR at *; split at * <;> omega
theorem szR_no {a n : Int} (h : szR a n < 0) : a < n := by unfold szR at *; split at * <;> omega
theorem szR_lt {a n : Int} (h : a < n) : szR a n = -1 := by unfold szR; rw [if_neg (by omega)]
theorem szR_le {a n : Int} (h : n ≤ a) : szR a n = a - n := by unfold szR; rw [if_pos h]
def findI {α : Type} (p : α → Bool) (xs : List α) : Int := match xs.findIdx? p with | some i => (i : Int) | none => -1
theorem findI_some {α : Type} {F : Enc α} {p : α → Bool} {xs : List α} {i : Nat} (hi : i < xs.length) (h : ∀ j, j < i → p (gat F xs j) = false) (hp : p (gat F xs i) = true) : findI p xs = i := by
 have e : ∀ j (hj : j < xs.length), gat F xs j = xs[j] := fun j hj => by
  have := gat_get (F := F) hj
  rw [List.getElem?_eq_getElem hj] at this
  exact (Option.some.inj this).symm
 have : xs.findIdx? p = some i := by
  rw [List.findIdx?_eq_some_iff_getElem]
  refine ⟨hi, by rw [← e i hi]; exact hp, fun j hj => ?_⟩
  rw [← e j (by omega), h j hj]
  simp
 simp [findI, this]
theorem findI_none {α : Type} {F : Enc α} {p : α → Bool} {xs : List α} (h : ∀ j, j < xs.length → p (gat F xs j) = false) : findI p xs = -1 := by
 have : xs.findIdx? p = none := by
  rw [List.findIdx?_eq_none_iff]
  intro x hx
  obtain ⟨i, hi, rfl⟩ := List.mem_iff_getElem.1 hx
  have e := gat_get (F := F) hi
  rw [List.getElem?_eq_getElem hi] at e
  rw [Option.some.inj e]
  exact h i hi
 simp [findI, this]
theorem findI_cases {α : Type} {p : α → Bool} {xs : List α} : (findI p xs = -1 ∧ ∀ x, x ∈ xs → p x = false) ∨ ∃ i, ∃ h : i < xs.length, findI p xs = (i : Int) ∧ p xs[i] = true ∧ ∀ j, (hj : j < i) → p (xs[j]'(by omega)) = false := by
 cases e : xs.findIdx? p with
 | none => exact Or.inl ⟨by simp [findI, e], List.findIdx?_eq_none_iff.1 e⟩
 | some i =>
  obtain ⟨h1, h2, h3⟩ := List.findIdx?_eq_some_iff_getElem.1 e
  exact Or.inr ⟨i, h1, by simp [findI, e], h2, fun j hj => by simpa using h3 j hj⟩
theorem gat_ext {α : Type} {F : Enc α} {a b : List α} (hl : a.length = b.length) (h : ∀ j, j < a.length → gat F a j = gat F b j) : a = b := by
 apply List.ext_getElem hl
 intro i h1 h2
 have e1 := gat_get (F := F) h1
 have e2 := gat_get (F := F) h2
 rw [List.getElem?_eq_getElem h1] at e1
 rw [List.getElem?_eq_getElem h2] at e2
 rw [Option.some.inj e1, Option.some.inj e2]
 exact h i h1
theorem u8_inj {a b : UInt8} (h : (a.toNat : Int) = (b.toNat : Int)) : a = b := UInt8.toNat_inj.1 (by omega)
def runeB (r : Int) : List UInt8 :=
 if shows r = false then [] else if r < 128 then [ub r] else if r < 2048 then [ub (192 + r / 64), ub (128 + r % 64)] else [ub (224 + r / 4096), ub (128 + r / 64 % 64), ub (128 + r % 64)]
theorem shows_iff {r : Int} : shows r = true ↔ (32 ≤ r ∧ r ≤ 126) ∨ (160 ≤ r ∧ r ≤ 65535 ∧ ¬ (55296 ≤ r ∧ r ≤ 57343)) := by
 simp [shows, within]; omega
theorem runeB_len (r : Int) : (runeB r).length ≤ 3 := by unfold runeB; (repeat' split) <;> simp
def tlOk (l : List UInt8) : Bool := l.all fun x => decide (x.toNat / 64 = 2)
def tlN (l : List UInt8) : Nat := l.foldl (fun n x => 64 * n + x.toNat % 64) 0
theorem tlN_take {l : List UInt8} {i : Nat} (h : i < l.length) : tlN (l.take (i + 1)) = 64 * tlN (l.take i) + (gat encB l i).toNat % 64 := by
 unfold tlN
 rw [List.take_add_one, gat_get (F := encB) h, List.foldl_append]
 rfl
theorem tlOk_take {l : List UInt8} {i : Nat} (h : i < l.length) : tlOk (l.take (i + 1)) = (tlOk (l.take i) && decide ((gat encB l i).toNat / 64 = 2)) := by
 unfold tlOk
 rw [List.take_add_one, gat_get (F := encB) h, List.all_append]
 simp
theorem tlOk_bad {l : List UInt8} {i : Nat} (h : i < l.length) (hx : (gat encB l i).toNat / 64 ≠ 2) : tlOk l = false := by
 rw [← Bool.not_eq_true]
 intro hh
 unfold tlOk at hh
 rw [List.all_eq_true] at hh
 have := hh _ (gat_mem (F := encB) h)
 simp at this
 exact hx this
def tlV (l : List UInt8) : Nat := if tlOk l = true then tlN l else 0
theorem tlN_one (x : UInt8) : tlN [x] = x.toNat % 64 := by simp [tlN]
theorem tlN_two (x y : UInt8) : tlN [x, y] = 64 * (x.toNat % 64) + y.toNat % 64 := by simp [tlN]
def rcls (a : UInt8) : Nat := if 192 ≤ a.toNat ∧ a.toNat ≤ 223 then 2 else if 224 ≤ a.toNat ∧ a.toNat ≤ 239 then 3 else 1
def cand : List UInt8 → Nat → Int
 | a :: _, 1 => a.toNat
 | a :: b :: _, 2 => ((a.toNat : Int) - 192) * 64 + b.toNat - 128
 | a :: b :: c :: _, 3 => (((a.toNat : Int) - 224) * 64 + b.toNat - 128) * 64 + c.toNat - 128
 | _, _ => 0
def rtry (l : List UInt8) (s : Nat) : Bool := decide (s ≤ l.length) && decide (runeB (cand l s) = l.take s)
def runeL (l : List UInt8) : Option (Int × Nat) :=
 if rtry l 1 = true then some (cand l 1, 1) else if rtry l 2 = true then some (cand l 2, 2) else if rtry l 3 = true then some (cand l 3, 3) else none
def rvN : Option (Int × Nat) → Int
 | none => 0
 | some x => x.1
def rvS : Option (Int × Nat) → Nat
 | none => 0
 | some x => x.2
theorem ub_eq {n : Int} {a : UInt8} (h0 : 0 ≤ n) (h1 : n < 256) : ub n = a ↔ n = a.toNat := by
 constructor
 ·rintro rfl
  rw [ub_toNat]; omega
 ·intro h
  apply u8_inj
  rw [ub_toNat]; omega
theorem rtry1 {a : UInt8} {l : List UInt8} : rtry (a :: l) 1 = true ↔ 32 ≤ a.toNat ∧ a.toNat ≤ 126 := by
 have ha := a.toNat_lt
 simp only [rtry, cand, List.length_cons, Bool.and_eq_true, decide_eq_true_eq, List.take_succ_cons, List.take_zero]
 unfold runeB
 cases hs : shows (a.toNat : Int) with
 | false =>
  have : ¬ shows (a.toNat : Int) = true := by rw [hs]; decide
  rw [shows_iff] at this
  simp; omega
 | true =>
  have := shows_iff.1 hs
  have e : ub (a.toNat : Int) = a := (ub_eq (by omega) (by omega)).2 rfl
  rw [if_neg (by decide)]
  split
  ·rw [e]; simp; omega
  ·split <;> simp <;> omega
theorem rtry2 {a b : UInt8} {l : List UInt8} : rtry (a :: b :: l) 2 = true ↔ 194 ≤ a.toNat ∧ a.toNat ≤ 223 ∧ b.toNat / 64 = 2 ∧ 160 ≤ ((a.toNat : Int) - 192) * 64 + b.toNat % 64 := by
 have ha := a.toNat_lt
 have hb := b.toNat_lt
 simp only [rtry, cand, List.length_cons, Bool.and_eq_true, decide_eq_true_eq, List.take_succ_cons, List.take_zero]
 generalize hr : ((a.toNat : Int) - 192) * 64 + b.toNat - 128 = r
 unfold runeB
 cases hs : shows r with
 | false =>
  have : ¬ shows r = true := by rw [hs]; decide
  rw [shows_iff] at this
  simp; omega
 | true =>
  have := shows_iff.1 hs
  rw [if_neg (by decide)]
  split
  ·simp; omega
  ·split
   ·simp only [List.cons.injEq, and_true]
    rw [ub_eq (by omega) (by omega), ub_eq (by omega) (by omega)]
    omega
   ·simp; omega
theorem rtry3 {a b c : UInt8} {l : List UInt8} : rtry (a :: b :: c :: l) 3 = true ↔ (224 ≤ a.toNat ∧ a.toNat ≤ 239) ∧ b.toNat / 64 = 2 ∧ c.toNat / 64 = 2 ∧ 2048 ≤ ((a.toNat : Int) - 224) * 4096 + (b.toNat % 64) * 64 + c.toNat % 64 ∧ shows (((a.toNat : Int) - 224) * 4096 + (b.toNat % 64) * 64 + c.toNat % 64) = true := by
 have ha := a.toNat_lt
 have hb := b.toNat_lt
 have hc := c.toNat_lt
 simp only [rtry, cand, List.length_cons, Bool.and_eq_true, decide_eq_true_eq, List.take_succ_cons, List.take_zero]
 generalize hr : (((a.toNat : Int) - 224) * 64 + b.toNat - 128) * 64 + c.toNat - 128 = r
 unfold runeB
 rw [shows_iff]
 cases hs : shows r with
 | false =>
  have : ¬ shows r = true := by rw [hs]; decide
  rw [shows_iff] at this
  simp; omega
 | true =>
  have := shows_iff.1 hs
  rw [if_neg (by decide)]
  split
  ·simp; omega
  ·split
   ·simp; omega
   ·simp only [List.cons.injEq, and_true]
    rw [ub_eq (by omega) (by omega), ub_eq (by omega) (by omega), ub_eq (by omega) (by omega)]
    omega
theorem rtry_len {l : List UInt8} {s : Nat} (h : l.length < s) : rtry l s = false := by
 unfold rtry
 rw [show decide (s ≤ l.length) = false from decide_eq_false (by omega)]
 rfl
theorem rtry_cls {a : UInt8} {l : List UInt8} {s : Nat} (hs : s = 1 ∨ s = 2 ∨ s = 3) (h : rtry (a :: l) s = true) : rcls a = s := by
 have ha := a.toNat_lt
 unfold rcls
 rcases hs with rfl | rfl | rfl
 ·have := rtry1.1 h
  rw [if_neg (by omega), if_neg (by omega)]
 ·cases l with
  | nil => rw [rtry_len (by simp)] at h; cases h
  | cons b r =>
   have := rtry2.1 h
   rw [if_pos (by omega)]
 ·match l, h with
  | [], h => rw [rtry_len (by simp)] at h; cases h
  | [b], h => rw [rtry_len (by simp)] at h; cases h
  | b :: c :: r, h =>
   have := rtry3.1 h
   rw [if_neg (by omega), if_pos (by omega)]
theorem rcls_or (a : UInt8) : rcls a = 1 ∨ rcls a = 2 ∨ rcls a = 3 := by
 unfold rcls
 split
 ·exact .inr (.inl rfl)
 ·split
  ·exact .inr (.inr rfl)
  ·exact .inl rfl
theorem runeL_cls {a : UInt8} {l : List UInt8} : runeL (a :: l) = if rtry (a :: l) (rcls a) = true then some (cand (a :: l) (rcls a), rcls a) else none := by
 unfold runeL
 by_cases h1 : rtry (a :: l) 1 = true
 ·rw [rtry_cls (.inl rfl) h1, if_pos h1, if_pos h1]
 ·rw [if_neg h1]
  by_cases h2 : rtry (a :: l) 2 = true
  ·rw [rtry_cls (.inr (.inl rfl)) h2, if_pos h2, if_pos h2]
  ·rw [if_neg h2]
   by_cases h3 : rtry (a :: l) 3 = true
   ·rw [rtry_cls (.inr (.inr rfl)) h3, if_pos h3]
   ·rw [if_neg h3]
    rcases rcls_or a with h | h | h <;> rw [h]
    ·rw [if_neg h1]
    ·rw [if_neg h2]
    ·rw [if_neg h3]
theorem runeL_nil : runeL [] = none := by
 unfold runeL
 rw [rtry_len (by simp), rtry_len (by simp), rtry_len (by simp)]
 simp
def runeBeg : List UInt8 → Bool
 | [a] => within a.toNat 194 239
 | [a, b] => decide (b.toNat / 64 = 2) && decide (224 ≤ a.toNat) && decide (2048 ≤ ((a.toNat : Int) - 224) * 4096 + (b.toNat % 64 : Nat) * 64) && shows (((a.toNat : Int) - 224) * 4096 + (b.toNat % 64 : Nat) * 64)
 | _ => false
theorem rvS_iff {a : UInt8} {l : List UInt8} {s : Nat} (hs : s = 2 ∨ s = 3) : rvS (runeL (a :: l)) = s ↔ rtry (a :: l) s = true := by
 rw [runeL_cls]
 have h1 := @rtry1 a l
 have h2 : rtry (a :: l) 2 = true → 194 ≤ a.toNat ∧ a.toNat ≤ 223 := by
  intro h
  cases l with
  | nil => rw [rtry_len (by simp)] at h; cases h
  | cons b r => have := rtry2.1 h; omega
 have h3 : rtry (a :: l) 3 = true → 224 ≤ a.toNat ∧ a.toNat ≤ 239 := by
  intro h
  match l with
  | [] => rw [rtry_len (by simp)] at h; cases h
  | [b] => rw [rtry_len (by simp)] at h; cases h
  | b :: c :: r => have := rtry3.1 h; omega
 constructor
 ·intro h
  split at h
  ·rename_i hh
   simp only [rvS] at h
   rw [← h]; exact hh
  ·simp only [rvS] at h; omega
 ·intro h
  have e : rcls a = s := by
   unfold rcls
   rcases hs with rfl | rfl
   ·have := h2 h
    rw [if_pos (by omega)]
   ·have := h3 h
    rw [if_neg (by omega), if_pos (by omega)]
  rw [e, if_pos h]
  rfl
def begHit (l : List UInt8) (x : UInt8) : Bool := decide (rvS (runeL (l ++ [x])) = l.length + 1) || (decide (l.length = 1) && decide (rvS (runeL (l ++ [x, 129])) = 3))
theorem beg_iff {l : List UInt8} (hl : l.length = 1 ∨ l.length = 2) : runeBeg l = true ↔ ∃ x : Nat, 128 ≤ x ∧ x < 192 ∧ begHit l (UInt8.ofNat x) = true := by
 have hof : ∀ x : Nat, x < 256 → (UInt8.ofNat x).toNat = x := fun x hx => by rw [UInt8.toNat_ofNat', Nat.mod_eq_of_lt hx]
 have h129 : (129 : UInt8).toNat = 129 := rfl
 match l, hl with
 | [a], _ =>
  have ha := a.toNat_lt
  have hb : ∀ x, begHit [a] x = true ↔ rtry [a, x] 2 = true ∨ rtry [a, x, 129] 3 = true := fun x => by
   simp only [begHit, List.length_singleton, List.singleton_append, Bool.or_eq_true, Bool.and_eq_true, decide_eq_true_eq, true_and]
   rw [← rvS_iff (.inl rfl), ← rvS_iff (.inr rfl)]
  simp only [runeBeg, within_iff]
  constructor
  ·intro h
   by_cases h2 : a.toNat ≤ 223
   ·refine ⟨191, by omega, by omega, (hb _).2 (.inl (rtry2.2 ?_))⟩
    rw [hof _ (by omega)]
    omega
   ·by_cases h3 : a.toNat = 237
    ·refine ⟨159, by omega, by omega, (hb _).2 (.inr (rtry3.2 ?_))⟩
     rw [hof _ (by omega), h129, shows_iff]
     omega
    ·refine ⟨191, by omega, by omega, (hb _).2 (.inr (rtry3.2 ?_))⟩
     rw [hof _ (by omega), h129, shows_iff]
     omega
  ·rintro ⟨x, h1, h2, h3⟩
   rcases (hb _).1 h3 with h4 | h4
   ·have := rtry2.1 h4; omega
   ·have := rtry3.1 h4; omega
 | [a, b], _ =>
  have ha := a.toNat_lt
  have hbt := b.toNat_lt
  have hb : ∀ x, begHit [a, b] x = true ↔ rtry [a, b, x] 3 = true := fun x => by
   simp only [begHit, List.length_cons, List.length_nil, List.cons_append, List.nil_append, Bool.or_eq_true, Bool.and_eq_true, decide_eq_true_eq]
   rw [← rvS_iff (.inr rfl)]
   simp
  simp only [runeBeg, Bool.and_eq_true, decide_eq_true_eq, shows_iff]
  constructor
  ·intro h
   refine ⟨128, by omega, by omega, (hb _).2 (rtry3.2 ?_)⟩
   rw [hof _ (by omega), shows_iff]
   omega
  ·rintro ⟨x, h1, h2, h3⟩
   have := rtry3.1 ((hb _).1 h3)
   rw [hof _ (by omega), shows_iff] at this
   omega
abbrev vp0 : VpD := ⟨0, false, [], []⟩
abbrev act0 : ActD := ⟨0, 0, false, []⟩
def areArgs (l : List Int) : Bool := decide (l.length ≤ 8) && l.all fun n => within n 0 9999
def vpOk (v : VpD) : Bool :=
 if v.State = 0 then (!v.Mark && decide (v.Args.length = 0)) && (decide (v.Part.length = 0) || runeBeg v.Part)
 else if v.State = 1 then (!v.Mark && decide (v.Args.length = 0)) && decide (v.Part.length = 0)
 else if v.State = 2 ∨ v.State = 3 then areArgs v.Args && decide (v.Part.length = 0) else false
def vpPlain (part : List UInt8) (b : Int) : VpD × ActD :=
 if b < 32 ∨ b = 127 then (vp0, ⟨2, b, false, []⟩) else if b < 127 then (vp0, ⟨1, b, false, []⟩)
 else if rvS (runeL (part ++ [ub b])) = (part ++ [ub b]).length then (vp0, ⟨1, rvN (runeL (part ++ [ub b])), false, []⟩)
 else if runeBeg (part ++ [ub b]) = true then (⟨0, false, [], part ++ [ub b]⟩, act0) else (vp0, ⟨1, 65533, false, []⟩)
def args1 (l : List Int) : List Int := if l.length = 0 then [0] else l
def vpDigit (v : VpD) (d : Int) : VpD := { v with Args := (args1 v.Args).set ((args1 v.Args).length - 1) (min 9999 (10 * iat (args1 v.Args) ((args1 v.Args).length - 1) + d)) }
def vpNext (v : VpD) : VpD := if (args1 v.Args).length + 1 > 8 then { v with State := 3, Args := (args1 v.Args ++ [0]).take 8 } else { v with Args := args1 v.Args ++ [0] }
def vpCsi (v : VpD) (b : Int) : VpD × ActD :=
 if (b = 63 ∧ v.Args.length = 0) ∧ v.Mark = false then ({ v with Mark := true }, act0)
 else if 48 ≤ b ∧ b ≤ 57 then (vpDigit v (b - 48), act0)
 else if b = 59 then (vpNext v, act0)
 else if 64 ≤ b ∧ b ≤ 126 then (vp0, ⟨4, b, v.Mark, v.Args⟩)
 else if b < 32 ∨ b = 127 then (v, ⟨2, b, false, []⟩)
 else ({ v with State := 3 }, act0)
def vpStep (v : VpD) (b : Int) : VpD × ActD :=
 if b = 27 then (⟨1, false, [], []⟩, act0) else if b = 24 ∨ b = 26 then (vp0, act0)
 else if v.State = 0 then vpPlain v.Part b
 else if v.State = 1 then (if b = 91 then (⟨2, false, [], []⟩, act0) else if 48 ≤ b ∧ b ≤ 126 then (vp0, ⟨3, b, false, []⟩) else (vp0, act0))
 else if v.State = 2 then vpCsi v b
 else if 64 ≤ b ∧ b ≤ 126 then (vp0, act0) else (v, act0)
def vpByte (v : VpD) (b : Int) : VpD × ActD := if vpOk v = true ∧ 0 ≤ b ∧ b ≤ 255 then vpStep v b else (vp0, act0)
theorem areArgs_iff {l : List Int} : areArgs l = true ↔ l.length ≤ 8 ∧ ∀ x, x ∈ l → 0 ≤ x ∧ x ≤ 9999 := by
 simp only [areArgs, Bool.and_eq_true, decide_eq_true_eq, List.all_eq_true, within_iff]
theorem args1_iff {l : List Int} (h : areArgs l = true) : areArgs (args1 l) = true ∧ 1 ≤ (args1 l).length := by
 unfold args1
 split
 ·exact ⟨by decide, by simp⟩
 ·exact ⟨h, by omega⟩
theorem vpDigit_ok {v : VpD} {d : Int} (h : areArgs v.Args = true) (hd : 0 ≤ d ∧ d ≤ 9) : areArgs (vpDigit v d).Args = true := by
 obtain ⟨h1, h2⟩ := args1_iff h
 rw [areArgs_iff] at h1 ⊢
 simp only [vpDigit, List.length_set]
 refine ⟨h1.1, fun x hx => ?_⟩
 rcases List.mem_or_eq_of_mem_set hx with hx | rfl
 ·exact h1.2 x hx
 ·have := h1.2 _ (gat_mem (F := encI) (show (args1 v.Args).length - 1 < (args1 v.Args).length by omega))
  have e : iat (args1 v.Args) ((args1 v.Args).length - 1) = gat encI (args1 v.Args) ((args1 v.Args).length - 1) := rfl
  rw [e]; omega
theorem vpNext_ok {v : VpD} (h : areArgs v.Args = true) : areArgs (vpNext v).Args = true := by
 obtain ⟨h1, h2⟩ := args1_iff h
 rw [areArgs_iff] at h1 ⊢
 unfold vpNext
 split
 ·refine ⟨by simp; omega, fun x hx => ?_⟩
  have := List.mem_of_mem_take hx
  rcases List.mem_append.1 this with hx | hx
  ·exact h1.2 x hx
  ·simp at hx; omega
 ·refine ⟨by simp; omega, fun x hx => ?_⟩
  rcases List.mem_append.1 hx with hx | hx
  ·exact h1.2 x hx
  ·simp at hx; omega
theorem vpOk_plain {p : List UInt8} (h : p = [] ∨ runeBeg p = true) : vpOk ⟨0, false, [], p⟩ = true := by
 unfold vpOk
 rw [if_pos rfl]
 rcases h with rfl | h
 ·rfl
 ·simp [h]
theorem vpOk_csi {v : VpD} (hs : v.State = 2 ∨ v.State = 3) : vpOk v = (areArgs v.Args && decide (v.Part.length = 0)) := by
 unfold vpOk
 rw [if_neg (by omega), if_neg (by omega), if_pos hs]
theorem vpPlain_ok {p : List UInt8} {b : Int} : vpOk (vpPlain p b).1 = true := by
 unfold vpPlain
 (repeat' split)
 ·rfl
 ·rfl
 ·rfl
 ·rename_i h; exact vpOk_plain (.inr h)
 ·rfl
theorem vpCsi_ok {v : VpD} {b : Int} (hs : v.State = 2) (h : vpOk v = true) : vpOk (vpCsi v b).1 = true := by
 have h2 := h
 rw [vpOk_csi (.inl hs), Bool.and_eq_true] at h2
 have key : ∀ v' : VpD, (v'.State = 2 ∨ v'.State = 3) → areArgs v'.Args = true → v'.Part = v.Part → vpOk v' = true := fun v' g1 g2 g3 => by
  rw [vpOk_csi g1, Bool.and_eq_true, g3]; exact ⟨g2, h2.2⟩
 unfold vpCsi
 (repeat' split)
 ·exact key _ (.inl hs) h2.1 rfl
 ·exact key _ (.inl hs) (vpDigit_ok h2.1 (by omega)) rfl
 ·refine key _ ?_ (vpNext_ok h2.1) ?_
  ·unfold vpNext; split <;> simp [hs]
  ·unfold vpNext; split <;> rfl
 ·rfl
 ·exact h
 ·exact key _ (.inr rfl) h2.1 rfl
theorem vpStep_ok {v : VpD} {b : Int} (h : vpOk v = true) : vpOk (vpStep v b).1 = true := by
 unfold vpStep
 (repeat' split)
 ·rfl
 ·rfl
 ·exact vpPlain_ok
 ·rfl
 ·rfl
 ·rfl
 ·rename_i hs; exact vpCsi_ok hs h
 ·rfl
 ·exact h
def vpParse : VpD → List UInt8 → VpD × List ActD
 | v, [] => (v, [])
 | v, x :: r => ((vpParse (vpStep v x.toNat).1 r).1, (if (vpStep v x.toNat).2.Kind = 0 then [] else [(vpStep v x.toNat).2]) ++ (vpParse (vpStep v x.toNat).1 r).2)
theorem vpParse_snoc : ∀ {l : List UInt8} {v : VpD} {x : UInt8}, vpParse v (l ++ [x]) = ((vpStep (vpParse v l).1 x.toNat).1, (vpParse v l).2 ++ (if (vpStep (vpParse v l).1 x.toNat).2.Kind = 0 then [] else [(vpStep (vpParse v l).1 x.toNat).2]))
 | [], v, x => by
  show (_, _ ++ []) = (_, [] ++ _)
  rw [List.append_nil, List.nil_append]; rfl
 | y :: r, v, x => by
  have h := vpParse_snoc (l := r) (v := (vpStep v y.toNat).1) (x := x)
  show ((vpParse _ (r ++ [x])).1, _ ++ (vpParse _ (r ++ [x])).2) = (_, (_ ++ _) ++ _)
  rw [h, List.append_assoc]; rfl
theorem vpParse_take {v : VpD} {l : List UInt8} {i : Nat} (h : i < l.length) : vpParse v (l.take (i + 1)) = ((vpStep (vpParse v (l.take i)).1 (gat encB l i).toNat).1, (vpParse v (l.take i)).2 ++ (if (vpStep (vpParse v (l.take i)).1 (gat encB l i).toNat).2.Kind = 0 then [] else [(vpStep (vpParse v (l.take i)).1 (gat encB l i).toNat).2])) := by
 rw [List.take_add_one, gat_get (F := encB) h]
 exact vpParse_snoc
theorem vpParse_ok : ∀ {l : List UInt8} {v : VpD}, vpOk v = true → vpOk (vpParse v l).1 = true
 | [], v, h => h
 | y :: r, v, h => vpParse_ok (l := r) (vpStep_ok h)
theorem vpOk_len {v : VpD} (h : vpOk v = true) : v.Args.length ≤ 8 ∧ v.Part.length ≤ 2 := by
 unfold vpOk at h
 split at h
 ·simp only [Bool.and_eq_true, Bool.or_eq_true, decide_eq_true_eq] at h
  refine ⟨by omega, ?_⟩
  rcases h.2 with h2 | h2
  ·omega
  ·match hp : v.Part with
   | [] => simp
   | [a] => simp
   | [a, b] => simp
   | a :: b :: c :: r => rw [hp] at h2; cases h2
 ·split at h
  ·simp only [Bool.and_eq_true, decide_eq_true_eq] at h
   omega
  ·split at h
   ·rw [Bool.and_eq_true, areArgs_iff, decide_eq_true_eq] at h
    omega
   ·cases h
def vpBytes (v : VpD) (l : List UInt8) : VpD × List ActD := if vpOk v = true then vpParse v l else (vp0, [])
theorem tlN_bnd {l : List UInt8} (h : l.length ≤ 2) : tlN l ≤ 4095 ∧ (l.length ≤ 1 → tlN l ≤ 63) ∧ (l.length = 0 → tlN l = 0) := by
 match l, h with
 | [], _ => simp [tlN]
 | [a], _ => simp only [tlN_one, List.length_cons, List.length_nil]; omega
 | [a, b], _ => simp only [tlN_two, List.length_cons, List.length_nil]; omega
theorem tlV_bnd {l : List UInt8} (h : l.length ≤ 2) : tlV l ≤ 4095 ∧ (l.length ≤ 1 → tlV l ≤ 63) ∧ (l.length = 0 → tlV l = 0) := by
 have := tlN_bnd h
 unfold tlV; split <;> omega
def rfst (a : UInt8) (c : Nat) : Int := a.toNat - (if c = 2 then 192 else if c = 3 then 224 else 0)
def rsum (a : UInt8) (tl : List UInt8) (c : Nat) : Int := rfst a c * 64 ^ (c - 1) + tlV tl
theorem rsum_cand {a : UInt8} {l : List UInt8} {c : Nat} (hc : c = 1 ∨ c = 2 ∨ c = 3) (hl : c ≤ l.length + 1) (h : tlOk (l.take (c - 1)) = true) : cand (a :: l) c = rsum a (l.take (c - 1)) c := by
 have hv : tlV (l.take (c - 1)) = tlN (l.take (c - 1)) := by unfold tlV; rw [if_pos h]
 unfold rsum
 rw [hv]
 rcases hc with rfl | rfl | rfl
 ·simp [cand, rfst, tlN]
 ·match l, hl with
  | b :: r, _ =>
   simp only [tlOk, List.take_succ_cons, List.take_zero, List.all_cons, List.all_nil, Bool.and_true, decide_eq_true_eq] at h
   simp only [cand, rfst, List.take_succ_cons, List.take_zero, tlN_one]
   rw [show (64 : Int) ^ (2 - 1) = 64 from by decide, if_pos trivial]
   omega
 ·match l, hl with
  | b :: b2 :: r, _ =>
   simp only [tlOk, List.take_succ_cons, List.take_zero, List.all_cons, List.all_nil, Bool.and_true, decide_eq_true_eq, Bool.and_eq_true] at h
   simp only [cand, rfst, List.take_succ_cons, List.take_zero, tlN_two]
   rw [show (64 : Int) ^ (3 - 1) = 4096 from by decide, if_neg (by decide), if_pos trivial]
   omega
theorem rtry_tl {a : UInt8} {l : List UInt8} {c : Nat} (hc : c = 1 ∨ c = 2 ∨ c = 3) (h : rtry (a :: l) c = true) : tlOk (l.take (c - 1)) = true := by
 have hlen : c ≤ l.length + 1 := by
  rcases Nat.lt_or_ge (l.length + 1) c with h1 | h1
  ·rw [rtry_len (by simpa using h1)] at h; cases h
  ·exact h1
 rcases hc with rfl | rfl | rfl
 ·simp [tlOk]
 ·match l, hlen with
  | b :: r, _ =>
   have := rtry2.1 h
   simp [tlOk]; omega
 ·match l, hlen with
  | b :: b2 :: r, _ =>
   have := rtry3.1 h
   simp [tlOk]; omega
theorem runeL_rsum {a : UInt8} {l : List UInt8} {c : Nat} (hc : rcls a = c) : runeL (a :: l) = if c ≤ l.length + 1 ∧ tlOk (l.take (c - 1)) = true ∧ runeB (rsum a (l.take (c - 1)) c) = (a :: l).take c then some (rsum a (l.take (c - 1)) c, c) else none := by
 subst hc
 have ho := rcls_or a
 rw [runeL_cls]
 split
 ·rename_i h
  have h1 := rtry_tl ho h
  have h2 : rcls a ≤ (a :: l).length ∧ runeB (cand (a :: l) (rcls a)) = (a :: l).take (rcls a) := by simpa [rtry] using h
  have h3 := rsum_cand (a := a) ho h2.1 h1
  rw [if_pos ⟨h2.1, h1, by rw [← h3]; exact h2.2⟩, h3]
 ·rename_i h
  rw [if_neg]
  rintro ⟨h1, h2, h3⟩
  apply h
  have h4 := rsum_cand (a := a) ho h1 h2
  unfold rtry
  rw [h4, h3]
  simp; omega
theorem or_sum {x y : Nat} (k : Nat) (h : y < 2 ^ k) : (x * 2 ^ k) ||| y = x * 2 ^ k + y := by
 rw [Nat.mul_comm x, Nat.two_pow_add_eq_or_of_lt h]
theorem or_int {f : Int} {y : Nat} (k : Nat) (hf : 0 ≤ f) (h : y < 2 ^ k) : (((f * 2 ^ k).toNat ||| y : Nat) : Int) = f * 2 ^ k + y := by
 obtain ⟨m, rfl⟩ := Int.eq_ofNat_of_zero_le hf
 have e : (((m : Int) * 2 ^ k).toNat) = m * 2 ^ k := by
  have : ((m : Int) * 2 ^ k) = ((m * 2 ^ k : Nat) : Int) := by simp
  rw [this, Int.toNat_natCast]
 rw [e, or_sum k h]
 simp
theorem rread {b : List UInt8} {c : Nat} (hb : 1 ≤ b.length) (hc : rcls (bat b 0) = c) : runeL b = if c ≤ b.length ∧ tlOk ((b.drop 1).take (c - 1)) = true ∧ runeB (rsum (bat b 0) ((b.drop 1).take (c - 1)) c) = b.take c then some (rsum (bat b 0) ((b.drop 1).take (c - 1)) c, c) else none := by
 cases b with
 | nil => simp at hb
 | cons a l => exact runeL_rsum hc
theorem rread_yes {b : List UInt8} {c : Nat} {r : Int} (hb : 1 ≤ b.length) (hc : rcls (bat b 0) = c) (h1 : c ≤ b.length) (h2 : tlOk ((b.drop 1).take (c - 1)) = true) (hr : r = rsum (bat b 0) ((b.drop 1).take (c - 1)) c) (h3 : runeB r = b.take c) : runeL b = some (r, c) := by
 rw [rread hb hc, if_pos ⟨h1, h2, hr ▸ h3⟩, hr]
theorem rread_no {b : List UInt8} {c : Nat} (hb : 1 ≤ b.length) (hc : rcls (bat b 0) = c) (h : ∀ r : Int, r = rsum (bat b 0) ((b.drop 1).take (c - 1)) c → c ≤ b.length → tlOk ((b.drop 1).take (c - 1)) = true → runeB r = b.take c → False) : runeL b = none := by
 rw [rread hb hc, if_neg]
 rintro ⟨h1, h2, h3⟩
 exact h _ rfl h1 h2 h3
theorem p6 : ((6 : Int) * (1 - 1)).toNat = 0 ∧ ((6 : Int) * (2 - 1)).toNat = 6 ∧ ((6 : Int) * (3 - 1)).toNat = 12 := ⟨rfl, rfl, rfl⟩
theorem rsum_or {a : UInt8} {t : List UInt8} {c : Nat} {x : Int} (hc : c = 1 ∧ x = a.toNat * 2 ^ 0 ∨ c = 2 ∧ 192 ≤ a.toNat ∧ x = ((a.toNat : Int) - 192) * 2 ^ 6 ∨ c = 3 ∧ 224 ≤ a.toNat ∧ x = ((a.toNat : Int) - 224) * 2 ^ 12) (hl : t.length = c - 1) : ((x.toNat ||| ((tlV t : Nat) : Int).toNat : Nat) : Int) = rsum a t c := by
 have hb := tlV_bnd (l := t) (by omega)
 rw [Int.toNat_natCast]
 rcases hc with ⟨rfl, rfl⟩ | ⟨rfl, h1, rfl⟩ | ⟨rfl, h1, rfl⟩
 ·rw [or_int 0 (by omega) (by omega)]
  simp [rsum, rfst]
 ·rw [or_int 6 (by omega) (by omega)]
  simp [rsum, rfst]
 ·rw [or_int 12 (by omega) (by omega)]
  simp [rsum, rfst]
def candI (l : List UInt8) (s : Nat) : Nat → Int
 | 0 => (bat l 0).toNat - iat [0, 0, 192, 224] s
 | i + 1 => candI l s i * 64 + (bat l (i + 1)).toNat - 128
theorem candI_cand {l : List UInt8} {s : Nat} (h1 : 1 ≤ s) (h3 : s ≤ 3) (hl : s ≤ l.length) : candI l s (s - 1) = cand l s := by
 have : s = 1 ∨ s = 2 ∨ s = 3 := by omega
 rcases this with rfl | rfl | rfl
 ·match l, hl with
  | a :: r, _ => simp [candI, cand, gat, bat, iat]
 ·match l, hl with
  | a :: b :: r, _ => simp [candI, cand, gat, bat, iat]
 ·match l, hl with
  | a :: b :: c :: r, _ => simp [candI, cand, gat, bat, iat]
theorem candI_next {l : List UInt8} {s i : Nat} (h : 1 ≤ i) : candI l s (i + 1 - 1) = candI l s (i - 1) * 64 + (gat encB l i).toNat - 128 := by
 obtain ⟨j, rfl⟩ : ∃ j, i = j + 1 := ⟨i - 1, by omega⟩
 rfl
theorem t4_bnd (s : Nat) : 0 ≤ gat encI [0, 0, 192, 224] s ∧ gat encI [0, 0, 192, 224] s ≤ 224 := by
 match s with
 | 0 => decide
 | 1 => decide
 | 2 => decide
 | 3 => decide
 | _ + 4 => simp [iat, gat]; decide
theorem candI_bnd {l : List UInt8} {s i : Nat} (h : i ≤ 2) : -2000000 ≤ candI l s i ∧ candI l s i ≤ 2000000 := by
 have hi : 0 ≤ iat [0, 0, 192, 224] s ∧ iat [0, 0, 192, 224] s ≤ 224 := t4_bnd s
 have h0 := (bat l 0).toNat_lt
 have h1 := (bat l 1).toNat_lt
 have h2 := (bat l 2).toNat_lt
 generalize hx : iat [0, 0, 192, 224] s = x at hi
 have e0 : candI l s 0 = (bat l 0).toNat - x := by rw [← hx]; rfl
 have e1 : candI l s 1 = candI l s 0 * 64 + (bat l 1).toNat - 128 := rfl
 have e2 : candI l s 2 = candI l s 1 * 64 + (bat l 2).toNat - 128 := rfl
 have : i = 0 ∨ i = 1 ∨ i = 2 := by omega
 rcases this with rfl | rfl | rfl <;> omega
theorem rtry_iff {l : List UInt8} {s : Nat} (hl : s ≤ l.length) : (decide ((runeB (cand l s)).length = s) && decide (runeB (cand l s) = l.take s)) = rtry l s := by
 unfold rtry
 rw [show decide (s ≤ l.length) = true from decide_eq_true hl, Bool.true_and]
 by_cases h : runeB (cand l s) = l.take s
 ·rw [h]; simp [hl]
 ·simp [h]
theorem runeL_at {l : List UInt8} {s : Nat} (h : rtry l s = true) (h1 : 1 ≤ s) (h3 : s ≤ 3) (hn : ∀ t, 1 ≤ t → t < s → rtry l t = false) : runeL l = some (cand l s, s) := by
 unfold runeL
 have : s = 1 ∨ s = 2 ∨ s = 3 := by omega
 rcases this with rfl | rfl | rfl
 ·rw [if_pos h]
 ·rw [if_neg (by rw [hn 1 (by omega) (by omega)]; decide), if_pos h]
 ·rw [if_neg (by rw [hn 1 (by omega) (by omega)]; decide), if_neg (by rw [hn 2 (by omega) (by omega)]; decide), if_pos h]
theorem runeL_none {l : List UInt8} (hn : ∀ t, 1 ≤ t → t ≤ 3 → rtry l t = false) : runeL l = none := by
 unfold runeL
 rw [hn 1 (by omega) (by omega), hn 2 (by omega) (by omega), hn 3 (by omega) (by omega)]
 simp
theorem ub_nat {x : Nat} : ub (x : Int) = UInt8.ofNat x := by
 apply u8_inj
 rw [ub_toNat, UInt8.toNat_ofNat']
 omega
theorem beg_no {l : List UInt8} (hl : l.length = 1 ∨ l.length = 2) (h : ∀ x : Nat, 128 ≤ x → x < 192 → begHit l (ub x) = false) : runeBeg l = false := by
 rw [← Bool.not_eq_true, beg_iff hl]
 rintro ⟨x, h1, h2, h3⟩
 have := h x h1 h2
 rw [ub_nat, h3] at this
 cases this
theorem beg_yes {l : List UInt8} (hl : l.length = 1 ∨ l.length = 2) {x : Nat} (h1 : 128 ≤ x) (h2 : x < 192) (h : begHit l (ub x) = true) : runeBeg l = true := (beg_iff hl).2 ⟨x, h1, h2, by rwa [← ub_nat]⟩
theorem beg_len {l : List UInt8} (h : ¬ (l.length = 1 ∨ l.length = 2)) : runeBeg l = false := by
 match l, h with
 | [], _ => rfl
 | [_], h => simp at h
 | [_, _], h => simp at h
 | _ :: _ :: _ :: _, _ => rfl
theorem beg_two {b : List UInt8} (hb : b.length = 2) : (tlOk (b.drop 1) && decide (224 ≤ (((gat encB b 0).toNat : Nat) : Int)) && decide (2048 ≤ ((((gat encB b 0).toNat : Nat) : Int) - 224) * 4096 + ((tlV (b.drop 1) : Nat) : Int) * 64) && shows (((((gat encB b 0).toNat : Nat) : Int) - 224) * 4096 + ((tlV (b.drop 1) : Nat) : Int) * 64)) = runeBeg b := by
 match b, hb with
 | [x, y], _ =>
  have e1 : tlOk [y] = decide (y.toNat / 64 = 2) := by simp [tlOk]
  simp only [List.drop_succ_cons, List.drop_zero, runeBeg]
  by_cases h : y.toNat / 64 = 2
  ·have e2 : tlV [y] = y.toNat % 64 := by unfold tlV; rw [e1, if_pos (by simpa using h), tlN_one]
   rw [e1, e2]
   have e3 : gat encB [x, y] 0 = x := rfl
   rw [e3, show decide ((224 : Int) ≤ ((x.toNat : Nat) : Int)) = decide (224 ≤ x.toNat) from by simp only [decide_eq_decide]; omega]
  ·rw [e1, decide_eq_false h]; simp
theorem all_find {α : Type} {p : α → Bool} {l : List α} : (!decide (0 ≤ findI (fun x => !p x) l)) = l.all p := by
 rcases findI_cases (p := fun c => !p c) (xs := l) with ⟨h1, h2⟩ | ⟨i, hi, h1, h2, _⟩
 ·rw [h1]
  have : l.all p = true := by
   rw [List.all_eq_true]
   intro x hx
   simpa using h2 x hx
  rw [this]; decide
 ·rw [h1]
  have : l.all p = false := by
   rw [← Bool.not_eq_true]
   intro h
   rw [List.all_eq_true] at h
   have h3 := h _ (List.getElem_mem hi)
   rw [h3] at h2; cases h2
  rw [this]; simp
def vpBad (v : VpD) : Bool := ((decide (v.State < 0) || decide (3 < v.State)) || decide (8 < (v.Args.length : Int))) || (!(decide (v.State = 2) || decide (v.State = 3)) && (v.Mark || decide (0 < (v.Args.length : Int))))
theorem vpOk_bad {v : VpD} (h : vpBad v = true) : vpOk v = false := by
 rw [← Bool.not_eq_true]
 intro h2
 unfold vpOk at h2
 unfold vpBad at h
 simp only [Bool.or_eq_true, Bool.and_eq_true, decide_eq_true_eq, Bool.not_eq_true', Bool.or_eq_false_iff, decide_eq_false_iff_not] at h
 split at h2
 ·simp only [Bool.and_eq_true, Bool.not_eq_true', decide_eq_true_eq] at h2
  rcases h with ((h | h) | h) | ⟨_, h | h⟩
  ·omega
  ·omega
  ·omega
  ·rw [h2.1.1] at h; cases h
  ·omega
 ·split at h2
  ·simp only [Bool.and_eq_true, Bool.not_eq_true', decide_eq_true_eq] at h2
   rcases h with ((h | h) | h) | ⟨_, h | h⟩
   ·omega
   ·omega
   ·omega
   ·rw [h2.1.1] at h; cases h
   ·omega
  ·split at h2
   ·rw [Bool.and_eq_true, areArgs_iff] at h2
    rcases h with ((h | h) | h) | ⟨h, _⟩
    ·omega
    ·omega
    ·omega
    ·omega
   ·cases h2
theorem vpOk_arg {v : VpD} {j : Nat} (hj : j < v.Args.length) (h : within (gat encI v.Args j) 0 9999 = false) : vpOk v = false := by
 rw [← Bool.not_eq_true]
 intro h2
 unfold vpOk at h2
 split at h2
 ·simp only [Bool.and_eq_true, Bool.not_eq_true', decide_eq_true_eq] at h2; omega
 ·split at h2
  ·simp only [Bool.and_eq_true, Bool.not_eq_true', decide_eq_true_eq] at h2; omega
  ·split at h2
   ·rw [Bool.and_eq_true, areArgs_iff] at h2
    have h3 := h2.1.2 _ (gat_mem (F := encI) hj)
    rw [← within_iff, h] at h3; cases h3
   ·cases h2
theorem vpOk_end {v : VpD} (hb : vpBad v = false) (h : ∀ j, j < v.Args.length → within (gat encI v.Args j) 0 9999 = true) : vpOk v = (decide (v.Part.length = 0) || (decide (v.State = 0) && runeBeg v.Part)) := by
 unfold vpBad at hb
 simp only [Bool.or_eq_false_iff, Bool.and_eq_false_iff, decide_eq_false_iff_not, Bool.not_eq_false', Bool.or_eq_true, decide_eq_true_eq] at hb
 have ha : areArgs v.Args = true := by
  rw [areArgs_iff]
  refine ⟨by omega, fun x hx => ?_⟩
  obtain ⟨j, hj, rfl⟩ := List.mem_iff_getElem.1 hx
  have := h j hj
  rw [within_iff] at this
  have e := gat_get (F := encI) hj
  rw [List.getElem?_eq_getElem hj] at e
  rw [Option.some.inj e]; exact this
 by_cases h2 : v.State = 2 ∨ v.State = 3
 ·rw [vpOk_csi h2, ha, decide_eq_false (show ¬ v.State = 0 by omega)]; simp
 ·have h3 : v.Mark = false ∧ ¬ 0 < (v.Args.length : Int) := by
   rcases hb.2 with h4 | h4
   ·exact absurd h4 h2
   ·exact h4
  unfold vpOk
  have h0 : v.Args.length = 0 := by omega
  by_cases h5 : v.State = 0
  ·rw [if_pos h5, h3.1, decide_eq_true h0, decide_eq_true h5]; simp
  ·rw [if_neg h5, if_pos (by omega), h3.1, decide_eq_true h0, decide_eq_false h5]; simp
theorem areArgs_gat {l : List Int} {k : Nat} (h : areArgs l = true) (hk : k < l.length) : 0 ≤ gat encI l k ∧ gat encI l k ≤ 9999 := (areArgs_iff.1 h).2 _ (gat_mem (F := encI) hk)
theorem vpDigit_A {v : VpD} {d : Int} (h : v.Args.length = 0) : vpDigit v d = ⟨v.State, v.Mark, ([0] : List Int).set 0 (min 9999 (10 * gat encI [0] 0 + d)), v.Part⟩ := by unfold vpDigit args1; rw [if_pos h]; rfl
theorem vpDigit_B {v : VpD} {d : Int} (h : ¬ v.Args.length = 0) : vpDigit v d = ⟨v.State, v.Mark, v.Args.set (v.Args.length - 1) (min 9999 (10 * gat encI v.Args (v.Args.length - 1) + d)), v.Part⟩ := by unfold vpDigit args1; rw [if_neg h]
theorem vpNext_A {v : VpD} (h : v.Args.length = 0) : vpNext v = ⟨v.State, v.Mark, [0, 0], v.Part⟩ := by
 have e : args1 v.Args = [0] := if_pos h
 unfold vpNext; rw [e, if_neg (by decide)]; rfl
theorem vpNext_B {v : VpD} (h : ¬ v.Args.length = 0) (h8 : v.Args.length + 1 ≤ 8) : vpNext v = ⟨v.State, v.Mark, v.Args ++ [0], v.Part⟩ := by
 have e : args1 v.Args = v.Args := if_neg h
 unfold vpNext; rw [e, if_neg (by omega)]
theorem vpNext_C {v : VpD} (h8 : 8 < v.Args.length + 1) : vpNext v = ⟨3, v.Mark, (v.Args ++ [0]).take 8, v.Part⟩ := by
 have e : args1 v.Args = v.Args := if_neg (by omega)
 unfold vpNext; rw [e, if_pos (by omega)]
theorem vpNext_D {v : VpD} (h8 : v.Args.length = 8) : vpNext v = ⟨3, v.Mark, v.Args, v.Part⟩ := by
 rw [vpNext_C (by omega), List.take_append_of_le_length (by omega), List.take_of_length_le (by omega)]
theorem vpStep_act {v : VpD} {b : Int} (h : vpOk v = true) : (vpStep v b).2.Args.length ≤ 8 := by
 have hl := vpOk_len h
 unfold vpStep
 (repeat' split)
 ·simp
 ·simp
 ·unfold vpPlain; (repeat' split) <;> simp
 ·simp
 ·simp
 ·simp
 ·unfold vpCsi; (repeat' split) <;> simp <;> omega
 ·simp
 ·simp
theorem vpParse_act : ∀ {l : List UInt8} {v : VpD}, vpOk v = true → ∀ y, y ∈ (vpParse v l).2 → y.Args.length ≤ 8
 | [], v, h, y, hy => by cases hy
 | x :: r, v, h, y, hy => by
  simp only [vpParse, List.mem_append] at hy
  rcases hy with hy | hy
  ·split at hy
   ·cases hy
   ·rw [List.mem_singleton] at hy
    subst hy
    exact vpStep_act h
  ·exact vpParse_act (l := r) (vpStep_ok h) y hy
theorem vpCsi_args {v : VpD} {b : Int} (h : areArgs v.Args = true) : areArgs (vpCsi v b).2.Args = true := by
 unfold vpCsi
 (repeat' split)
 all_goals first | rfl | exact h
theorem vpPlain_args {p : List UInt8} {b : Int} : areArgs (vpPlain p b).2.Args = true := by
 unfold vpPlain
 (repeat' split)
 all_goals rfl
theorem vpStep_args {v : VpD} {b : Int} (h : vpOk v = true) : areArgs (vpStep v b).2.Args = true := by
 unfold vpStep
 (repeat' split)
 all_goals first
  | rfl
  | exact vpPlain_args
  | (rename_i hs _; rw [vpOk_csi (.inl hs), Bool.and_eq_true] at h; exact vpCsi_args h.1)
  | (rename_i hs; rw [vpOk_csi (.inl hs), Bool.and_eq_true] at h; exact vpCsi_args h.1)
theorem vpParse_args : ∀ {l : List UInt8} {v : VpD}, vpOk v = true → ∀ a, a ∈ (vpParse v l).2 → areArgs a.Args = true
 | [], v, _, a, ha => by cases ha
 | y :: r, v, h, a, ha => by
  simp only [vpParse, List.mem_append] at ha
  rcases ha with ha | ha
  ·split at ha
   ·cases ha
   ·rw [List.mem_singleton] at ha; rw [ha]; exact vpStep_args h
  ·exact vpParse_args (vpStep_ok h) a ha
theorem ub_self {a : UInt8} : ub (a.toNat : Int) = a := by apply u8_inj; rw [ub_toNat]; have := UInt8.toNat_lt a; omega
theorem rtry_hi {a : UInt8} {l : List UInt8} (h : 127 ≤ a.toNat) : rtry (a :: l) 1 = false := by
 rw [← Bool.not_eq_true, rtry1]; omega
theorem vpPlain_beg {p : List UInt8} {b : UInt8} (hb : 128 ≤ b.toNat) (hr : ¬ rvS (runeL (p ++ [b])) = (p ++ [b]).length) (hg : runeBeg (p ++ [b]) = true) : vpPlain p b.toNat = (⟨0, false, [], p ++ [b]⟩, act0) := by
 unfold vpPlain
 rw [ub_self, if_neg (by omega), if_neg (by omega), if_neg hr, if_pos hg]
theorem vpPlain_end {p : List UInt8} {b : UInt8} {q : Int} (hb : 128 ≤ b.toNat) (hr : runeL (p ++ [b]) = some (q, (p ++ [b]).length)) : vpPlain p b.toNat = (vp0, ⟨1, q, false, []⟩) := by
 unfold vpPlain
 rw [ub_self, if_neg (by omega), if_neg (by omega), hr]
 exact if_pos rfl
theorem vpStep_plain {p : List UInt8} {b : UInt8} (hb : 32 ≤ b.toNat) : vpStep ⟨0, false, [], p⟩ b.toNat = vpPlain p b.toNat := by
 unfold vpStep
 rw [if_neg (by omega), if_neg (by omega), if_pos rfl]
theorem runeL_one {a : UInt8} (h : 127 ≤ a.toNat) : ¬ rvS (runeL [a]) = 1 := by
 rw [runeL_none]
 ·exact fun h => by cases h
 ·intro t h1 h3
  rcases (by omega : t = 1 ∨ t = 2 ∨ t = 3) with rfl | rfl | rfl
  ·exact rtry_hi h
  ·exact rtry_len (by simp)
  ·exact rtry_len (by simp)
theorem vpParse_rune {q : Int} (h : shows q = true) : vpParse vp0 (runeB q) = (vp0, [⟨1, q, false, []⟩]) := by
 have hs := shows_iff.1 h
 unfold runeB
 rw [if_neg (by rw [h]; decide)]
 by_cases h1 : q < 128
 ·rw [if_pos h1]
  have e : ((ub q).toNat : Int) = q := by rw [ub_toNat]; omega
  have s1 : vpStep vp0 (ub q).toNat = (vp0, ⟨1, q, false, []⟩) := by
   rw [vpStep_plain (by omega), e]
   unfold vpPlain
   rw [if_neg (by omega), if_pos (by omega)]
  show ((vpParse (vpStep vp0 (ub q).toNat).1 []).1, (if (vpStep vp0 (ub q).toNat).2.Kind = 0 then [] else [(vpStep vp0 (ub q).toNat).2]) ++ (vpParse (vpStep vp0 (ub q).toNat).1 []).2) = _
  rw [s1]; rfl
 ·rw [if_neg h1]
  by_cases h2 : q < 2048
  ·rw [if_pos h2]
   have ea : ((ub (192 + q / 64)).toNat : Int) = 192 + q / 64 := by rw [ub_toNat]; omega
   have eb : ((ub (128 + q % 64)).toNat : Int) = 128 + q % 64 := by rw [ub_toNat]; omega
   have hq : runeB q = [ub (192 + q / 64), ub (128 + q % 64)] := by unfold runeB; rw [if_neg (by rw [h]; decide), if_neg h1, if_pos h2]
   generalize ub (192 + q / 64) = a at *
   generalize ub (128 + q % 64) = b at *
   have s1 : vpStep vp0 a.toNat = (⟨0, false, [], [a]⟩, act0) := by
    rw [vpStep_plain (by omega)]
    exact vpPlain_beg (p := []) (by omega) (runeL_one (by omega)) (within_iff.2 (by omega))
   have hc : cand [a, b] 2 = q := by show ((a.toNat : Int) - 192) * 64 + b.toNat - 128 = q; omega
   have hr : runeL [a, b] = some (q, 2) := by
    have := runeL_at (l := [a, b]) (s := 2) (by unfold rtry; rw [hc, hq]; simp) (by omega) (by omega) (fun t h1 h2 => by rw [show t = 1 by omega]; exact rtry_hi (by omega))
    rw [this, hc]
   have s2 : vpStep ⟨0, false, [], [a]⟩ b.toNat = (vp0, ⟨1, q, false, []⟩) := by
    rw [vpStep_plain (by omega)]
    exact vpPlain_end (p := [a]) (by omega) hr
   simp only [vpParse, s1, s2]
   rfl
  ·rw [if_neg h2]
   have ea : ((ub (224 + q / 4096)).toNat : Int) = 224 + q / 4096 := by rw [ub_toNat]; omega
   have eb : ((ub (128 + q / 64 % 64)).toNat : Int) = 128 + q / 64 % 64 := by rw [ub_toNat]; omega
   have ec : ((ub (128 + q % 64)).toNat : Int) = 128 + q % 64 := by rw [ub_toNat]; omega
   have hq : runeB q = [ub (224 + q / 4096), ub (128 + q / 64 % 64), ub (128 + q % 64)] := by unfold runeB; rw [if_neg (by rw [h]; decide), if_neg h1, if_neg h2]
   generalize ub (224 + q / 4096) = a at *
   generalize ub (128 + q / 64 % 64) = b at *
   generalize ub (128 + q % 64) = c at *
   have s1 : vpStep vp0 a.toNat = (⟨0, false, [], [a]⟩, act0) := by
    rw [vpStep_plain (by omega)]
    exact vpPlain_beg (p := []) (by omega) (runeL_one (by omega)) (within_iff.2 (by omega))
   have no2 : ∀ l, rtry (a :: b :: l) 2 = false := by
    intro l
    rw [← Bool.not_eq_true]
    intro hh
    unfold rtry at hh
    rw [Bool.and_eq_true, decide_eq_true_eq, decide_eq_true_eq] at hh
    have hl := congrArg List.length hh.2
    have hc : cand (a :: b :: l) 2 = ((a.toNat : Int) - 192) * 64 + b.toNat - 128 := rfl
    have h9 : 2048 ≤ cand (a :: b :: l) 2 := by rw [hc]; omega
    generalize cand (a :: b :: l) 2 = z at *
    unfold runeB at hl
    rw [if_neg (show ¬ z < 128 by omega), if_neg (show ¬ z < 2048 by omega)] at hl
    split at hl <;> simp at hl
   have r2 : ¬ rvS (runeL [a, b]) = 2 := by
    rw [runeL_none]
    ·exact fun h => by cases h
    ·intro t h1 h3
     rcases (by omega : t = 1 ∨ t = 2 ∨ t = 3) with rfl | rfl | rfl
     ·exact rtry_hi (by omega)
     ·exact no2 []
     ·exact rtry_len (by simp)
   have g2 : runeBeg [a, b] = true := by
    show (((decide (b.toNat / 64 = 2) && decide (224 ≤ a.toNat)) && decide (2048 ≤ ((a.toNat : Int) - 224) * 4096 + (b.toNat % 64 : Nat) * 64)) && shows (((a.toNat : Int) - 224) * 4096 + (b.toNat % 64 : Nat) * 64)) = true
    rw [Bool.and_eq_true, Bool.and_eq_true, Bool.and_eq_true, decide_eq_true_eq, decide_eq_true_eq, decide_eq_true_eq, shows_iff]
    omega
   have s2 : vpStep ⟨0, false, [], [a]⟩ b.toNat = (⟨0, false, [], [a, b]⟩, act0) := by
    rw [vpStep_plain (by omega)]
    exact vpPlain_beg (p := [a]) (by omega) r2 g2
   have hc : cand [a, b, c] 3 = q := by show (((a.toNat : Int) - 224) * 64 + b.toNat - 128) * 64 + c.toNat - 128 = q; omega
   have hr : runeL [a, b, c] = some (q, 3) := by
    have := runeL_at (l := [a, b, c]) (s := 3) (by unfold rtry; rw [hc, hq]; simp) (by omega) (by omega) (fun t h1 h2 => by
     rcases (by omega : t = 1 ∨ t = 2) with rfl | rfl
     ·exact rtry_hi (by omega)
     ·exact no2 [c])
    rw [this, hc]
   have s3 : vpStep ⟨0, false, [], [a, b]⟩ c.toNat = (vp0, ⟨1, q, false, []⟩) := by
    rw [vpStep_plain (by omega)]
    exact vpPlain_end (p := [a, b]) (by omega) hr
   simp only [vpParse, s1, s2, s3]
   rfl
def numT (n : Int) : List UInt8 := if 0 ≤ n ∧ n ≤ 4294967295 then Go.Lib.decDigits n.toNat else []
def numBA (n : Int) : ByteArray := ⟨(numT n).toArray⟩
def argT (l : List Int) : List UInt8 := Go.Lib.join (l.map numT) [59]
theorem numT_small {n : Int} (h : 0 ≤ n ∧ n < 10) : numT n = [ub (48 + n)] := by
 unfold numT
 rw [if_pos (by omega), Go.Lib.decDigits_one (by omega)]
 congr 1
 apply u8_inj
 rw [ub_toNat, UInt8.toNat_ofNat']
 omega
theorem numT_big {n : Int} (h : 10 ≤ n ∧ n ≤ 4294967295) : numT n = numT (n / 10) ++ [ub (48 + n % 10)] := by
 unfold numT
 rw [if_pos (by omega), if_pos (by omega), Go.Lib.decDigits, dif_neg (by omega)]
 have e1 : n.toNat / 10 = (n / 10).toNat := by omega
 rw [e1]
 congr 2
 apply u8_inj
 rw [ub_toNat, UInt8.toNat_ofNat']
 omega
theorem dec_chars (u : Nat) : ∀ c, c ∈ Go.Lib.decDigits u → 48 ≤ c.toNat ∧ c.toNat ≤ 57 := by
 induction u using Nat.strongRecOn with
 | _ u ih =>
  intro c hc
  rw [Go.Lib.decDigits] at hc
  split at hc
  ·rw [List.mem_singleton] at hc
   rw [hc, UInt8.toNat_ofNat']; omega
  ·rw [List.mem_append, List.mem_singleton] at hc
   rcases hc with hc | hc
   ·exact ih _ (by omega) c hc
   ·rw [hc, UInt8.toNat_ofNat']; omega
theorem numT_chars {n : Int} : ∀ c, c ∈ numT n → 48 ≤ c.toNat ∧ c.toNat ≤ 57 := by
 intro c hc
 unfold numT at hc
 split at hc
 ·exact dec_chars _ c hc
 ·cases hc
theorem numT_len {n : Int} : (numT n).length ≤ 21 := by
 unfold numT
 split
 ·have h := Go.Lib.itoa_length_le (n.toNat : Int) (by omega) (by omega)
  rwa [Go.Lib.itoa_nonneg] at h
 ·exact Nat.zero_le _
theorem join_snoc (xs : List (List UInt8)) (y s : List UInt8) : Go.Lib.join (xs ++ [y]) s = if xs = [] then y else Go.Lib.join xs s ++ s ++ y := by
 cases xs with
 | nil => rw [if_pos rfl]; exact Go.Lib.join_one y s
 | cons x r =>
  rw [if_neg (by simp), List.cons_append, Go.Lib.join_cons, Go.Lib.join_cons]
  simp [Go.Lib.joinTail, List.append_assoc]
theorem argT_take {l : List Int} {i : Nat} (h : i < l.length) : argT (l.take (i + 1)) = if i = 0 then numT (iat l i) else argT (l.take i) ++ [59] ++ numT (iat l i) := by
 unfold argT
 rw [List.take_add_one, gat_get (F := encI) h, List.map_append]
 show Go.Lib.join (_ ++ [numT (gat encI l i)]) _ = _
 rw [join_snoc]
 by_cases h0 : i = 0
 ·subst h0
  rw [if_pos rfl, if_pos (by simp)]
 ·rw [if_neg h0, if_neg (by intro hh; have := congrArg List.length hh; simp only [List.length_map, List.length_take, List.length_nil] at this; omega)]
theorem join_mem {c : UInt8} : ∀ {xs : List (List UInt8)}, c ∈ Go.Lib.join xs [59] → c = 59 ∨ ∃ x, x ∈ xs ∧ c ∈ x
 | [], h => by cases h
 | x :: r, h => by
  rw [Go.Lib.join_cons, List.mem_append] at h
  rcases h with h | h
  ·exact .inr ⟨x, List.mem_cons_self, h⟩
  ·unfold Go.Lib.joinTail at h
   rw [List.mem_flatten] at h
   obtain ⟨y, hy, hc⟩ := h
   obtain ⟨z, hz, rfl⟩ := List.mem_map.1 hy
   rw [List.mem_append, List.mem_singleton] at hc
   rcases hc with hc | hc
   ·exact .inl hc
   ·exact .inr ⟨z, List.mem_cons_of_mem _ hz, hc⟩
theorem argT_chars {l : List Int} : ∀ c, c ∈ argT l → 48 ≤ c.toNat ∧ c.toNat ≤ 63 := by
 intro c hc
 rcases join_mem hc with rfl | ⟨x, hx, hc⟩
 ·decide
 ·obtain ⟨n, hn, rfl⟩ := List.mem_map.1 hx
  have := numT_chars c hc
  omega
def sameA (a b : ActD) : Bool := ((decide (a.Kind = b.Kind) && decide (a.R = b.R)) && decide (a.Mark = b.Mark)) && decide (a.Args = b.Args)
theorem sameA_eq {a b : ActD} (h : sameA a b = true) : a = b := by
 unfold sameA at h
 simp only [Bool.and_eq_true, decide_eq_true_eq] at h
 exact ActD.ext' h.1.1.1 h.1.1.2 h.1.2 h.2
def oneA (l : List ActD) (a : ActD) : Bool := match l with
 | [x] => sameA x a
 | _ => false
theorem oneA_eq {l : List ActD} {a : ActD} (h : oneA l a = true) : l = [a] := by
 unfold oneA at h
 split at h
 ·rw [sameA_eq h]
 ·cases h
def actPre (a : ActD) : List UInt8 := [27, 91] ++ (if a.Mark = true then [63] else []) ++ argT a.Args
def actBy (a : ActD) : List UInt8 := if a.Kind = 1 then runeB a.R else if a.Kind = 2 then [ub a.R] else if a.Kind = 3 then [27, ub a.R] else if a.Kind = 4 then actPre a ++ [ub a.R] else []
def actOk (a : ActD) : Bool := oneA (vpParse vp0 (actBy a)).2 a
def actT (a : ActD) : ByteArray := if actOk a = true then ⟨(actBy a).toArray⟩ else ⟨#[]⟩
def goodI (s : List UInt8) (a : ActD) : Bool := (decide ((vpParse vp0 s).1.State = 0) && decide ((vpParse vp0 s).1.Part.length = 0)) && oneA (vpParse vp0 s).2 a
theorem vpStep_R {v : VpD} {b : Int} (hb : 0 ≤ b ∧ b ≤ 255) (h0 : (vpStep v b).2.Kind ≠ 0) (h1 : (vpStep v b).2.Kind ≠ 1) : 0 ≤ (vpStep v b).2.R ∧ (vpStep v b).2.R ≤ 127 := by
 revert h0 h1
 unfold vpStep vpPlain vpCsi
 (repeat' split) <;> simp [act0] <;> omega
theorem vpParse_R : ∀ {l : List UInt8} {v : VpD} {x : ActD}, x ∈ (vpParse v l).2 → x.Kind ≠ 0 ∧ (x.Kind ≠ 1 → 0 ≤ x.R ∧ x.R ≤ 127)
 | [], v, x, h => by cases h
 | y :: r, v, x, h => by
  simp only [vpParse, List.mem_append] at h
  rcases h with h | h
  ·split at h
   ·cases h
   ·rename_i hk
    rw [List.mem_singleton] at h
    subst h
    exact ⟨hk, fun h1 => vpStep_R (by have := UInt8.toNat_lt y; omega) hk h1⟩
  ·exact vpParse_R h
theorem vpStep_mid {v : VpD} {b : Int} (hs : v.State = 2 ∨ v.State = 3) (hb : 48 ≤ b ∧ b ≤ 63) : ((vpStep v b).1.State = 2 ∨ (vpStep v b).1.State = 3) ∧ (vpStep v b).2.Kind = 0 := by
 unfold vpStep
 rw [if_neg (by omega), if_neg (by omega), if_neg (by omega), if_neg (by omega)]
 rcases hs with hs | hs
 ·rw [if_pos hs]
  unfold vpCsi vpDigit vpNext
  (repeat' split) <;> simp [act0, hs] <;> omega
 ·rw [if_neg (by omega), if_neg (by omega)]
  exact ⟨.inr hs, rfl⟩
theorem vpParse_mid : ∀ {l : List UInt8} {v : VpD}, (v.State = 2 ∨ v.State = 3) → (∀ c, c ∈ l → 48 ≤ c.toNat ∧ c.toNat ≤ 63) → (vpParse v l).2 = [] ∧ ((vpParse v l).1.State = 2 ∨ (vpParse v l).1.State = 3)
 | [], v, h, _ => ⟨rfl, h⟩
 | y :: r, v, h, hc => by
  have h1 := hc y List.mem_cons_self
  obtain ⟨a, b⟩ := vpStep_mid (b := (y.toNat : Int)) h (by omega)
  obtain ⟨c, d⟩ := vpParse_mid (l := r) a (fun z hz => hc z (List.mem_cons_of_mem _ hz))
  refine ⟨?_, d⟩
  simp only [vpParse]
  rw [if_pos b, c]; rfl
theorem pre_parse (a : ActD) : (vpParse vp0 (actPre a)).2 = [] ∧ ((vpParse vp0 (actPre a)).1.State = 2 ∨ (vpParse vp0 (actPre a)).1.State = 3) := by
 have hc : ∀ c, c ∈ (if a.Mark = true then [63] else []) ++ argT a.Args → 48 ≤ c.toNat ∧ c.toNat ≤ 63 := by
  intro c hc
  rw [List.mem_append] at hc
  rcases hc with hc | hc
  ·split at hc
   ·rw [List.mem_singleton] at hc; rw [hc]; decide
   ·cases hc
  ·exact argT_chars c hc
 have h := vpParse_mid (v := ⟨2, false, [], []⟩) (.inl rfl) hc
 unfold actPre
 rw [List.append_assoc]
 exact h
theorem step_vp0 {b : Int} (h : (vpStep vp0 b).2.Kind ≠ 0) : (vpStep vp0 b).1 = vp0 := by
 revert h
 unfold vpStep vpPlain
 (repeat' split) <;> simp [act0, vp0] at *
theorem step_esc {b : Int} (h : (vpStep ⟨1, false, [], []⟩ b).2.Kind ≠ 0) : (vpStep ⟨1, false, [], []⟩ b).1 = vp0 := by
 revert h
 unfold vpStep
 (repeat' split) <;> simp [act0, vp0] at *
theorem step_csi {v : VpD} {b : Int} (hs : v.State = 2 ∨ v.State = 3) (h : (vpStep v b).2.Kind = 4) : (vpStep v b).1 = vp0 := by
 revert h
 unfold vpStep vpCsi
 (repeat' split) <;> simp [act0] at * <;> omega
theorem actOk_vp0 {a : ActD} (h : actOk a = true) : (vpParse vp0 (actBy a)).1 = vp0 := by
 have he := oneA_eq h
 unfold actBy at he ⊢
 split
 ·rename_i h1
  rw [if_pos h1] at he
  by_cases hs : shows a.R = true
  ·rw [vpParse_rune hs]
  ·have e : runeB a.R = [] := by unfold runeB; rw [if_pos (by simpa using hs)]
   rw [e] at he; cases he
 ·rename_i h1
  rw [if_neg h1] at he
  split
  ·rename_i h2
   rw [if_pos h2] at he
   have he2 : (if (vpStep vp0 ((ub a.R).toNat : Int)).2.Kind = 0 then [] else [(vpStep vp0 ((ub a.R).toNat : Int)).2]) ++ [] = [a] := he
   show (vpStep vp0 ((ub a.R).toNat : Int)).1 = vp0
   refine step_vp0 fun hk => ?_
   rw [if_pos hk] at he2; cases he2
  ·rename_i h2
   rw [if_neg h2] at he
   split
   ·rename_i h3
    rw [if_pos h3] at he
    have he2 : [] ++ ((if (vpStep ⟨1, false, [], []⟩ ((ub a.R).toNat : Int)).2.Kind = 0 then [] else [(vpStep ⟨1, false, [], []⟩ ((ub a.R).toNat : Int)).2]) ++ []) = [a] := he
    show (vpStep ⟨1, false, [], []⟩ ((ub a.R).toNat : Int)).1 = vp0
    refine step_esc fun hk => ?_
    rw [if_pos hk] at he2; cases he2
   ·rename_i h3
    rw [if_neg h3] at he
    split
    ·rename_i h4
     rw [if_pos h4, vpParse_snoc] at he
     rw [vpParse_snoc]
     obtain ⟨p1, p2⟩ := pre_parse a
     simp only [p1, List.nil_append] at he ⊢
     split at he
     ·cases he
     ·rw [List.cons.injEq] at he
      exact step_csi p2 (by rw [he.1]; exact h4)
    ·rfl
theorem goodI_B (a : ActD) : goodI (actBy a) a = actOk a := by
 unfold goodI
 cases h : actOk a with
 | false =>
  have : oneA (vpParse vp0 (actBy a)).2 a = false := h
  rw [this, Bool.and_false]
 | true =>
  have : oneA (vpParse vp0 (actBy a)).2 a = true := h
  rw [this, actOk_vp0 h]; rfl
theorem actOk_R {a : ActD} (h : actOk a = true) : a.Kind ≠ 0 ∧ (a.Kind ≠ 1 → 0 ≤ a.R ∧ a.R ≤ 127) := by
 have he := oneA_eq h
 exact vpParse_R (l := actBy a) (v := vp0) (by rw [he]; exact List.mem_cons_self)
theorem actOk_args {a : ActD} (h : actOk a = true) : areArgs a.Args = true := by
 have he := oneA_eq h
 exact vpParse_args (l := actBy a) (v := vp0) rfl a (by rw [he]; exact List.mem_cons_self)
theorem actOk_kind {a : ActD} (h : actOk a = true) : a.Kind = 1 ∨ a.Kind = 2 ∨ a.Kind = 3 ∨ a.Kind = 4 := by
 by_cases h1 : a.Kind = 1
 ·exact .inl h1
 by_cases h2 : a.Kind = 2
 ·exact .inr (.inl h2)
 by_cases h3 : a.Kind = 3
 ·exact .inr (.inr (.inl h3))
 by_cases h4 : a.Kind = 4
 ·exact .inr (.inr (.inr h4))
 have he := oneA_eq h
 unfold actBy at he
 rw [if_neg h1, if_neg h2, if_neg h3, if_neg h4] at he
 cases he
def actS (a : ActD) (q : Int) : List UInt8 := if a.Kind = 1 then runeB a.R else if a.Kind = 2 then [ub q] else if a.Kind = 3 then [27, ub q] else if a.Kind = 4 then actPre a ++ [ub q] else []
theorem actS_B {a : ActD} {q : Int} (h : a.Kind ≠ 1 → q = a.R) : actS a q = actBy a := by
 unfold actS actBy
 by_cases h1 : a.Kind = 1
 ·rw [if_pos h1, if_pos h1]
 ·rw [h h1]
theorem actS_ok {a : ActD} {q : Int} (hq : 0 ≤ a.R ∧ a.R ≤ 127 → q = a.R) : oneA (vpParse vp0 (actS a q)).2 a = actOk a ∧ (actOk a = true → actS a q = actBy a) := by
 have hb : actOk a = true → actS a q = actBy a := fun h => actS_B fun h1 => hq ((actOk_R h).2 h1)
 refine ⟨?_, hb⟩
 rw [Bool.eq_iff_iff]
 constructor
 ·intro h
  have he := oneA_eq h
  have hr := vpParse_R (l := actS a q) (v := vp0) (x := a) (by rw [he]; exact List.mem_cons_self)
  have := actS_B (a := a) (q := q) fun h1 => hq (hr.2 h1)
  unfold actOk
  rw [← this]; exact h
 ·intro h
  rw [hb h]; exact h
theorem join_len : ∀ {xs : List (List UInt8)}, (∀ x, x ∈ xs → x.length ≤ 21) → (Go.Lib.join xs [59]).length ≤ 22 * xs.length
 | [], _ => Nat.zero_le _
 | x :: r, h => by
  rw [Go.Lib.join_cons, List.length_append, List.length_cons]
  have h1 := h x List.mem_cons_self
  have h2 : ∀ (l : List (List UInt8)), (∀ y, y ∈ l → y.length ≤ 21) → (Go.Lib.joinTail [59] l).length ≤ 22 * l.length := by
   intro l
   induction l with
   | nil => intro _; exact Nat.zero_le _
   | cons y t ih =>
    intro hl
    have h3 := ih fun z hz => hl z (List.mem_cons_of_mem _ hz)
    have h4 := hl y List.mem_cons_self
    have e : Go.Lib.joinTail [59] (y :: t) = ([59] ++ y) ++ Go.Lib.joinTail [59] t := by simp [Go.Lib.joinTail]
    rw [e]
    simp only [List.length_append, List.length_cons, List.length_nil]
    omega
  have h5 := h2 r fun y hy => h y (List.mem_cons_of_mem _ hy)
  omega
theorem argT_len {l : List Int} : (argT l).length ≤ 22 * l.length := by
 have h := join_len (xs := l.map numT) (fun x hx => by obtain ⟨n, _, rfl⟩ := List.mem_map.1 hx; exact numT_len)
 rwa [List.length_map] at h
theorem join_args (l : List Int) {s : ByteArray} (hs : s.data.toList = [59]) : Go.Lib.join ((l.map numBA).map (·.data.toList)) s.data.toList = argT l := by
 rw [hs, List.map_map]; rfl
theorem actT_yes {a : ActD} (h : actOk a = true) : actT a = ⟨(actBy a).toArray⟩ := if_pos h
theorem actT_no {a : ActD} (h : actOk a = false) : actT a = ⟨#[]⟩ := if_neg (by rw [h]; decide)
theorem goodI_R {s : List UInt8} {a : ActD} {r : VpR} {x : List ActR} (h0 : r.dat = (vpParse vp0 s).1) (h1 : x.map ActR.dat = (vpParse vp0 s).2) (hl : r.Part.xs.length = r.Part.n) :
  goodI s a = ((decide (r.State = 0) && decide (r.Part.n = 0)) && (decide (x.length = 1) && sameA (gat encActR x 0).dat a)) := by
 unfold goodI
 rw [← h0, ← h1, ← hl]
 congr 1
 match x with
 | [] => rfl
 | [y] => show sameA y.dat a = (true && sameA (gat encActR [y] 0).dat a); rw [Bool.true_and]; rfl
 | y :: z :: t => rfl
theorem oneA_R {s : List UInt8} {a : ActD} {x : List ActR} (h1 : x.map ActR.dat = (vpParse vp0 s).2) : oneA (vpParse vp0 s).2 a = (decide (x.length = 1) && sameA (gat encActR x 0).dat a) := by
 rw [← h1]
 match x with
 | [] => rfl
 | [y] => show sameA y.dat a = (true && sameA (gat encActR [y] 0).dat a); rw [Bool.true_and]; rfl
 | y :: z :: t => rfl
theorem OwnF.spot {α : Type} {F : Enc α} {e : TypeId} {A : Option Addr} {n c : Nat} {xs : List α} {L : Hp} (h : OwnF F e (.slice A n c) xs L) : 0 < n → ∀ x, A = some x → x.spot = none := by
 intro hn x hx
 rcases h.2 with ⟨⟨A', hv⟩, h0', _⟩ | ⟨g, cap, o, pre, cl, lh, hv, _⟩
 ·simp only [Value.slice.injEq] at hv
  omega
 ·simp only [Value.slice.injEq] at hv
  rw [hx] at hv
  rw [Option.some.inj hv.1]
theorem vpBytes_vp0 {s : List UInt8} : vpBytes vp0 s = vpParse vp0 s := by unfold vpBytes; rw [if_pos (show vpOk vp0 = true from rfl)]
theorem bitsAnd_low {a : Int} (h : 0 ≤ a ∧ a ≤ 127) : bitsAnd a 127 = a := by
 have h2 : (BitVec.ofInt 64 a &&& BitVec.ofInt 64 127).toNat = a.toNat := by
  rw [BitVec.toNat_and, bvNat (by omega) (by omega), bvNat (by omega) (by omega)]
  rw [show (127 : Int).toNat = 2 ^ 7 - 1 from rfl, Nat.and_two_pow_sub_one_eq_mod]
  omega
 have h3 : In64 (((BitVec.ofInt 64 a &&& BitVec.ofInt 64 127).toNat : Nat) : Int) := by rw [h2]; constructor <;> omega
 have h4 : bitsAnd a 127 = ((BitVec.ofInt 64 a &&& BitVec.ofInt 64 127).toNat : Int) := wrap_in h3
 rw [h4, h2]
 omega
theorem join_len2 {l : List Int} (h : l.length ≤ 8) : (Go.Lib.join (List.map ((fun x : ByteArray => x.data.toList) ∘ numBA) l) [59]).length ≤ 200 := by
 have h9 := argT_len (l := l)
 have e9 := join_args l (s := ⟨#[59]⟩) rfl
 rw [List.map_map] at e9
 rw [show [59] = (⟨#[59]⟩ : ByteArray).data.toList from rfl, e9]
 omega
theorem actPre_len {a : ActD} : (actPre a).length ≤ 3 + 22 * a.Args.length := by
 have h := argT_len (l := a.Args)
 unfold actPre
 simp only [List.length_append, List.length_cons, List.length_nil]
 split <;> simp <;> omega
theorem map_numBA (l : List Int) : List.map ((fun x : ByteArray => x.data.toList) ∘ numBA) l = l.map numT := rfl
open Go.Shelf
def Tryd.lays156_ren : Go.Shelf.Ren := ⟨fun | 156 => 25 | 165 => 46 | 166 => 47 | 169 => 48 | 240 => 62 | 241 => 63 | 276 => 69 | 277 => 70 | n => n, fun | 31 => 52 | 9 => 9 | 3 => 3 | 4 => 4 | 0 => 0 | 20 => 20 | 72 => 68 | 76 => 72 | 70 => 66 | 37 => 22 | 75 => 71 | 127 => 78 | 164 => 84 | 5 => 5 | 80 => 74 | n => n, fun | n => n⟩
theorem Tryd.lays156 : Go.Proofs.Lays.n156 Tryd.prog Tryd.lays156_ren := {
  mixed := by kernel_rfl
  f156 := Tryd.func25.trans (congrArg some (by kernel_rfl))
  f165 := Tryd.func46.trans (congrArg some (by kernel_rfl))
  f166 := Tryd.func47.trans (congrArg some (by kernel_rfl))
  f169 := Tryd.func48.trans (congrArg some (by kernel_rfl))
  f240 := Tryd.func62.trans (congrArg some (by kernel_rfl))
  f241 := Tryd.func63.trans (congrArg some (by kernel_rfl))
  f276 := Tryd.func69.trans (congrArg some (by kernel_rfl))
  f277 := Tryd.func70.trans (congrArg some (by kernel_rfl))
  t0 := Tryd.underlying0
  a0 := Tryd.isAgg0
  z0 := Tryd.sizeOf0
  v0 := Tryd.zeroValue0
  t3 := Tryd.underlying3
  a3 := Tryd.isAgg3
  z3 := Tryd.sizeOf3
  v3 := Tryd.zeroValue3
  t4 := Tryd.underlying4
  a4 := Tryd.isAgg4
  z4 := Tryd.sizeOf4
  v4 := Tryd.zeroValue4
  t9 := Tryd.underlying9
  a9 := Tryd.isAgg9
  z9 := Tryd.sizeOf9
  v9 := Tryd.zeroValue9
  t20 := Tryd.underlying20
  a20 := Tryd.isAgg20
  z20 := Tryd.sizeOf20
  v20 := Tryd.zeroValue20
  t31 := Tryd.underlying52
  a31 := Tryd.isAgg52
  z31 := Tryd.sizeOf52
  v31 := Tryd.zeroValue52
  t37 := Tryd.underlying22
  a37 := Tryd.isAgg22
  z37 := Tryd.sizeOf22
  v37 := Tryd.zeroValue22
  t70 := Tryd.underlying66
  a70 := Tryd.isAgg66
  z70 := Tryd.sizeOf66
  v70 := Tryd.zeroValue66
  t72 := Tryd.underlying68
  a72 := Tryd.isAgg68
  z72 := Tryd.sizeOf68
  v72 := Tryd.zeroValue68
  t75 := Tryd.underlying71
  a75 := Tryd.isAgg71
  z75 := Tryd.sizeOf71
  v75 := Tryd.zeroValue71
  t76 := Tryd.underlying72
  a76 := Tryd.isAgg72
  z76 := Tryd.sizeOf72
  v76 := Tryd.zeroValue72
  t127 := Tryd.underlying78
  a127 := Tryd.isAgg78
  z127 := Tryd.sizeOf78
  v127 := Tryd.zeroValue78
  t164 := Tryd.underlying84
  a164 := Tryd.isAgg84
  z164 := Tryd.sizeOf84
  v164 := Tryd.zeroValue84 }
theorem Tryd.Builder_Extra_156 : Builder.Extra Tryd.prog Tryd.lays156_ren := {
  sizeBuilder := by kernel_rfl
  liesBuilder := by kernel_rfl
  t5 := Tryd.underlying5
  a5 := Tryd.isAgg5
  z5 := Tryd.sizeOf5
  v5 := Tryd.zeroValue5
  infoByte := by kernel_rfl
  cellsByte := by kernel_rfl
  sizeByte := by kernel_rfl
  neB5 := by decide }
open Go.RowKit in
theorem Tryd.strings_Join_none (a : Option Addr) (c : Nat) (sep : ByteArray) (w : World) :
    Calls Tryd.prog 25 #[.slice a 0 c, .string sep] w fun e w' => e = .returned (.string ⟨#[]⟩) ∧ w' = w := Any.strings_Join_none Tryd.lays156 Tryd.Builder_Extra_156 a c sep w
open Go.RowKit in
theorem Tryd.strings_Join (bk o c : Nat) (xs : List ByteArray) (sep : ByteArray) (w : World) (hcells : ∀ (j : Nat) x, xs[j]? = some x → w.cell? ⟨bk, o + j, none⟩ = some (.string x)) (hbk : bk < w.heap.size) (hN : xs.length ≤ 140737488355328) (hcap : xs.length ≤ c) (hlen : (Lib.join (xs.map (·.data.toList)) sep.data.toList).length ≤ 140737488355328) :
    Calls Tryd.prog 25 #[.slice (some ⟨bk, o, none⟩) xs.length c, .string sep] w fun e w' => e = .returned (.string ⟨(Lib.join (xs.map (·.data.toList)) sep.data.toList).toArray⟩) ∧ Below w.heap.size w w' := Any.strings_Join Tryd.lays156 Tryd.Builder_Extra_156 bk o c xs sep w hcells hbk hN hcap hlen
def Tryd.laysM171_ren : Go.Shelf.Ren := ⟨fun | 171 => 45 | 243 => 61 | 246 => 68 | 283 => 72 | 284 => 73 | 285 => 74 | 286 => 75 | 129 => 77 | 317 => 76 | 318 => 78 | 319 => 79 | 320 => 80 | 337 => 81 | 338 => 82 | n => n, fun | 3 => 3 | 9 => 9 | 2 => 2 | 4 => 4 | 171 => 88 | 0 => 0 | 53 => 89 | 37 => 22 | 5 => 5 | 173 => 92 | 212 => 96 | 51 => 97 | 20 => 20 | 213 => 98 | 46 => 75 | 232 => 101 | 233 => 102 | n => n, fun | 17 => 1 | 18 => 2 | 19 => 3 | n => n⟩
theorem Tryd.laysM171 : Go.Proofs.LaysM.n171 Tryd.prog Tryd.laysM171_ren := {
  mixed := by kernel_rfl
  f129 := Tryd.func77.trans (congrArg some (by kernel_rfl))
  f171 := Tryd.func45.trans (congrArg some (by kernel_rfl))
  f243 := Tryd.func61.trans (congrArg some (by kernel_rfl))
  f246 := Tryd.func68.trans (congrArg some (by kernel_rfl))
  f283 := Tryd.func72.trans (congrArg some (by kernel_rfl))
  f284 := Tryd.func73.trans (congrArg some (by kernel_rfl))
  f285 := Tryd.func74.trans (congrArg some (by kernel_rfl))
  f286 := Tryd.func75.trans (congrArg some (by kernel_rfl))
  f317 := Tryd.func76.trans (congrArg some (by kernel_rfl))
  f318 := Tryd.func78.trans (congrArg some (by kernel_rfl))
  f319 := Tryd.func79.trans (congrArg some (by kernel_rfl))
  f320 := Tryd.func80.trans (congrArg some (by kernel_rfl))
  f337 := Tryd.func81.trans (congrArg some (by kernel_rfl))
  f338 := Tryd.func82.trans (congrArg some (by kernel_rfl))
  t0 := Tryd.underlying0
  a0 := Tryd.isAgg0
  z0 := Tryd.sizeOf0
  v0 := Tryd.zeroValue0
  t2 := Tryd.underlying2
  a2 := Tryd.isAgg2
  z2 := Tryd.sizeOf2
  v2 := Tryd.zeroValue2
  t3 := Tryd.underlying3
  a3 := Tryd.isAgg3
  z3 := Tryd.sizeOf3
  v3 := Tryd.zeroValue3
  t4 := Tryd.underlying4
  a4 := Tryd.isAgg4
  z4 := Tryd.sizeOf4
  v4 := Tryd.zeroValue4
  t5 := Tryd.underlying5
  a5 := Tryd.isAgg5
  z5 := Tryd.sizeOf5
  v5 := Tryd.zeroValue5
  t9 := Tryd.underlying9
  a9 := Tryd.isAgg9
  z9 := Tryd.sizeOf9
  v9 := Tryd.zeroValue9
  t20 := Tryd.underlying20
  a20 := Tryd.isAgg20
  z20 := Tryd.sizeOf20
  v20 := Tryd.zeroValue20
  t37 := Tryd.underlying22
  a37 := Tryd.isAgg22
  z37 := Tryd.sizeOf22
  v37 := Tryd.zeroValue22
  t46 := Tryd.underlying75
  a46 := Tryd.isAgg75
  z46 := Tryd.sizeOf75
  v46 := Tryd.zeroValue75
  t51 := Tryd.underlying97
  a51 := Tryd.isAgg97
  z51 := Tryd.sizeOf97
  v51 := Tryd.zeroValue97
  t53 := Tryd.underlying89
  a53 := Tryd.isAgg89
  z53 := Tryd.sizeOf89
  v53 := Tryd.zeroValue89
  t171 := Tryd.underlying88
  a171 := Tryd.isAgg88
  z171 := Tryd.sizeOf88
  v171 := Tryd.zeroValue88
  t173 := Tryd.underlying92
  a173 := Tryd.isAgg92
  z173 := Tryd.sizeOf92
  v173 := Tryd.zeroValue92
  t212 := Tryd.underlying96
  a212 := Tryd.isAgg96
  z212 := Tryd.sizeOf96
  v212 := Tryd.zeroValue96
  t213 := Tryd.underlying98
  a213 := Tryd.isAgg98
  z213 := Tryd.sizeOf98
  t232 := Tryd.underlying101
  a232 := Tryd.isAgg101
  z232 := Tryd.sizeOf101
  v232 := Tryd.zeroValue101
  t233 := Tryd.underlying102
  a233 := Tryd.isAgg102
  z233 := Tryd.sizeOf102
  v233 := Tryd.zeroValue102
  g17 := by kernel_rfl
  g18 := by kernel_rfl
  g19 := by kernel_rfl
  i0 := by kernel_rfl
  i2 := by kernel_rfl
  i3 := by kernel_rfl
  i4 := by kernel_rfl
  i5 := by kernel_rfl
  i9 := by kernel_rfl
  i20 := by kernel_rfl
  i37 := by kernel_rfl
  i46 := by kernel_rfl
  i51 := by kernel_rfl
  i53 := by kernel_rfl
  i171 := by kernel_rfl
  i173 := by kernel_rfl
  i212 := by kernel_rfl
  i232 := by kernel_rfl
  i233 := by kernel_rfl
  m17 := by kernel_rfl
  m18 := by kernel_rfl
  m19 := by kernel_rfl }
open Go.RowKit Go.Sort Go.Lib in
theorem Tryd.strconv_Itoa (n : Int) (h0 : -9223372036854775808 ≤ n) (h1 : n ≤ 9223372036854775807) (w : World) (htab : Lib.TabIs Tryd.prog w "internal/strconv.uint64pow10" .u64 Lib.pow10Tab) :
    Calls Tryd.prog 45 #[.int .i64 n] w fun e w' => e = .returned (.string ⟨(Lib.itoa n).toArray⟩) ∧ ∃ k os, w' = grow (w.drewN k) os := Any.strconv_Itoa Tryd.laysM171 n h0 h1 w htab
def TabOk (w : World) : Prop := Go.Lib.TabIs Tryd.prog w "internal/strconv.uint64pow10" .u64 Go.Lib.pow10Tab
theorem tab_st {w w' : World} {L : Hp} (h : TabOk w) (hs : St w [] L w') : TabOk w' := by
  have hgn : Tryd.prog.globalNamed "internal/strconv.uint64pow10" = some 1 := by kernel_rfl
  unfold TabOk Go.Lib.TabIs World.var? at h ⊢
  rw [hgn] at h ⊢
  simp only [Option.bind_some] at h ⊢
  have hlt : 1 < w.heap.size := by
    rcases Nat.lt_or_ge 1 w.heap.size with h' | h'
    · exact h'
    · rw [Array.getElem?_eq_none h'] at h; cases h
  rw [hs.keep 1 hlt (by simp)]
  exact h
theorem st_grow (w : World) (k : Nat) (os : Array Obj) : St w [] [] (Go.Sort.grow (w.drewN k) os) := ⟨rfl, rfl, rfl, by show w.heap.size ≤ (w.heap ++ os).size; rw [Array.size_append]; omega, fun k hk _ => by show (w.heap ++ os)[k]? = _; rw [Array.getElem?_append_left hk], (fun _ h => by cases h), List.nodup_nil⟩
theorem k0_ (n : Int) (w : World) (h0 : 0 ≤ n ∧ n ≤ 4294967295) (ht : TabOk w) : Calls Tryd.prog 45 #[i64 n] w fun e w' => e = .returned (.string (numBA n)) ∧ St w [] [] w' := by
  refine (Tryd.strconv_Itoa n (by omega) (by omega) w ht).mono ?_
  rintro e w' ⟨rfl, k, os, rfl⟩
  refine ⟨?_, st_grow _ _ _⟩
  unfold numBA numT
  rw [if_pos h0, show Go.Lib.itoa n = Go.Lib.decDigits n.toNat from by unfold Go.Lib.itoa; rw [if_neg (by omega)]]
theorem k1_ (A_s : Option Addr) (n_s c_s : Nat) (s : List ByteArray) (sep : ByteArray) (w : World) (f_s : SlF encS w A_s n_s s) (hc : n_s ≤ c_s) (hA : 0 < n_s → ∀ x, A_s = some x → x.spot = none) (hN : n_s ≤ 1000000) (hl : (Go.Lib.join (s.map (·.data.toList)) sep.data.toList).length ≤ 140737488355328) :
    Calls Tryd.prog 25 #[.slice A_s n_s c_s, .string sep] w fun e w' => e = .returned (.string ⟨(Go.Lib.join (s.map (·.data.toList)) sep.data.toList).toArray⟩) ∧ St w [] [] w' := by
  have hln := f_s.len
  by_cases h0 : n_s = 0
  · subst h0
    obtain rfl : s = [] := List.eq_nil_of_length_eq_zero hln
    refine (Tryd.strings_Join_none A_s c_s sep w).mono ?_
    rintro e w' ⟨rfl, rfl⟩
    exact ⟨rfl, St.init _⟩
  · obtain ⟨⟨b, o, sp⟩, rfl⟩ := Option.isSome_iff_exists.1 (f_s.some_ (by omega))
    obtain rfl : sp = none := hA (by omega) _ rfl
    subst hln
    have hcell : ∀ (j : Nat) x, s[j]? = some x → w.cell? ⟨b, o + j, none⟩ = some (.string x) := by
      intro j x hx
      have hj := (List.getElem?_eq_some_iff.1 hx).1
      have h1 := f_s.one1 (v := .string x) hj (by have e := gat_get (F := encS) hj; rw [hx] at e; rw [← Option.some.inj e]; rfl)
      have e1 : (adr (some (⟨b, o, none⟩ : Addr))).add (j * encS.sz) = ⟨b, o + j, none⟩ := by show Addr.add ⟨b, o, none⟩ (j * 1) = _; rw [Nat.mul_one]; unfold Addr.add; split <;> simp_all
      rw [e1] at h1; exact h1
    have hlt : b < w.heap.size := by
      have hx : s[0]? = some (s[0]'(by omega)) := List.getElem?_eq_getElem _
      exact cell?_lt (hcell 0 _ hx)
    refine (Tryd.strings_Join b o c_s s sep w hcell hlt (by omega) hc hl).mono ?_
    rintro e w' ⟨rfl, hb⟩
    exact ⟨rfl, St.ofBelow hb⟩
def tbt1 : TT := .node .leaf 0 ⟨.other, 1, false⟩ .leaf
def tbt2 : TT := .node tbt1 3 ⟨.int .i64, 1, false⟩ .leaf
def tbt3 : TT := .node .leaf 5 ⟨.int .u8, 1, false⟩ .leaf
def tbt4 : TT := .node tbt3 9 ⟨.str, 1, false⟩ .leaf
def tbt5 : TT := .node tbt2 4 ⟨.bool, 1, false⟩ tbt4
def tbt6 : TT := .node .leaf 22 ⟨.slice 5, 1, false⟩ .leaf
def tbt7 : TT := .node tbt6 24 ⟨.slice 3, 1, false⟩ .leaf
def tbt8 : TT := .node .leaf 27 ⟨.slice 33, 1, false⟩ .leaf
def tbt9 : TT := .node tbt7 26 ⟨.struct [0, 1, 2, 3], 4, true⟩ tbt8
def tbt10 : TT := .node tbt5 20 ⟨.other, 1, false⟩ tbt9
def tbt11 : TT := .node .leaf 33 ⟨.struct [0, 1, 2, 3], 4, true⟩ .leaf
def tbt12 : TT := .node tbt11 37 ⟨.struct [0, 1, 2, 3], 4, true⟩ .leaf
def tbt13 : TT := .node .leaf 59 ⟨.other, 1, false⟩ .leaf
def tbt14 : TT := .node tbt13 61 ⟨.other, 1, false⟩ .leaf
def tbt15 : TT := .node tbt12 52 ⟨.slice 9, 1, false⟩ tbt14
def tbt16 : TT := .node .leaf 68 ⟨.struct [0, 1], 2, true⟩ .leaf
def tbt17 : TT := .node tbt16 72 ⟨.other, 1, false⟩ .leaf
def tbt18 : TT := .node .leaf 87 ⟨.other, 1, false⟩ .leaf
def tbt19 : TT := .node tbt17 79 ⟨.other, 1, false⟩ tbt18
def tbt20 : TT := .node tbt15 63 ⟨.other, 1, false⟩ tbt19
def tbt21 : TT := .node tbt10 28 ⟨.other, 1, false⟩ tbt20
theorem tbt1_ok : tbt1.Ok Tryd.prog := ⟨trivial, ⟨trivial, Tryd.sizeOf0, Tryd.isAgg0⟩, trivial⟩
theorem tbt2_ok : tbt2.Ok Tryd.prog := ⟨tbt1_ok, ⟨Tryd.runUnderlying3, Tryd.sizeOf3, Tryd.isAgg3⟩, trivial⟩
theorem tbt3_ok : tbt3.Ok Tryd.prog := ⟨trivial, ⟨Tryd.runUnderlying5, Tryd.sizeOf5, Tryd.isAgg5⟩, trivial⟩
theorem tbt4_ok : tbt4.Ok Tryd.prog := ⟨tbt3_ok, ⟨Tryd.runUnderlying9, Tryd.sizeOf9, Tryd.isAgg9⟩, trivial⟩
theorem tbt5_ok : tbt5.Ok Tryd.prog := ⟨tbt2_ok, ⟨Tryd.runUnderlying4, Tryd.sizeOf4, Tryd.isAgg4⟩, tbt4_ok⟩
theorem tbt6_ok : tbt6.Ok Tryd.prog := ⟨trivial, ⟨Tryd.runUnderlying22, Tryd.sizeOf22, Tryd.isAgg22⟩, trivial⟩
theorem tbt7_ok : tbt7.Ok Tryd.prog := ⟨tbt6_ok, ⟨Tryd.runUnderlying24, Tryd.sizeOf24, Tryd.isAgg24⟩, trivial⟩
theorem tbt8_ok : tbt8.Ok Tryd.prog := ⟨trivial, ⟨Tryd.runUnderlying27, Tryd.sizeOf27, Tryd.isAgg27⟩, trivial⟩
theorem tbt9_ok : tbt9.Ok Tryd.prog := ⟨tbt7_ok, ⟨⟨_, Tryd.runUnderlying26, rfl, ⟨⟨_, Tryd.sizeOf3, rfl⟩, ⟨⟨_, Tryd.sizeOf4, rfl⟩, ⟨⟨_, Tryd.sizeOf24, rfl⟩, ⟨⟨_, Tryd.sizeOf22, rfl⟩, trivial⟩⟩⟩⟩⟩, Tryd.sizeOf26, Tryd.isAgg26⟩, tbt8_ok⟩
theorem tbt10_ok : tbt10.Ok Tryd.prog := ⟨tbt5_ok, ⟨trivial, Tryd.sizeOf20, Tryd.isAgg20⟩, tbt9_ok⟩
theorem tbt11_ok : tbt11.Ok Tryd.prog := ⟨trivial, ⟨⟨_, Tryd.runUnderlying33, rfl, ⟨⟨_, Tryd.sizeOf3, rfl⟩, ⟨⟨_, Tryd.sizeOf3, rfl⟩, ⟨⟨_, Tryd.sizeOf4, rfl⟩, ⟨⟨_, Tryd.sizeOf24, rfl⟩, trivial⟩⟩⟩⟩⟩, Tryd.sizeOf33, Tryd.isAgg33⟩, trivial⟩
theorem tbt12_ok : tbt12.Ok Tryd.prog := ⟨tbt11_ok, ⟨⟨_, Tryd.runUnderlying37, rfl, ⟨⟨_, Tryd.sizeOf3, rfl⟩, ⟨⟨_, Tryd.sizeOf3, rfl⟩, ⟨⟨_, Tryd.sizeOf4, rfl⟩, ⟨⟨_, Tryd.sizeOf24, rfl⟩, trivial⟩⟩⟩⟩⟩, Tryd.sizeOf37, Tryd.isAgg37⟩, trivial⟩
theorem tbt13_ok : tbt13.Ok Tryd.prog := ⟨trivial, ⟨trivial, Tryd.sizeOf59, Tryd.isAgg59⟩, trivial⟩
theorem tbt14_ok : tbt14.Ok Tryd.prog := ⟨tbt13_ok, ⟨trivial, Tryd.sizeOf61, Tryd.isAgg61⟩, trivial⟩
theorem tbt15_ok : tbt15.Ok Tryd.prog := ⟨tbt12_ok, ⟨Tryd.runUnderlying52, Tryd.sizeOf52, Tryd.isAgg52⟩, tbt14_ok⟩
theorem tbt16_ok : tbt16.Ok Tryd.prog := ⟨trivial, ⟨⟨_, Tryd.runUnderlying68, rfl, ⟨⟨_, Tryd.sizeOf66, rfl⟩, ⟨⟨_, Tryd.sizeOf22, rfl⟩, trivial⟩⟩⟩, Tryd.sizeOf68, Tryd.isAgg68⟩, trivial⟩
theorem tbt17_ok : tbt17.Ok Tryd.prog := ⟨tbt16_ok, ⟨trivial, Tryd.sizeOf72, Tryd.isAgg72⟩, trivial⟩
theorem tbt18_ok : tbt18.Ok Tryd.prog := ⟨trivial, ⟨trivial, Tryd.sizeOf87, Tryd.isAgg87⟩, trivial⟩
theorem tbt19_ok : tbt19.Ok Tryd.prog := ⟨tbt17_ok, ⟨trivial, Tryd.sizeOf79, Tryd.isAgg79⟩, tbt18_ok⟩
theorem tbt20_ok : tbt20.Ok Tryd.prog := ⟨tbt15_ok, ⟨trivial, Tryd.sizeOf63, Tryd.isAgg63⟩, tbt19_ok⟩
theorem tbt21_ok : tbt21.Ok Tryd.prog := ⟨tbt10_ok, ⟨trivial, Tryd.sizeOf28, Tryd.isAgg28⟩, tbt20_ok⟩
theorem tbk : TT.Ok Tryd.prog tbt21 := tbt21_ok
instance tbkI : TbOk Tryd.prog tbt21 := ⟨tbk⟩
instance mxI : Mx Tryd.prog := ⟨by kernel_rfl⟩
theorem mixed : Tryd.prog.follows .mixedOrders = true := by kernel_rfl
instance boolPW {n lo hi : Int} : BoolP (within n lo hi) (lo ≤ n ∧ n ≤ hi) (¬ (lo ≤ n ∧ n ≤ hi)) := ⟨within_iff.1, within_not.1⟩
theorem inf3 : Tryd.prog.info? 3 = some Tryd.t3 := by kernel_rfl
theorem k2_ (n lo hi : Int) (w : World) :
    Calls Tryd.prog 23 #[i64 n, i64 lo, i64 hi] w fun e w' => e = .returned (.bool (within n lo hi)) ∧ St w [] [] w' := by
 refine enter 15 Tryd.func23 rfl Tryd.ntmps23 rfl rfl ?_
 have hs1 := St.init w
 refine WC.r1 hs1 [] rfl (WC.sr (WL.r 4 hs1 [] rfl (WL.pA tbk 3 Acts.nil hs1 [] rfl rfl rfl rfl (fun g_ => trivial) (WL.r 1 hs1 [] rfl (WL.nil (WC.ret (retV1 rfl (resV.tmp rfl) ?_)))))))
 refine ⟨congrArg Ending.returned ?_, hs1.nil⟩
 rfl
theorem k3_ (A_a : Option Addr) (n_a c_a : Nat) (a : List Int) (A_b : Option Addr) (n_b c_b : Nat) (b : List Int) (w : World) (f_a : SlF encI w A_a n_a a) (f_b : SlF encI w A_b n_b b) (hn : n_a ≤ 1099511627776) (hab : a = b) :
    Calls Tryd.prog 32 #[.slice A_a n_a c_a, .slice A_b n_b c_b] w fun e w' => e = .returned (.bool true) ∧ St w [] [] w' := by
 subst hab
 obtain rfl : n_a = n_b := f_a.len.symm.trans f_b.len
 refine enter 26 Tryd.func32 rfl Tryd.ntmps32 rfl rfl ?_
 have hs1 := St.init w
 refine WC.r1 hs1 [] rfl (WC.seq (fun K2 hK2 => WC.r1 hs1 [] rfl (WC.condF rfl (by simp) (WC.skip (hK2 _ _ (WC.seq (fun K4 hK4 => WC.r1 hs1 [] rfl ?_)))))))
 refine WC.block (WC.lS [0, 1, 10] rfl hs1 (fun k_ f w' => ∃ (i : Nat), k_ = n_a - i ∧ (i ≤ n_a) ∧ Sub [(5, .int .i64 i)] f) ((fun (i : Nat) => n_a - i) (0)) ?_ ?_)
 ·refine ⟨0, rfl, ?_, ⟨rfl, trivial⟩⟩
  · exact Nat.zero_le _
 clear hs1
 rintro _ f w ⟨i, rfl, p0, hG⟩ hF hs5
 refine WC.sub _ (hG.app hF) ?_
 clear hG hF
 refine WC.seq (fun K6 hK6 => WC.r1 hs5 [] rfl ?_)
 refine WC.cD rfl (fun qh7 => ?_) (fun qh7 => ?_)
 ·refine WC.skip (hK6 _ _ (WC.seq (fun K8 hK8 => WC.block (WC.sq1 hs5 (WQ.r 2 [] rfl ?_)))))
  refine WQ.val rfl rfl rfl (fun w_ hs_ => (Run.idxN Tryd.runUnderlying24 Tryd.sizeOf3 rfl rfl rfl ?_ ?_ ?_)) ?_
  · exact SlF.some_ (SlF.st0 f_a (hs_ : St _ _ _ _))
  · omega
  · omega
  refine WQ.val rfl rfl rfl (fun w_ hs_ => (Run.load Tryd.isAgg3 rfl rfl (SlF.one1 (SlF.st0 f_a (hs_ : St _ _ _ _)) ?_ rfl))) ?_
  · omega
  refine WQ.r 2 [] rfl ?_
  refine WQ.val rfl rfl rfl (fun w_ hs_ => (Run.idxN Tryd.runUnderlying24 Tryd.sizeOf3 rfl rfl rfl ?_ ?_ ?_)) ?_
  · exact SlF.some_ (SlF.st0 f_b (hs_ : St _ _ _ _))
  · omega
  · omega
  refine WQ.val rfl rfl rfl (fun w_ hs_ => (Run.load Tryd.isAgg3 rfl rfl (SlF.one1 (SlF.st0 f_b (hs_ : St _ _ _ _)) ?_ rfl))) ?_
  · omega
  refine WQ.r 1 [] rfl (WQ.nil (fun _ (hs9 : St _ _ _ _) => WC.condF rfl (by simp) (WC.skip (hK8 _ _ (WC.region (WL.r 3 hs9 [] rfl (WL.nil ?_)))))))
  refine tkN (⟨sbF rfl, hs9, _, ?_, i + 1, rfl, ?_, ⟨rfl, trivial⟩⟩)
  · omega
  · omega
 refine WC.exit (hK4 _ _ (WC.r1 hs5 [] rfl (WC.ret (rtv rfl rfl hs5 ?_))))
 rfl
theorem k4_ (A_a : Option Addr) (n_a c_a : Nat) (a : List Int) (left : Int) (w : World) (f_a : SlF encI w A_a n_a a) (h1 : 0 ≤ left) (h2 : left ≤ 1048576) (h3 : n_a ≤ 9223372036854775807) :
    Calls Tryd.prog 27 #[.slice A_a n_a c_a, i64 left] w fun e w' => e = .returned (.int .i64 (szR left n_a)) ∧ St w [] [] w' := by
 refine enter 12 Tryd.func27 rfl Tryd.ntmps27 rfl rfl ?_
 have hs1 := St.init w
 refine WC.r1 hs1 [] rfl (WC.r1 hs1 [] rfl (WC.seq (fun K2 hK2 => WC.r1 hs1 [] rfl ?_)))
 refine WC.cD rfl (fun qh3 => ?_) (fun qh3 => ?_)
 ·refine WC.r1 hs1 [] rfl (WC.ret (tkR ?_))
  clear hK2
  refine rtv rfl rfl hs1 ?_
  simp only [szR]; rw [if_neg (by omega)]
 refine WC.skip (hK2 _ _ (WC.r1 hs1 [] rfl (WC.ret (rtv rfl rfl hs1 ?_))))
 simp only [szR]; rw [if_pos (by omega)]
theorem k5_ (A_a : Option Addr) (n_a c_a : Nat) (a : List Int) (w : World) (f_a : SlF encI w A_a n_a a) (hn : n_a ≤ 1099511627776) :
    Calls Tryd.prog 31 #[.slice A_a n_a c_a] w fun e w' => ∃ A c L1, e = .returned (.slice A (a).length c) ∧ St w [] L1 w' ∧ OwnF encI 3 (.slice A (a).length c) (a) L1 := by
 refine enter 22 Tryd.func31 rfl Tryd.ntmps31 rfl rfl ?_
 have hs1 := St.init w
 refine WC.r1 hs1 [] rfl (WC.sr (WL.r 2 hs1 [] rfl (WL.makeF (F := encI) hs1 Tryd.underlying24 inf3 rfl rfl rfl rfl rfl rfl rfl rfl rfl ?_ ?_ (fun A5 c6 L2 whs3 hs3 ho4 => ?_))))
 · have e_ : Tryd.t3.bytes = 8 := rfl
   rw [e_]; omega
 · omega
 refine WL.r 1 hs3 [] rfl (WL.nil (WC.seq (fun K7 hK7 => WC.r1 hs3 [] rfl (WC.block ?_))))
 refine WC.lO [0, 2] rfl hs3 (fun k_ f L_ => ∃ (i : Nat) (A8 : Option Addr) (c9 : Nat), k_ = n_a - i ∧ (i ≤ n_a) ∧ OwnF encI 3 (.slice A8 (n_a) c9) (fillG encI a i) L_ ∧ Sub [(3, .slice A8 (n_a) c9), (4, .int .i64 i)] f) (((fun (i : Nat) => n_a - i) (0))) ?_ ?_
 ·refine ⟨0, _, _, rfl, ?_, (fillG_zero f_a.len ▸ ho4), ⟨rfl, rfl, trivial⟩⟩
  · exact Nat.zero_le _
 clear hs3
 rintro _ f w L10 ⟨i, A8, c9, rfl, p0, ho11, hG⟩ hF hs12
 refine WC.sub _ (hG.app hF) ?_
 clear hG hF
 refine WC.seq (fun K13 hK13 => WC.r1 hs12 [] rfl ?_)
 refine WC.cq rfl (fun h14 qh14 => ?_) (fun h14 qh14 => ?_)
 ·refine WC.skip (hK13 _ _ (WC.seq (fun K15 hK15 => WC.block (WC.region (WL.r 4 hs12 [] rfl ?_)))))
  refine WL.val rfl rfl rfl (Run.idxN Tryd.runUnderlying24 Tryd.sizeOf3 rfl rfl rfl ?_ ?_ ?_) ?_
  · exact SlF.some_ (SlF.st0 f_a hs12)
  · omega
  · omega
  refine WL.val rfl rfl rfl (Run.load Tryd.isAgg3 rfl rfl (SlF.one1 (SlF.st0 f_a hs12) ?_ rfl)) ?_
  · omega
  refine WL.val rfl rfl rfl (Run.idxN Tryd.runUnderlying24 Tryd.sizeOf3 rfl rfl rfl ?_ ?_ ?_) ?_
  · exact SlF.some_ (SlF.ofOwn ho11 (hs12.ow L10))
  · omega
  · omega
  refine WL.storeF1 (x' := _) hs12 ho11 Tryd.sizeOf3 rfl rfl rfl rfl rfl rfl rfl rfl rfl ?_ rfl (fun L16 whs17 hs17 ho18 _ => ?_)
  · omega
  refine WL.nil (hK15 _ _ (WC.region (WL.r 3 hs17 [] rfl (WL.nil (tkN ?_)))))
  rw [fillG_set (i := i) (by rw [f_a.len]; omega) (by simp) (by simp)] at ho18
  refine ⟨sbF rfl, _, hs17, _, ?_, i + 1, _, _, rfl, ?_, ho18, ⟨rfl, rfl, trivial⟩⟩
  · omega
  · omega
 refine WC.exit (hK7 _ _ (WC.r1 hs12 [] rfl (WC.ret (retV1 rfl (resV.tmp rfl) ?_))))
 have hx_ := OwnF.eqOf (xs := a) ho11 (fillG_full (by rw [f_a.len]; omega))
 have hy_ := ho11
 rw [hx_] at hy_
 obtain ⟨A_, c_, hz_⟩ := hy_.shape
 exact ⟨A_, c_, _, congrArg Ending.returned hz_, (St.keep1 hs12), hz_ ▸ hy_⟩
theorem nthL_eq : ∀ (L : Hp) (i : Nat), nthL L i = L[i]?
 | [], _ => rfl
 | _ :: _, 0 => rfl
 | _ :: L, i + 1 => (nthL_eq L i).trans (by simp)
section
variable {P : Program} {w0 w : World} {T : List Nat} {L : Hp} {n : Nat} {ol : List Oper} {o : Oper} {rest : List Oper} {f : Fr} {d : Nat} {K : Fr → World → Prop}
theorem St.neq (h : St w0 T L w) {i j : Nat} {p q : Nat × Obj} (hi : nthL L i = some p) (hj : nthL L j = some q) (hij : i ≠ j) : p.1 ≠ q.1 := by
 intro he
 rw [nthL_eq] at hi hj
 have h1 : (L.map (·.1))[i]? = some p.1 := by rw [List.getElem?_map, hi]; rfl
 have h2 : (L.map (·.1))[j]? = some q.1 := by rw [List.getElem?_map, hj]; rfl
 exact hij ((List.getElem?_inj (List.getElem?_eq_some_iff.1 h1).1 h.nodup).1 (h1.trans (he ▸ h2.symm)))
end
def BM (es : Array MapEntry) (q : Int → Bool) : Prop :=
 (∀ x ∈ es.toList, ∃ n v, x.key = .int .i64 n ∧ x.val = .bool v ∧ q n = v) ∧ (∀ n, q n = true → ∃ x ∈ es.toList, x.key = .int .i64 n)
theorem BM.nil : BM #[] (fun _ => false) := ⟨by simp, by simp⟩
theorem BM.put {es : Array MapEntry} {q : Int → Bool} (h : BM es q) {n : Int} {v : Bool} {clock : Nat} (hn : ∀ x ∈ es.toList, x.key ≠ .int .i64 n) : BM (es.push { key := .int .i64 n, val := .bool v, born := clock }) (fun m => if m = n then v else q m) := by
 refine ⟨fun x hx => ?_, fun m hm => ?_⟩
 ·simp only [Array.toList_push, List.mem_append, List.mem_singleton] at hx
  rcases hx with hx | rfl
  ·obtain ⟨m, u, hk, hv, hq⟩ := h.1 x hx
   refine ⟨m, u, hk, hv, ?_⟩
   show (if m = n then v else q m) = u
   rw [if_neg (fun e => hn x hx (by rw [hk, e]))]; exact hq
  ·exact ⟨n, v, rfl, rfl, by simp⟩
 ·by_cases he : m = n
  ·subst he
   exact ⟨{ key := .int .i64 m, val := .bool v, born := clock }, by simp, rfl⟩
  ·simp only [if_neg he] at hm
   obtain ⟨x, hx, hk⟩ := h.2 m hm
   exact ⟨x, by simp [hx], hk⟩
theorem BM.set {es : Array MapEntry} {q : Int → Bool} (h : BM es q) {n : Int} {v : Bool} {j : Nat} {e : MapEntry} (hj : es[j]? = some e) (hk : e.key = .int .i64 n) (hu : (es.toList.map (·.key)).Nodup) : BM (es.modify j fun e => { e with key := .int .i64 n, val := .bool v }) (fun m => if m = n then v else q m) := by
 have hmem : ∀ x, x ∈ (es.modify j fun e => { e with key := .int .i64 n, val := .bool v }).toList ↔ ∃ i y, es[i]? = some y ∧ x = if i = j then { y with key := .int .i64 n, val := .bool v } else y := by
  intro x
  rw [Array.mem_toList_iff, Array.mem_iff_getElem?]
  constructor
  ·rintro ⟨i, hi⟩
   rw [Array.getElem?_modify] at hi
   by_cases hij : j = i
   ·rw [if_pos hij] at hi
    obtain ⟨y, hy, rfl⟩ := Option.map_eq_some_iff.1 hi
    exact ⟨i, y, hy, by rw [if_pos hij.symm]⟩
   ·rw [if_neg hij] at hi
    exact ⟨i, x, hi, by rw [if_neg (fun h => hij h.symm)]⟩
  ·rintro ⟨i, y, hy, rfl⟩
   refine ⟨i, ?_⟩
   rw [Array.getElem?_modify]
   by_cases hij : j = i
   ·subst hij; rw [if_pos rfl, hy, if_pos rfl]; rfl
   ·rw [if_neg hij, hy, if_neg (fun h => hij h.symm)]
 have huniq : ∀ (i : Nat) (y : MapEntry), es[i]? = some y → y.key = .int .i64 n → i = j := by
  intro i y hy hky
  have e1 : (es.toList.map (·.key))[i]? = some (.int .i64 n) := by rw [List.getElem?_map, Array.getElem?_toList, hy, ← hky]; rfl
  have e2 : (es.toList.map (·.key))[j]? = some (.int .i64 n) := by rw [List.getElem?_map, Array.getElem?_toList, hj, ← hk]; rfl
  exact (List.getElem?_inj (List.getElem?_eq_some_iff.1 e1).1 hu).1 (e1.trans e2.symm)
 refine ⟨fun x hx => ?_, fun m hm => ?_⟩
 ·obtain ⟨i, y, hy, rfl⟩ := (hmem x).1 hx
  by_cases hij : i = j
  ·rw [if_pos hij]; exact ⟨n, v, rfl, rfl, by simp⟩
  ·rw [if_neg hij]
   obtain ⟨m, u, hk', hv, hq⟩ := h.1 y (by rw [← Array.getElem?_toList] at hy; exact List.mem_of_getElem? hy)
   refine ⟨m, u, hk', hv, ?_⟩
   show (if m = n then v else q m) = u
   rw [if_neg (fun he => hij (huniq i y hy (by rw [hk', he])))]; exact hq
 ·by_cases he : m = n
  ·subst he
   exact ⟨_, (hmem _).2 ⟨j, e, hj, rfl⟩, by rw [if_pos rfl]⟩
  ·simp only [if_neg he] at hm
   obtain ⟨x, hx, hkx⟩ := h.2 m hm
   obtain ⟨i, hi⟩ := List.mem_iff_getElem?.1 hx
   rw [Array.getElem?_toList] at hi
   by_cases hij : i = j
   ·subst hij
    rw [hj] at hi; cases hi
    rw [hk] at hkx; cases hkx; exact absurd rfl he
   ·exact ⟨x, (hmem x).2 ⟨i, x, hi, by rw [if_neg hij]⟩, hkx⟩
section
variable {P : Program} {w0 w : World} {T : List Nat} {L : Hp} {n : Nat} {ol : List Oper} {o : Oper} {rest : List Oper} {f : Fr} {d : Nat} {K : Fr → World → Prop}
theorem Run.addS {t t' : TypeId} {x y : Operand} {a b : ByteArray} (ho : o.op = .binOp .add t x y t') (hx : ev f x = some (.string a)) (hy : ev f y = some (.string b)) (hb : a.size + b.size ≤ 9223372036854775807) : Run P o f w (.value (.string (a ++ b))) w := fun ρ hρ => by
 have h : ¬ (((a.size + b.size : Nat) : Int) > IntKind.i64.max) := by
  have e : IntKind.i64.max = 9223372036854775807 := rfl
  rw [e]; omega
 simp only [Int.natCast_add] at h
 simp [execOp, ho, hρ _ _ hx, hρ _ _ hy, eqGuard, binOp, Op.stringOp, h]
 omega
end
theorem k6_ (n : Int) (w : World) :
    Calls Tryd.prog 44 #[i64 n] w fun e w' => e = .returned (.bool (isNumB n)) ∧ St w [] [] w' := by
 refine enter 5 Tryd.func44 rfl Tryd.ntmps44 rfl rfl ?_
 have hs1 := St.init w
 refine WC.r1 hs1 [] rfl (WC.sr (WL.r 1 hs1 [] rfl (WL.cl Tryd.call23 rfl (k2_ _ _ _ _) ?_)))
 rintro _ whs2 ⟨rfl, hs2⟩
 replace hs2 := hs1.call0 hs2
 refine ⟨_, rfl, WL.r 1 hs2 [] rfl (WL.nil (WC.ret (rtv rfl rfl hs2 ?_)))⟩
 simp [isNumB, within]
theorem k7_ (n : Int) (w : World) :
    Calls Tryd.prog 51 #[i64 n] w fun e w' => e = .returned (.bool (isNumB n)) ∧ St w [] [] w' := by
 refine enter 9 Tryd.func51 rfl Tryd.ntmps51 rfl rfl ?_
 have hs1 := St.init w
 refine WC.r1 hs1 [] rfl (WC.sr (WL.r 3 hs1 [] rfl (WL.pA tbk 2 Acts.nil hs1 [] rfl rfl rfl rfl (fun g_ => trivial) (WL.r 1 hs1 [] rfl (WL.nil (WC.ret (retV1 rfl (resV.tmp rfl) ?_)))))))
 refine ⟨congrArg Ending.returned ?_, hs1.nil⟩
 simp [isNumB]
theorem k8_ (n : Int) (w : World) (ht : TabOk w) :
    Calls Tryd.prog 24 #[i64 n] w fun e w' => e = .returned (.string (numBA n)) ∧ St w [] [] w' := by
 refine enter 8 Tryd.func24 rfl Tryd.ntmps24 rfl rfl ?_
 have hs1 := St.init w
 refine WC.r1 hs1 [] rfl (WC.seq (fun K2 hK2 => WC.sr (WL.r 1 hs1 [] rfl (WL.cl Tryd.call44 rfl (k6_ _ _) ?_))))
 rintro _ whs3 ⟨rfl, hs3⟩
 replace hs3 := hs1.call0 hs3
 refine ⟨_, rfl, WL.r 1 hs3 [] rfl (WL.nil (WC.cq rfl (fun h4 qh4 => ?_) (fun h4 qh4 => ?_)))⟩
 ·have hn : ¬ (0 ≤ n ∧ n ≤ 4294967295) := by have h9 := h4; simp [isNumB] at h9; omega
  refine WC.r1 hs3 [] rfl (WC.ret (tkR ?_))
  clear hK2
  refine rtv rfl rfl hs3 ?_
  unfold numBA numT; rw [if_neg hn]
 have hn : 0 ≤ n ∧ n ≤ 4294967295 := by have h9 := h4; simp [isNumB] at h9; omega
 refine WC.skip (hK2 _ _ (WC.sr (WL.r 1 hs3 [] rfl ?_)))
 refine WL.cl Tryd.call45 rfl (k0_ _ _ ?_ ?_) ?_
 · first | omega | assumption | exact tab_st ht (by assumption)
 · first | assumption | omega | exact tab_st ht (by assumption)
 rintro _ whs5 ⟨rfl, hs5⟩
 replace hs5 := hs3.call0 hs5
 refine ⟨_, rfl, WL.r 1 hs5 [] rfl (WL.nil (WC.ret (rtv rfl rfl hs5 ?_)))⟩
 rfl
theorem k9_ (m_ : Nat) : ∀ (n : Int) (w : World) (hm_ : n.toNat = m_), Calls Tryd.prog 29 #[i64 n] w fun e w' => e = .returned (.string (numBA n)) ∧ St w [] [] w' := by
 induction m_ using Nat.strongRecOn with
 | ind m_ IH =>
  intro n w hm_
  refine enter 23 Tryd.func29 rfl Tryd.ntmps29 rfl rfl ?_
  have hs1 := St.init w
  refine WC.r1 hs1 [] rfl (WC.seq (fun K2 hK2 => WC.sr (WL.r 1 hs1 [] rfl (WL.cl Tryd.call51 rfl (k7_ _ _) ?_))))
  rintro _ whs3 ⟨rfl, hs3⟩
  replace hs3 := hs1.call0 hs3
  refine ⟨_, rfl, WL.r 1 hs3 [] rfl (WL.nil (WC.cq rfl (fun h4 qh4 => ?_) (fun h4 qh4 => ?_)))⟩
  ·have hn : ¬ (0 ≤ n ∧ n ≤ 4294967295) := by have h9 := h4; simp [isNumB] at h9; omega
   refine WC.r1 hs3 [] rfl (WC.ret (tkR ?_))
   clear hK2
   refine rtv rfl rfl hs3 ?_
   unfold numBA numT; rw [if_neg hn]
  have hn : 0 ≤ n ∧ n ≤ 4294967295 := by have h9 := h4; simp [isNumB] at h9; omega
  refine WC.skip (hK2 _ _ (WC.seq (fun K5 hK5 => WC.r1 hs3 [] rfl ?_)))
  refine WC.cq rfl (fun h6 qh6 => ?_) (fun h6 qh6 => ?_)
  ·have hs : n < 10 := by have h9 := h6; simpa using h9
   refine WC.sr (WL.r 3 hs3 [] rfl (WL.buildF (F := encB) hs3 ([ub (48 + n)]) Tryd.runUnderlying22 Tryd.sizeOf5 Tryd.zeroValue5 rfl rfl rfl rfl rfl rfl rfl rfl rfl rfl rfl rfl (fun A10 c11 L7 whs8 hs8 ho9 => WL.val rfl rfl rfl (Run.strOf (SlF.ofOwn ho9 (hs8.ow L7)) Tryd.underlying22 Tryd.underlying5 Tryd.underlying9 rfl rfl) (WL.r 1 hs8 [] rfl (WL.nil (WC.ret (tkR ?_)))))))
   clear hK5
   refine rtv rfl rfl hs8 ?_
   unfold numBA; rw [numT_small (by omega)]
  have hs : ¬ n < 10 := by have h9 := h6; simpa using h9
  refine WC.skip (hK5 _ _ (WC.seq (fun K12 hK12 => WC.rH hs3 hs3 (fun _ hs13 => ?_))))
  refine WH.rn [0] hs13 [] rfl rfl ?_
  refine WH.take 1 rfl (by kernel_rfl) rfl rfl rfl hs13 (fun w_ hs_ => (Run.quo rfl rfl rfl ?_ ?_ ?_)) ?_
  · omega
  · omega
  · omega
  refine WH.rn [3] hs13 [] rfl rfl ?_
  refine WH.take 4 rfl (by kernel_rfl) rfl rfl rfl hs13 (fun w_ hs_ => (Run.rem rfl rfl rfl ?_ ?_)) ?_
  · omega
  · omega
  refine WH.rn [5, 6] hs13 [] rfl rfl (WH.all [2, 7] (by kernel_rfl) rfl (WHs.cons (i := 2) rfl ?_ (WHs.cons (i := 7) rfl ?_ WHs.nil)))
  ·refine WL.cl Tryd.call29 rfl (IH _ ?_ _ _ rfl) ?_
   · (rw [← hm_]; omega)
   rintro _ whs14 ⟨rfl, hs14⟩
   replace hs14 := hs13.call0 hs14
   refine ⟨_, rfl, WL.nil ⟨hs14, ?_⟩⟩
   refine WH.strS hs14 (fun w_ h_ => h_) ?_
   refine WH.o1 7 rfl (WL.buildSlice hs14 Tryd.runUnderlying22 Tryd.sizeOf5 Tryd.zeroValue5 rfl rfl rfl rfl rfl rfl rfl rfl rfl rfl (fun b15 whs16 hs16 => WL.nil ⟨hs16.d1, ?_⟩))
   refine WH.strS hs16 (fun w_ h_ => h_.d1) ?_
   refine WH.take 8 rfl (by kernel_rfl) rfl rfl rfl hs16 (fun w_ hs_ => (Run.strOf (SlF.own1 ((hs_ : St _ _ _ _).own _ (nthL_mem (i := 0) rfl)).1) Tryd.underlying22 Tryd.underlying5 Tryd.underlying9 rfl rfl)) ?_
   refine WH.take 9 rfl (by kernel_rfl) rfl rfl rfl hs16 (fun w_ hs_ => (Run.addS rfl rfl rfl ?_)) ?_
   · (have h9 := numT_len (n := n / 10); simp [numBA, ByteArray.size]; omega)
   refine WH.rn [10] hs16 [] rfl rfl (WH.dn (hK12 _ _ (WC.ret (rtv rfl rfl hs16 ?_))))
   refine congrArg Value.string ?_; unfold numBA; rw [numT_big (n := n) (by omega)]; refine ByteArray.ext ?_; simp
  refine WL.buildSlice hs13 Tryd.runUnderlying22 Tryd.sizeOf5 Tryd.zeroValue5 rfl rfl rfl rfl rfl rfl rfl rfl rfl rfl (fun b17 whs18 hs18 => WL.nil ⟨hs18.d1, ?_⟩)
  refine WH.strS hs18 (fun w_ h_ => h_.d1) ?_
  refine WH.take 8 rfl (by kernel_rfl) rfl rfl rfl hs18 (fun w_ hs_ => (Run.strOf (SlF.own1 ((hs_ : St _ _ _ _).own _ (nthL_mem (i := 0) rfl)).1) Tryd.underlying22 Tryd.underlying5 Tryd.underlying9 rfl rfl)) ?_
  refine WH.o1 2 rfl (WL.cl Tryd.call29 rfl (IH _ ?_ _ _ rfl) ?_)
  · (rw [← hm_]; omega)
  rintro _ whs19 ⟨rfl, hs19⟩
  replace hs19 := hs18.call0 hs19
  refine ⟨_, rfl, WL.nil ⟨hs19, ?_⟩⟩
  refine WH.strS hs19 (fun w_ h_ => h_) ?_
  refine WH.take 9 rfl (by kernel_rfl) rfl rfl rfl hs19 (fun w_ hs_ => (Run.addS rfl rfl rfl ?_)) ?_
  · (have h9 := numT_len (n := n / 10); simp [numBA, ByteArray.size]; omega)
  refine WH.rn [10] hs19 [] rfl rfl (WH.dn (hK12 _ _ (WC.ret (rtv rfl rfl hs19 ?_))))
  refine congrArg Value.string ?_; unfold numBA; rw [numT_big (n := n) (by omega)]; refine ByteArray.ext ?_; simp
theorem k10_ (n : Int) (w : World) :
    Calls Tryd.prog 29 #[i64 n] w fun e w' => e = .returned (.string (numBA n)) ∧ St w [] [] w' := k9_ _ n w rfl
set_option maxHeartbeats 4000000 in
theorem k11_ (a : ActR) (left : Int) (w : World) (f_a : okActR 9223372036854775807 w a) (h1 : 0 ≤ left) (h2 : left ≤ 1048576) :
    Calls Tryd.prog 11 #[.agg #[i64 a.Kind, i64 a.R, .bool a.Mark, .slice a.Args.A a.Args.n a.Args.c], i64 left] w fun e w' => e = .returned (.int .i64 (szR left (totAct a.dat))) ∧ St w [] [] w' := by
 have nb_a_Args := f_a.Args_n
 have nl_a_Args := f_a.Args.len
 refine enter 12 Tryd.func11 rfl Tryd.ntmps11 rfl rfl ?_
 have hs1 := St.init w
 refine WC.sr (WL.bx hs1 rfl (fun b2 _ hs3 => WL.r 1 hs3 [] rfl (WL.nil (WC.sr (WL.r 3 hs3 [0] rfl ?_)))))
 refine WL.cl Tryd.call27 rfl (k4_ _ _ _ _ _ _ (SlF.st0 f_a.Args hs3) ?_ ?_ ?_) ?_
 · first | assumption | omega
 · first | assumption | omega | exact szR_b (by assumption) (by omega) (by first | assumption | omega)
 · first | assumption | omega
 rintro _ whs4 ⟨rfl, hs4⟩
 replace hs4 := hs3.call0 hs4
 refine ⟨_, rfl, WL.r 1 hs4 [] rfl (WL.nil (WC.seq (fun K5 hK5 => WC.r1 hs4 [] rfl ?_)))⟩
 refine WC.cD rfl (fun qh6 => ?_) (fun qh6 => ?_)
 ·try have soh6 := szR_ok qh6 (by omega)
  try have sbh6 := szR_b qh6 (by omega) (by first | assumption | omega)
  try have snh6 := szR_no qh6
  refine WC.r1 hs4 [] rfl (WC.ret (tkR ?_))
  clear hK5
  refine rtv rfl rfl hs4 ?_
  simp only [totAct, ActR.dat] at *; first | (rw [szR_lt (by omega)]; done) | (refine congrArg (Value.int _) ?_; symm; refine (szR_le ?_).trans ?_ <;> omega) | rfl
 try have soh6 := szR_ok qh6 (by omega)
 try have sbh6 := szR_b qh6 (by omega) (by first | assumption | omega)
 try have snh6 := szR_no qh6
 refine WC.skip (hK5 _ _ (WC.r1 hs4 [] rfl (WC.ret (rtv rfl rfl hs4 ?_))))
 simp only [totAct, ActR.dat] at *; first | (rw [szR_lt (by omega)]; done) | (refine congrArg (Value.int _) ?_; symm; refine (szR_le ?_).trans ?_ <;> omega) | rfl
set_option maxHeartbeats 4000000 in
theorem k12_ (a : ActR) (w : World) (f_a : okActR 549755813888 w a) :
    Calls Tryd.prog 13 #[.agg #[i64 a.Kind, i64 a.R, .bool a.Mark, .slice a.Args.A a.Args.n a.Args.c]] w fun e w' => ∃ r L1, e = .returned (.agg #[i64 r.Kind, i64 r.R, .bool r.Mark, .slice r.Args.A r.Args.n r.Args.c]) ∧ St w [] L1 w' ∧ ownActR r L1 ∧ r.dat = a.dat := by
 have nb_a_Args := f_a.Args_n
 have nl_a_Args := f_a.Args.len
 refine enter 18 Tryd.func13 rfl Tryd.ntmps13 rfl rfl ?_
 have hs1 := St.init w
 refine WC.sr (WL.bx hs1 rfl (fun b2 _ hs3 => WL.al hs3 Tryd.zeroValue33 rfl rfl (fun b4 _ hs5 => WL.nil (WC.sr (WL.al hs5 Tryd.zeroValue33 rfl rfl (fun b6 _ hs7 => WL.nil (WC.sr ?_)))))))
 refine WL.r 3 hs7 [2] rfl (WL.st tbk hs7 0 rfl rfl (fun _ hs8 => WL.nil (WC.sr (WL.r 3 hs8 [2] rfl (WL.st tbk hs8 0 rfl rfl (fun _ hs9 => WL.nil (WC.sr ?_)))))))
 refine WL.r 3 hs9 [2] rfl (WL.st tbk hs9 0 rfl rfl (fun _ hs10 => WL.nil (WC.sr (WL.r 2 hs10 [2] rfl ?_))))
 refine WL.cl Tryd.call31 rfl (k5_ _ _ _ _ _ (SlF.st0 f_a.Args hs10) ?_) ?_
 · first | assumption | rfl | omega
 rintro _ whs11 ⟨A12, c13, L1_14, rfl, hs11, ho15⟩
 replace hs11 := hs10.callF hs11
 refine ⟨_, rfl, ?_⟩
 replace hs11 := St.back [_, _, _] hs11
 refine WL.r 1 hs11 [] rfl (WL.st tbk hs11 0 rfl rfl (fun _ hs16 => WL.nil (WC.sr (WL.r 1 hs16 [0] rfl (WL.st tbk hs16 1 rfl rfl (fun _ hs17 => WL.nil (WC.ret ?_)))))))
 refine retV1 rfl (resV.cellA tbk hs17 1 rfl rfl rfl rfl) (⟨⟨a.Kind, a.R, a.Mark, SlD.of ho15⟩, _, rfl, (St.keep1 (hs17.fr L1_14)), ?_, ?_⟩)
 · exact ho15
 · exact ActD.ext' rfl rfl rfl rfl
set_option maxHeartbeats 4000000 in
theorem k13_ (a : ActR) (b : ActR) (w : World) (f_a : okActR 549755813888 w a) (f_b : okActR 549755813888 w b) (hab : a.dat = b.dat) :
    Calls Tryd.prog 14 #[.agg #[i64 a.Kind, i64 a.R, .bool a.Mark, .slice a.Args.A a.Args.n a.Args.c], .agg #[i64 b.Kind, i64 b.R, .bool b.Mark, .slice b.Args.A b.Args.n b.Args.c]] w fun e w' => e = .returned (.bool true) ∧ St w [] [] w' := by
 have nb_a_Args := f_a.Args_n
 have nl_a_Args := f_a.Args.len
 have nb_b_Args := f_b.Args_n
 have nl_b_Args := f_b.Args.len
 have e_Kind : a.Kind = b.Kind := congrArg (fun d : ActD => d.Kind) hab
 have e_R : a.R = b.R := congrArg (fun d : ActD => d.R) hab
 have e_Mark : a.Mark = b.Mark := congrArg (fun d : ActD => d.Mark) hab
 have e_Args : a.Args.xs = b.Args.xs := congrArg (fun d : ActD => d.Args) hab
 refine enter 26 Tryd.func14 rfl Tryd.ntmps14 rfl rfl ?_
 have hs1 := St.init w
 refine WC.sr (WL.bx hs1 rfl (fun b2 _ hs3 => WL.bx hs3 rfl (fun b4 _ hs5 => WL.r 1 hs5 [] rfl (WL.nil (WC.seq (fun K6 hK6 => WC.r1 hs5 [1, 0] rfl (WC.condF rfl (by simp [e_Kind, e_R, e_Mark]) ?_)))))))
 refine WC.skip (hK6 _ _ (WC.seq (fun K8 hK8 => WC.r1 hs5 [1, 0] rfl (WC.condF rfl (by simp [e_Kind, e_R, e_Mark]) (WC.skip (hK8 _ _ (WC.seq (fun K10 hK10 => ?_))))))))
 refine WC.r1 hs5 [1, 0] rfl (WC.condF rfl (by simp [e_Kind, e_R, e_Mark]) (WC.skip (hK10 _ _ (WC.seq (fun K12 hK12 => WC.sr (WL.r 4 hs5 [1, 0] rfl ?_))))))
 refine WL.cl Tryd.call32 rfl (k3_ _ _ _ _ _ _ _ _ _ (SlF.st0 f_a.Args hs5) (SlF.st0 f_b.Args hs5) ?_ ?_) ?_
 iterate 2 first | assumption | rfl | omega
 rintro _ whs13 ⟨rfl, hs13⟩
 replace hs13 := hs5.call0 hs13
 refine ⟨_, rfl, WL.r 1 hs13 [] rfl (WL.nil (WC.condF rfl (by simp [e_Kind, e_R, e_Mark]) (WC.skip (hK12 _ _ (WC.r1 hs13 [] rfl (WC.ret ?_))))))⟩
 refine rtv rfl rfl hs13 ?_
 rfl
theorem k14_ (n : Int) (w : World) :
    Calls Tryd.prog 38 #[i64 n] w fun e w' => e = .returned (.bool (shows n)) ∧ St w [] [] w' := by
 refine enter 14 Tryd.func38 rfl Tryd.ntmps38 rfl rfl ?_
 have hs1 := St.init w
 refine WC.r1 hs1 [] rfl (WC.sr (WL.r 1 hs1 [] rfl (WL.cl Tryd.call23 rfl (k2_ _ _ _ _) ?_)))
 rintro _ whs2 ⟨rfl, hs2⟩
 replace hs2 := hs1.call0 hs2
 refine ⟨_, rfl, WL.r 1 hs2 [] rfl ?_⟩
 apply WL.gO 7 Acts.nil hs2 rfl
 ·intro g3 J4
  have qg3 := g3
  try simp only [bf, within_iff, within_not] at qg3
  refine WL.runA tbk 1 (Acts.nil.cons (j := 2) rfl g3) hs2 [] rfl trivial (WL.call (wantF rfl g3) rfl rfl (Run.call Tryd.call23 rfl rfl rfl) (k2_ _ _ _ _) ?_)
  rintro _ whs5 ⟨rfl, hs5⟩
  replace hs5 := hs2.call0 hs5
  refine ⟨_, rfl, WL.runA tbk 1 (Acts.nil.cons (j := 2) rfl g3) hs5 [] rfl trivial ?_⟩
  apply WL.gA 3 (Acts.nil.cons (j := 2) rfl g3) hs5 rfl
  ·intro g6 J7
   have qg6 := g6
   try simp only [bf, within_iff, within_not] at qg6
   refine WL.runA tbk 1 (Acts.nil.cons (j := 5) rfl g6) hs5 [] rfl trivial (WL.call (wantT rfl g6) rfl rfl (Run.call Tryd.call23 rfl rfl rfl) (k2_ _ _ _ _) ?_)
   rintro _ whs8 ⟨rfl, hs8⟩
   replace hs8 := hs5.call0 hs8
   refine ⟨_, rfl, WL.runA tbk 1 (Acts.nil.cons (j := 5) rfl g6) hs8 [] rfl trivial (WL.eA 3 (Acts.nil.cons (j := 2) rfl g3) J7 hs8 g6 rfl rfl)⟩
  intro _ hs9
  exact WL.eO 4 Acts.nil J4 hs9 g3 rfl rfl
 intro _ hs10
 refine WL.r 1 hs10 [] rfl (WL.nil (WC.ret (rtv rfl rfl hs10 ?_)))
 rfl
theorem k15_ (n : Int) (w : World) :
    Calls Tryd.prog 50 #[i64 n] w fun e w' => e = .returned (.bool (shows n)) ∧ St w [] [] w' := by
 refine enter 25 Tryd.func50 rfl Tryd.ntmps50 rfl rfl ?_
 have hs1 := St.init w
 refine WC.r1 hs1 [] rfl (WC.sr (WL.r 3 hs1 [] rfl (WL.pA tbk 2 Acts.nil hs1 [] rfl rfl rfl rfl (fun g_ => trivial) (WL.r 1 hs1 [] rfl ?_))))
 apply WL.gO 14 Acts.nil hs1 rfl
 ·intro g2 J3
  have qg2 := g2
  try simp only [bf, within_iff, within_not] at qg2
  refine WL.runA tbk 3 (Acts.nil.cons (j := 6) rfl g2) hs1 [] rfl trivial (WL.pA tbk 2 (Acts.nil.cons (j := 6) rfl g2) hs1 [] rfl rfl rfl rfl (fun g_ => trivial) (WL.runA tbk 1 (Acts.nil.cons (j := 6) rfl g2) hs1 [] rfl trivial ?_))
  apply WL.gA 6 (Acts.nil.cons (j := 6) rfl g2) hs1 rfl
  ·intro g4 J5
   have qg4 := g4
   try simp only [bf, within_iff, within_not] at qg4
   refine WL.runA tbk 3 (Acts.nil.cons (j := 13) rfl g4) hs1 [] rfl trivial (WL.pO tbk 2 (Acts.nil.cons (j := 13) rfl g4) hs1 [] rfl rfl rfl rfl (fun g_ => trivial) (WL.eA 4 (Acts.nil.cons (j := 6) rfl g2) J5 hs1 g4 rfl rfl))
  intro _ hs6
  exact WL.eO 6 Acts.nil J3 hs6 g2 rfl rfl
 intro _ hs7
 refine WL.r 1 hs7 [] rfl (WL.nil (WC.ret (rtv rfl rfl hs7 ?_)))
 refine congrArg Value.bool ?_; rw [Bool.eq_iff_iff]; simp [shows, within] <;> omega
theorem inf5 : Tryd.prog.info? 5 = some Tryd.t5 := by kernel_rfl
theorem k16_ (A_b : Option Addr) (n_b c_b : Nat) (b : List UInt8) (w : World) (f_b : SlF encB w A_b n_b b) (hn : n_b ≤ 2) :
    Calls Tryd.prog 37 #[.slice A_b n_b c_b] w fun e w' => e = .returned (.tuple #[.int .i64 (tlV b : Nat), .bool (tlOk b)]) ∧ St w [] [] w' := by
 have hbl := f_b.len
 refine enter 24 Tryd.func37 rfl Tryd.ntmps37 rfl rfl ?_
 have hs1 := St.init w
 refine WC.r1 hs1 [] rfl (WC.r1 hs1 [] rfl (WC.seq (fun K2 hK2 => WC.r1 hs1 [] rfl (WC.block ?_))))
 refine WC.lS [7, 8] rfl hs1 (fun k_ f w' => ∃ (i : Nat), k_ = n_b - i ∧ (i ≤ n_b) ∧ (tlOk (b.take i) = true) ∧ Sub [(9, .int .i64 i), (4, .int .i64 (tlN (b.take i) : Nat))] f) ((fun (i : Nat) => n_b - i) (0)) ?_ ?_
 ·refine ⟨0, rfl, ?_, ?_, ⟨rfl, ?_, trivial⟩⟩
  · exact Nat.zero_le _
  · rfl
  · rfl
 clear hs1
 rintro _ f w ⟨i, rfl, p0, p1, hG⟩ hF hs3
 refine WC.sub _ (hG.app hF) ?_
 clear hG hF
 have hb_ := tlN_bnd (l := b.take i) (by rw [List.length_take]; omega)
 simp only [List.length_take] at hb_
 refine WC.r1 hs3 [] rfl (WC.seq (fun K4 hK4 => ?_))
 refine WC.cD rfl (fun qh5 => ?_) (fun qh5 => ?_)
 ·refine WC.skip (hK4 _ _ (WC.seq (fun K6 hK6 => WC.block (WC.sr ?_))))
  refine WL.val rfl rfl rfl (Run.idxN Tryd.runUnderlying22 Tryd.sizeOf5 rfl rfl rfl ?_ ?_ ?_) ?_
  · exact SlF.some_ (SlF.st0 f_b hs3)
  · omega
  · omega
  refine WL.val rfl rfl rfl (Run.load Tryd.isAgg5 rfl rfl (SlF.one1 (SlF.st0 f_b hs3) ?_ rfl)) ?_
  · omega
  refine WL.r 1 hs3 [] rfl (WL.nil (WC.seq (fun K7 hK7 => WC.sr (WL.r 1 hs3 [] rfl ?_))))
  refine WL.val rfl rfl rfl (Run.quoB 64 rfl rfl rfl ?_ ?_) ?_
  · decide
  · decide
  refine WL.r 1 hs3 [] rfl (WL.nil (WC.cN rfl (fun qh8 => ?_) (fun qh8 => ?_)))
  ·refine WC.r1 hs3 [] rfl (WC.ret (tkR (ibR (tkR (tkR (ibR (tkR ?_)))))))
   clear hK7 hK6 hK2
   refine retV2 rfl (resV.tmp rfl) (resV.tmp rfl) (⟨congrArg Ending.returned ?_, hs3.nil⟩)
   simp only [u8_div] at qh8
   have hbad := tlOk_bad (l := b) (i := i) (by omega) (by omega)
   rw [hbad, show tlV b = 0 from if_neg (by rw [hbad]; decide)]; rfl
  refine WC.skip (hK7 _ _ (WC.region (WL.r 3 hs3 [] rfl ?_)))
  refine WL.val rfl rfl rfl (Run.remB 64 rfl rfl rfl ?_ ?_) ?_
  · decide
  · decide
  refine WL.run tbk 3 hs3 [] rfl ⟨?_, (u8_in _), trivial⟩ ?_
  · rw [u8_mod]; constructor <;> omega
  refine WL.nil (hK6 _ _ (WC.region (WL.r 2 hs3 [] rfl (WL.nil (tkN ?_)))))
  refine ⟨sbF rfl, hs3, _, ?_, i + 1, rfl, ?_, ?_, ⟨rfl, ?_, trivial⟩⟩
  · omega
  · omega
  · simp only [u8_div] at qh8; rw [tlOk_take (by omega), p1, Bool.true_and, decide_eq_true_eq]; omega
  · refine congrArg some (congrArg (Value.int _) ?_); rw [tlN_take (by omega), u8_mod]; omega
 refine WC.exit (hK2 _ _ (WC.r1 hs3 [] rfl (WC.ret (retV2 rfl (resV.tmp rfl) (resV.tmp rfl) (⟨congrArg Ending.returned ?_, hs3.nil⟩)))))
 have ht : b.take i = b := List.take_of_length_le (by omega)
 rw [ht] at p1
 rw [p1, ht, show tlV b = tlN b from if_pos p1]
theorem k17_ (r : Int) (w : World) :
    Calls Tryd.prog 22 #[i64 r] w fun e w' => ∃ A c L1, e = .returned (.slice A (runeB r).length c) ∧ St w [] L1 w' ∧ OwnF encB 5 (.slice A (runeB r).length c) (runeB r) L1 := by
 refine enter 39 Tryd.func22 rfl Tryd.ntmps22 rfl rfl ?_
 have hs1 := St.init w
 refine WC.r1 hs1 [] rfl (WC.seq (fun K2 hK2 => WC.block (WC.sr (WL.r 1 hs1 [] rfl (WL.cl Tryd.call38 rfl (k14_ _ _) ?_)))))
 rintro _ whs3 ⟨rfl, hs3⟩
 replace hs3 := hs1.call0 hs3
 refine ⟨_, rfl, WL.r 2 hs3 [] rfl (WL.nil (WC.cq rfl (fun h4 qh4 => ?_) (fun h4 qh4 => ?_)))⟩
 ·have hsh : shows r = false := by simpa using qh4
  refine WC.r1 hs3 [] rfl (WC.ret (ibR (tkR ?_)))
  clear hK2
  refine retV1 rfl (resV.tmp rfl) ?_
  have hx_ := OwnF.eqOf (xs := runeB r) (OwnF.nil encB 5) (by simp [runeB, hsh])
  rw [← hx_]
  exact ⟨_, _, _, rfl, hs3.nil, (OwnF.nil encB 5)⟩
 have hsh : shows r = true := by simpa using qh4
 have hsi := shows_iff.1 hsh
 refine WC.r1 hs3 [] rfl (WC.cD rfl (fun qh5 => ?_) (fun qh5 => ?_))
 ·refine WC.sr (WL.r 2 hs3 [] rfl (WL.buildF (F := encB) hs3 ([ub r]) Tryd.runUnderlying22 Tryd.sizeOf5 Tryd.zeroValue5 rfl rfl rfl rfl rfl rfl rfl rfl rfl rfl rfl rfl (fun A9 c10 L6 whs7 hs7 ho8 => WL.r 1 hs7 [] rfl (WL.nil (WC.ret (ibR (tkR ?_)))))))
  clear hK2
  refine retV1 rfl (resV.tmp rfl) ?_
  have hx_ := OwnF.eqOf (xs := runeB r) ho8 (by unfold runeB; rw [hsh, if_neg (by decide), if_pos (by omega)])
  rw [← hx_]
  first | exact ⟨_, _, _, rfl, (St.keep1 hs7), ho8⟩ | exact ⟨A9, c10, _, by rw [OwnF.len_ ho8], (St.keep1 hs7), by rw [OwnF.len_ ho8]; exact ho8⟩
 refine WC.r1 hs3 [] rfl (WC.cD rfl (fun qh11 => ?_) (fun qh11 => ?_))
 ·refine WC.sr (WL.r 1 hs3 [] rfl (WL.val rfl rfl rfl (Run.quo rfl rfl rfl ?_ ?_ ?_) ?_))
  · omega
  · omega
  · omega
  refine WL.r 3 hs3 [] rfl (WL.val rfl rfl rfl (Run.rem rfl rfl rfl ?_ ?_) ?_)
  · omega
  · omega
  refine WL.r 2 hs3 [] rfl (WL.buildF (F := encB) hs3 ([ub (192 + r / 64), ub (128 + r % 64)]) Tryd.runUnderlying22 Tryd.sizeOf5 Tryd.zeroValue5 rfl rfl rfl rfl rfl rfl rfl rfl rfl rfl rfl rfl (fun A15 c16 L12 whs13 hs13 ho14 => WL.r 1 hs13 [] rfl (WL.nil (WC.ret (ibR (tkR ?_))))))
  clear hK2
  refine retV1 rfl (resV.tmp rfl) ?_
  have hx_ := OwnF.eqOf (xs := runeB r) ho14 (by unfold runeB; rw [hsh, if_neg (by decide), if_neg (by omega), if_pos (by omega)])
  rw [← hx_]
  first | exact ⟨_, _, _, rfl, (St.keep1 hs13), ho14⟩ | exact ⟨A15, c16, _, by rw [OwnF.len_ ho14], (St.keep1 hs13), by rw [OwnF.len_ ho14]; exact ho14⟩
 refine WC.skip (hK2 _ _ (WC.sr (WL.r 1 hs3 [] rfl ?_)))
 refine WL.val rfl rfl rfl (Run.quo rfl rfl rfl ?_ ?_ ?_) ?_
 · omega
 · omega
 · omega
 refine WL.r 3 hs3 [] rfl (WL.val rfl rfl rfl (Run.quo rfl rfl rfl ?_ ?_ ?_) ?_)
 · omega
 · omega
 · omega
 refine WL.val rfl rfl rfl (Run.rem rfl rfl rfl ?_ ?_) ?_
 · omega
 · omega
 refine WL.r 3 hs3 [] rfl (WL.val rfl rfl rfl (Run.rem rfl rfl rfl ?_ ?_) ?_)
 · omega
 · omega
 refine WL.r 2 hs3 [] rfl (WL.buildF (F := encB) hs3 ([ub (224 + r / 4096), ub (128 + r / 64 % 64), ub (128 + r % 64)]) Tryd.runUnderlying22 Tryd.sizeOf5 Tryd.zeroValue5 rfl rfl rfl rfl rfl rfl rfl rfl rfl rfl rfl rfl (fun A20 c21 L17 whs18 hs18 ho19 => WL.r 1 hs18 [] rfl (WL.nil (WC.ret (retV1 rfl (resV.tmp rfl) ?_)))))
 have hx_ := OwnF.eqOf (xs := runeB r) ho19 (by unfold runeB; rw [hsh, if_neg (by decide), if_neg (by omega), if_neg (by omega)])
 rw [← hx_]
 first | exact ⟨_, _, _, rfl, (St.keep1 hs18), ho19⟩ | exact ⟨A20, c21, _, by rw [OwnF.len_ ho19], (St.keep1 hs18), by rw [OwnF.len_ ho19]; exact ho19⟩
theorem k18_ (r : Int) (w : World) :
    Calls Tryd.prog 28 #[i64 r] w fun e w' => ∃ A c L1, e = .returned (.slice A (runeB r).length c) ∧ St w [] L1 w' ∧ OwnF encB 5 (.slice A (runeB r).length c) (runeB r) L1 := by
 refine enter 36 Tryd.func28 rfl Tryd.ntmps28 rfl rfl ?_
 have hs1 := St.init w
 refine WC.r1 hs1 [] rfl (WC.seq (fun K2 hK2 => WC.sr (WL.r 1 hs1 [] rfl (WL.cl Tryd.call50 rfl (k15_ _ _) ?_))))
 rintro _ whs3 ⟨rfl, hs3⟩
 replace hs3 := hs1.call0 hs3
 refine ⟨_, rfl, WL.r 1 hs3 [] rfl (WL.nil (WC.cq rfl (fun h4 qh4 => ?_) (fun h4 qh4 => ?_)))⟩
 ·have hsh : shows r = false := by simpa using qh4
  refine WC.r1 hs3 [] rfl (WC.ret (tkR ?_))
  clear hK2
  refine retV1 rfl (resV.tmp rfl) ?_
  have hx_ := OwnF.eqOf (xs := runeB r) (OwnF.nil encB 5) (by simp [runeB, hsh])
  rw [← hx_]
  exact ⟨_, _, _, rfl, hs3.nil, (OwnF.nil encB 5)⟩
 have hsh : shows r = true := by simpa using qh4
 have hsi := shows_iff.1 hsh
 refine WC.skip (hK2 _ _ (WC.seq (fun K5 hK5 => WC.r1 hs3 [] rfl ?_)))
 refine WC.cD rfl (fun qh6 => ?_) (fun qh6 => ?_)
 ·refine WC.sr (WL.r 2 hs3 [] rfl (WL.buildF (F := encB) hs3 ([ub r]) Tryd.runUnderlying22 Tryd.sizeOf5 Tryd.zeroValue5 rfl rfl rfl rfl rfl rfl rfl rfl rfl rfl rfl rfl (fun A10 c11 L7 whs8 hs8 ho9 => WL.r 1 hs8 [] rfl (WL.nil (WC.ret (tkR ?_))))))
  clear hK5
  refine retV1 rfl (resV.tmp rfl) ?_
  have hx_ := OwnF.eqOf (xs := runeB r) ho9 (by unfold runeB; rw [hsh, if_neg (by decide), if_pos (by omega)])
  rw [← hx_]
  first | exact ⟨_, _, _, rfl, (St.keep1 hs8), ho9⟩ | exact ⟨A10, c11, _, by rw [OwnF.len_ ho9], (St.keep1 hs8), by rw [OwnF.len_ ho9]; exact ho9⟩
 refine WC.skip (hK5 _ _ (WC.seq (fun K12 hK12 => WC.r1 hs3 [] rfl ?_)))
 refine WC.cD rfl (fun qh13 => ?_) (fun qh13 => ?_)
 ·refine WC.sr (WL.r 1 hs3 [] rfl (WL.val rfl rfl rfl (Run.quo rfl rfl rfl ?_ ?_ ?_) ?_))
  · omega
  · omega
  · omega
  refine WL.r 3 hs3 [] rfl (WL.val rfl rfl rfl (Run.rem rfl rfl rfl ?_ ?_) ?_)
  · omega
  · omega
  refine WL.r 2 hs3 [] rfl (WL.buildF (F := encB) hs3 ([ub (192 + r / 64), ub (128 + r % 64)]) Tryd.runUnderlying22 Tryd.sizeOf5 Tryd.zeroValue5 rfl rfl rfl rfl rfl rfl rfl rfl rfl rfl rfl rfl (fun A17 c18 L14 whs15 hs15 ho16 => WL.r 1 hs15 [] rfl (WL.nil (WC.ret (tkR ?_)))))
  clear hK12
  refine retV1 rfl (resV.tmp rfl) ?_
  have hx_ := OwnF.eqOf (xs := runeB r) ho16 (by unfold runeB; rw [hsh, if_neg (by decide), if_neg (by omega), if_pos (by omega)])
  rw [← hx_]
  first | exact ⟨_, _, _, rfl, (St.keep1 hs15), ho16⟩ | exact ⟨A17, c18, _, by rw [OwnF.len_ ho16], (St.keep1 hs15), by rw [OwnF.len_ ho16]; exact ho16⟩
 refine WC.skip (hK12 _ _ (WC.sr (WL.r 1 hs3 [] rfl ?_)))
 refine WL.val rfl rfl rfl (Run.quo rfl rfl rfl ?_ ?_ ?_) ?_
 · omega
 · omega
 · omega
 refine WL.r 3 hs3 [] rfl (WL.val rfl rfl rfl (Run.quo rfl rfl rfl ?_ ?_ ?_) ?_)
 · omega
 · omega
 · omega
 refine WL.val rfl rfl rfl (Run.rem rfl rfl rfl ?_ ?_) ?_
 · omega
 · omega
 refine WL.r 3 hs3 [] rfl (WL.val rfl rfl rfl (Run.rem rfl rfl rfl ?_ ?_) ?_)
 · omega
 · omega
 refine WL.r 2 hs3 [] rfl (WL.buildF (F := encB) hs3 ([ub (224 + r / 4096), ub (128 + r / 64 % 64), ub (128 + r % 64)]) Tryd.runUnderlying22 Tryd.sizeOf5 Tryd.zeroValue5 rfl rfl rfl rfl rfl rfl rfl rfl rfl rfl rfl rfl (fun A22 c23 L19 whs20 hs20 ho21 => WL.r 1 hs20 [] rfl (WL.nil (WC.ret (retV1 rfl (resV.tmp rfl) ?_)))))
 have hx_ := OwnF.eqOf (xs := runeB r) ho21 (by unfold runeB; rw [hsh, if_neg (by decide), if_neg (by omega), if_neg (by omega)])
 rw [← hx_]
 first | exact ⟨_, _, _, rfl, (St.keep1 hs20), ho21⟩ | exact ⟨A22, c23, _, by rw [OwnF.len_ ho21], (St.keep1 hs20), by rw [OwnF.len_ ho21]; exact ho21⟩
theorem k19_ (A_a : Option Addr) (n_a c_a : Nat) (a : List UInt8) (A_b : Option Addr) (n_b c_b : Nat) (b : List UInt8) (w : World) (f_a : SlF encB w A_a n_a a) (f_b : SlF encB w A_b n_b b) (hn : n_a ≤ 1099511627776) :
    Calls Tryd.prog 71 #[.slice A_a n_a c_a, .slice A_b n_b c_b] w fun e w' => e = .returned (.bool (decide (a = b))) ∧ St w [] [] w' := by
 have hla := f_a.len
 have hlb := f_b.len
 refine enter 26 Tryd.func71 rfl Tryd.ntmps71 rfl rfl ?_
 have hs1 := St.init w
 refine WC.r1 hs1 [] rfl (WC.seq (fun K2 hK2 => WC.r1 hs1 [] rfl ?_))
 refine WC.cq rfl (fun h3 qh3 => ?_) (fun h3 qh3 => ?_)
 ·refine WC.r1 hs1 [] rfl (WC.ret (tkR ?_))
  clear hK2
  refine rtv rfl rfl hs1 ?_
  refine congrArg Value.bool ?_; symm; rw [decide_eq_false_iff_not]; intro he; subst he; omega
 refine WC.skip (hK2 _ _ (WC.seq (fun K4 hK4 => WC.r1 hs1 [] rfl (WC.block ?_))))
 refine WC.lS [0, 1, 10, 12] rfl hs1 (fun k_ f w' => ∃ (i : Nat), k_ = n_a - i ∧ (i ≤ n_a) ∧ (∀ j, j < i → gat encB a j = gat encB b j) ∧ Sub [(13, .int .i64 i)] f) ((fun (i : Nat) => n_a - i) (0)) ?_ ?_
 ·refine ⟨0, rfl, ?_, ?_, ⟨rfl, trivial⟩⟩
  · exact Nat.zero_le _
  · exact fun j hj => absurd hj (by omega)
 clear hs1
 rintro _ f w ⟨i, rfl, p0, p1, hG⟩ hF hs5
 refine WC.sub _ (hG.app hF) ?_
 clear hG hF
 refine WC.r1 hs5 [] rfl (WC.seq (fun K6 hK6 => ?_))
 refine WC.cq rfl (fun h7 qh7 => ?_) (fun h7 qh7 => ?_)
 ·refine WC.skip (hK6 _ _ (WC.seq (fun K8 hK8 => WC.block (WC.r1 hs5 [] rfl (WC.sq1 hs5 (WQ.r 2 [] rfl ?_))))))
  refine WQ.val rfl rfl rfl (fun w_ hs_ => (Run.idxN Tryd.runUnderlying22 Tryd.sizeOf5 rfl rfl rfl ?_ ?_ ?_)) ?_
  · exact SlF.some_ (SlF.st0 f_a (hs_ : St _ _ _ _))
  · omega
  · omega
  refine WQ.val rfl rfl rfl (fun w_ hs_ => (Run.load Tryd.isAgg5 rfl rfl (SlF.one1 (SlF.st0 f_a (hs_ : St _ _ _ _)) ?_ rfl))) ?_
  · omega
  refine WQ.r 2 [] rfl ?_
  refine WQ.val rfl rfl rfl (fun w_ hs_ => (Run.idxN Tryd.runUnderlying22 Tryd.sizeOf5 rfl rfl rfl ?_ ?_ ?_)) ?_
  · exact SlF.some_ (SlF.st0 f_b (hs_ : St _ _ _ _))
  · omega
  · omega
  refine WQ.val rfl rfl rfl (fun w_ hs_ => (Run.load Tryd.isAgg5 rfl rfl (SlF.one1 (SlF.st0 f_b (hs_ : St _ _ _ _)) ?_ rfl))) ?_
  · omega
  refine WQ.r 1 [] rfl (WQ.nil (fun _ (hs9 : St _ _ _ _) => ?_))
  refine WC.cq rfl (fun h10 qh10 => ?_) (fun h10 qh10 => ?_)
  ·refine WC.r1 hs9 [] rfl (WC.ret (ibR (tkR (tkR (ibR (tkR ?_))))))
   clear hK8 hK4
   refine rtv rfl rfl hs9 ?_
   refine congrArg Value.bool ?_; symm; rw [decide_eq_false_iff_not]; intro he; subst he; simp at h10
  refine WC.skip (hK8 _ _ (WC.region (WL.r 2 hs9 [] rfl (WL.nil (tkN ?_)))))
  refine ⟨sbF rfl, hs9, _, ?_, i + 1, rfl, ?_, ?_, ⟨rfl, trivial⟩⟩
  · omega
  · omega
  · intro j hj; rcases Nat.lt_or_ge j i with h_ | h_
    · exact p1 j h_
    · obtain rfl : j = i := by omega
      exact u8_inj (by simpa using h10)
 refine WC.exit (hK4 _ _ (WC.r1 hs5 [] rfl (WC.ret (rtv rfl rfl hs5 ?_))))
 refine congrArg Value.bool ?_; symm; rw [decide_eq_true_eq]; exact gat_ext (F := encB) (by omega) (fun j hj => p1 j (by omega))
theorem k20_ (A_s : Option Addr) (n_s c_s : Nat) (s : List UInt8) (w : World) (f_s : SlF encB w A_s n_s s) (hn : n_s ≤ 268435456) :
    Calls Tryd.prog 53 #[.slice A_s n_s c_s] w fun e w' => ∃ A c L1, e = .returned (.slice A (s).length c) ∧ St w [] L1 w' ∧ OwnF encB 5 (.slice A (s).length c) (s) L1 := by
 have hl := f_s.len
 refine enter 8 Tryd.func53 rfl Tryd.ntmps53 rfl rfl ?_
 have hs1 := St.init w
 refine WC.r1 hs1 [] rfl (WC.seq (fun K2 hK2 => WC.sr (WL.r 1 hs1 [] rfl (WL.val rfl rfl rfl (Run.eqlNil Tryd.underlying22 rfl rfl rfl) (WL.nil ?_)))))
 refine WC.cq rfl (fun h3 qh3 => ?_) (fun h3 qh3 => ?_)
 ·obtain rfl : A_s = none := by simpa using qh3
  have h0 : n_s = 0 := SlF.none_ f_s
  have hs : s = [] := List.eq_nil_of_length_eq_zero (by omega)
  refine WC.r1 hs1 [] rfl (WC.ret (tkR ?_))
  clear hK2
  refine retV1 rfl (resV.tmp rfl) ?_
  have hx_ := OwnF.eqOf (xs := s) (OwnF.nil encB 5) (by rw [hs])
  rw [← hx_]
  exact ⟨_, _, _, rfl, hs1.nil, (OwnF.nil encB 5)⟩
 refine WC.skip (hK2 _ _ (WC.sr (WL.buildF (F := encB) hs1 ([]) Tryd.runUnderlying22 Tryd.sizeOf5 Tryd.zeroValue5 rfl rfl rfl rfl rfl rfl rfl rfl rfl rfl rfl rfl (fun A7 c8 L4 whs5 hs5 ho6 => WL.r 1 hs5 [] rfl ?_))))
 refine WL.appendG hs5 ho6 (SlF.src (SlF.st0 f_s hs5) Tryd.underlying22) Tryd.underlying22 inf5 rfl rfl rfl rfl rfl rfl rfl rfl rfl rfl ?_ (fun A12 c13 L9 whs10 hs10 ho11 => ?_)
 · simp; omega
 refine WL.r 1 hs10 [] rfl (WL.nil (WC.ret (retV1 rfl (resV.tmp rfl) ?_)))
 have hx_ := OwnF.eqOf (xs := s) ho11 (by simp)
 rw [← hx_]
 first | exact ⟨_, _, _, rfl, (St.keep1 hs10), ho11⟩ | exact ⟨A12, c13, _, by rw [OwnF.len_ ho11], (St.keep1 hs10), by rw [OwnF.len_ ho11]; exact ho11⟩
theorem k21_ (A_s : Option Addr) (n_s c_s : Nat) (s : List Int) (w : World) (f_s : SlF encI w A_s n_s s) (hn : n_s ≤ 268435456) :
    Calls Tryd.prog 52 #[.slice A_s n_s c_s] w fun e w' => ∃ A c L1, e = .returned (.slice A (s).length c) ∧ St w [] L1 w' ∧ OwnF encI 3 (.slice A (s).length c) (s) L1 := by
 have hl := f_s.len
 refine enter 8 Tryd.func52 rfl Tryd.ntmps52 rfl rfl ?_
 have hs1 := St.init w
 refine WC.r1 hs1 [] rfl (WC.seq (fun K2 hK2 => WC.sr (WL.r 1 hs1 [] rfl (WL.val rfl rfl rfl (Run.eqlNil Tryd.underlying24 rfl rfl rfl) (WL.nil ?_)))))
 refine WC.cq rfl (fun h3 qh3 => ?_) (fun h3 qh3 => ?_)
 ·obtain rfl : A_s = none := by simpa using qh3
  have h0 : n_s = 0 := SlF.none_ f_s
  have hs : s = [] := List.eq_nil_of_length_eq_zero (by omega)
  refine WC.r1 hs1 [] rfl (WC.ret (tkR ?_))
  clear hK2
  refine retV1 rfl (resV.tmp rfl) ?_
  have hx_ := OwnF.eqOf (xs := s) (OwnF.nil encI 3) (by rw [hs])
  rw [← hx_]
  exact ⟨_, _, _, rfl, hs1.nil, (OwnF.nil encI 3)⟩
 refine WC.skip (hK2 _ _ (WC.sr (WL.buildF (F := encI) hs1 ([]) Tryd.runUnderlying24 Tryd.sizeOf3 Tryd.zeroValue3 rfl rfl rfl rfl rfl rfl rfl rfl rfl rfl rfl rfl (fun A7 c8 L4 whs5 hs5 ho6 => WL.r 1 hs5 [] rfl ?_))))
 refine WL.appendG hs5 ho6 (SlF.src (SlF.st0 f_s hs5) Tryd.underlying24) Tryd.underlying24 inf3 rfl rfl rfl rfl rfl rfl rfl rfl rfl rfl ?_ (fun A12 c13 L9 whs10 hs10 ho11 => ?_)
 · simp; omega
 refine WL.r 1 hs10 [] rfl (WL.nil (WC.ret (retV1 rfl (resV.tmp rfl) ?_)))
 have hx_ := OwnF.eqOf (xs := s) ho11 (by simp)
 rw [← hx_]
 first | exact ⟨_, _, _, rfl, (St.keep1 hs10), ho11⟩ | exact ⟨A12, c13, _, by rw [OwnF.len_ ho11], (St.keep1 hs10), by rw [OwnF.len_ ho11]; exact ho11⟩
theorem k22_ (A_b : Option Addr) (n_b c_b : Nat) (b : List UInt8) (w : World) (f_b : SlF encB w A_b n_b b) (hc : n_b ≤ c_b) (hn : n_b ≤ 549755813888) :
    Calls Tryd.prog 64 #[.slice A_b n_b c_b, i64 0] w fun e w' => e = .returned (.tuple #[.int .i64 (rvN (runeL b)), .int .i64 (rvS (runeL b) : Nat)]) ∧ St w [] [] w' := by
 have hbl := f_b.len
 have hb0 := (gat encB b 0).toNat_lt
 refine enter 72 Tryd.func64 rfl Tryd.ntmps64 rfl rfl ?_
 have hs1 := St.init w
 refine WC.r1 hs1 [] rfl (WC.seq (fun K2 hK2 => WC.sr ?_))
 refine WL.run tbk 4 hs1 [] rfl ⟨by first | omega | (simp only [p6]; omega), trivial⟩ (WL.cl Tryd.call23 rfl (k2_ _ _ _ _) ?_)
 rintro _ whs3 ⟨rfl, hs3⟩
 replace hs3 := hs1.call0 hs3
 refine ⟨_, rfl, WL.r 1 hs3 [] rfl (WL.nil (WC.cq rfl (fun h4 qh4 => ?_) (fun h4 qh4 => ?_)))⟩
 ·refine WC.r1 hs3 [] rfl (WC.ret (tkR ?_))
  clear hK2
  refine retV2 rfl (resV.tmp rfl) (resV.tmp rfl) (⟨congrArg Ending.returned ?_, hs3.nil⟩)
  have h0 : b = [] := List.eq_nil_of_length_eq_zero (by omega)
  subst h0
  rw [runeL_nil]; rfl
 refine WC.skip (hK2 _ _ (WC.sr (WL.r 2 hs3 [] rfl ?_)))
 refine WL.val rfl rfl rfl (Run.idxK (0) Tryd.runUnderlying22 Tryd.sizeOf5 rfl rfl rfl ?_ ?_ ?_) ?_
 · exact SlF.some_ (SlF.st0 f_b hs3)
 · first | omega | (simp only [p6]; omega)
 · first | omega | (simp only [p6]; omega)
 refine WL.val rfl rfl rfl (Run.load Tryd.isAgg5 rfl rfl (SlF.one1 (SlF.st0 f_b hs3) ?_ rfl)) ?_
 · omega
 refine WL.r 3 hs3 [] rfl (WL.nil (WC.seq (fun K5 hK5 => WC.block (WC.sr (WL.r 1 hs3 [] rfl (WL.cl Tryd.call23 rfl (k2_ _ _ _ _) ?_))))))
 rintro _ whs6 ⟨rfl, hs6⟩
 replace hs6 := hs3.call0 hs6
 refine ⟨_, rfl, WL.r 1 hs6 [] rfl (WL.nil (WC.cq rfl (fun h7 qh7 => ?_) (fun h7 qh7 => ?_)))⟩
 ·have hcl : rcls (bat b 0) = 2 := by unfold rcls; rw [if_pos (by simp only [gat, bat] at *; omega)]
  refine WC.region ?_
  refine WL.run tbk 4 hs6 [] rfl ⟨by first | omega | (simp only [p6]; omega), trivial⟩ (WL.nil (hK5 _ _ (WC.seq (fun K8 hK8 => ?_))))
  refine WC.rr tbk hs6 [] rfl ⟨by first | omega | (simp only [p6]; omega), trivial⟩ (WC.cq rfl (fun h9 qh9 => ?_) (fun h9 qh9 => ?_))
  ·refine WC.r1 hs6 [] rfl (WC.ret (tkR ?_))
   clear hK8
   refine retV2 rfl (resV.tmp rfl) (resV.tmp rfl) (⟨congrArg Ending.returned ?_, hs6.nil⟩)
   have hno : runeL b = none := rread_no (by omega) hcl (fun r hr h1 h2 h3 => by
       omega)
   rw [hno]; rfl
  refine WC.skip (hK8 _ _ (WC.sr ?_))
  refine WL.run tbk 6 hs6 [] rfl ⟨by first | omega | (simp only [p6]; omega), by first | omega | (simp only [p6]; omega), trivial⟩ (WL.val rfl rfl rfl (Run.sliceLH (1) (2) Tryd.runUnderlying22 Tryd.sizeOf5 rfl rfl rfl rfl ?_ ?_ ?_) ?_)
  · first | rfl | (first | omega | (simp only [p6]; omega))
  · first | rfl | (first | omega | (simp only [p6]; omega))
  · refine ⟨?_, ?_, ?_⟩ <;> (first | omega | (simp only [p6]; omega))
  refine WL.cl Tryd.call37 rfl (k16_ _ _ _ _ _ (SlF.cutC (lo := 1) (hi := 2) (SlF.st0 f_b hs6) (by refine ⟨?_, ?_, ?_⟩ <;> (first | omega | (simp only [p6]; omega)))) ?_) ?_
  · first | assumption | rfl | omega
  rintro _ whs10 ⟨rfl, hs10⟩
  replace hs10 := hs6.call0 hs10
  refine ⟨_, rfl, WL.r 3 hs10 [] rfl ?_⟩
  have htv := tlV_bnd (l := (b.drop 1).take (2 - 1)) (by rw [List.length_take, List.length_drop]; omega)
  refine WL.r 2 hs10 [] rfl (WL.nil (WC.sr ?_))
  refine WL.run tbk 4 hs10 [] rfl ⟨by first | omega | (simp only [p6]; omega), by first | omega | (simp only [p6]; omega), trivial⟩ (WL.val rfl rfl rfl (Run.shl rfl rfl rfl ?_ ?_ ?_) ?_)
  · first | omega | (simp only [p6]; omega)
  · first | omega | (simp only [p6]; omega)
  · simp only [p6]; constructor <;> omega
  refine WL.r 1 hs10 [] rfl (WL.val rfl rfl rfl (Run.or rfl rfl rfl ?_ ?_ ?_ ?_) ?_)
  · first | omega | (simp only [p6]; omega)
  · first | omega | (simp only [p6]; omega)
  · first | omega | (simp only [p6]; omega)
  · first | omega | (simp only [p6]; omega)
  refine WL.r 1 hs10 [] rfl (WL.nil (WC.seq (fun K11 hK11 => WC.seq (fun K12 hK12 => WC.rH hs10 hs10 (fun _ hs13 => ?_)))))
  refine WH.rn [0, 1, 2] hs13 [] rfl rfl (WH.split 58 rfl (fun g14 => ?_) (fun g14 => ?_))
  ·refine WH.takeSkip 3 rfl (by kernel_rfl) (wantNF rfl g14) rfl rfl hs13 (WH.takeSkip 5 rfl (by kernel_rfl) (wantNF rfl g14) rfl rfl hs13 (WH.takeSkip 6 rfl (by kernel_rfl) (wantNF rfl g14) rfl rfl hs13 (WH.takeSkip 7 rfl (by kernel_rfl) (wantNF rfl g14) rfl rfl hs13 (WH.takeSkip 8 rfl (by kernel_rfl) (wantNF rfl g14) rfl rfl hs13 (WH.takeSkip 9 rfl (by kernel_rfl) (wantNF rfl g14) rfl rfl hs13 (WH.takeSkip 10 rfl (by kernel_rfl) (wantNF rfl g14) rfl rfl hs13 (WH.o1 4 rfl ?_)))))))
   refine WL.skip (wantNF rfl g14) rfl rfl (WL.nil ⟨hs13, WH.o1 11 rfl (WL.skip (wantNF rfl g14) rfl rfl (WL.nil ⟨hs13, WH.takeSkip 12 rfl (by kernel_rfl) (wantNF rfl g14) rfl rfl hs13 ?_⟩))⟩)
   refine WH.take 13 rfl (by kernel_rfl) rfl rfl rfl hs13 (fun w_ hs_ => (Run.pickT rfl rfl g14 rfl)) ?_
   refine WH.dn (hK12 _ _ ?_)
   refine WC.cq rfl (fun h15 qh15 => ?_) (fun h15 qh15 => ?_)
   ·refine WC.r1 hs13 [] rfl (WC.ret (tkR ?_))
    clear hK11
    refine retV2 rfl (resV.tmp rfl) (resV.tmp rfl) (⟨congrArg Ending.returned ?_, hs13.nil⟩)
    have hno : runeL b = none := rread_no (by omega) hcl (fun r hr h1 h2 h3 => by
        have h9 := ‹(!tlOk ((b.drop 1).take (2 - 1))) = true›
        rw [h2] at h9; cases h9)
    rw [hno]; rfl
   refine WC.skip (hK11 _ _ (WC.r1 hs13 [] rfl (WC.ret (retV2 rfl (resV.tmp rfl) (resV.tmp rfl) (⟨congrArg Ending.returned ?_, hs13.nil⟩)))))
   cases h15
  refine WH.rnA (Acts.nil.cons (j := 2) rfl g14) [3, 5, 6, 7, 8, 9] hs13 [] rfl rfl ?_ (hS := ⟨by (first | omega | (simp only [p6]; omega)), trivial⟩)
  refine WH.take 10 rfl (by kernel_rfl) (wantF rfl g14) rfl rfl hs13 (fun w_ hs_ => (Run.sliceLH (0) (2) Tryd.runUnderlying22 Tryd.sizeOf5 rfl rfl rfl rfl ?_ ?_ ?_)) ?_
  · first | rfl | (first | omega | (simp only [p6]; omega))
  · first | rfl | (first | omega | (simp only [p6]; omega))
  · refine ⟨?_, ?_, ?_⟩ <;> (first | omega | (simp only [p6]; omega))
  refine WH.o1 4 rfl (WL.call (wantF rfl g14) rfl rfl (Run.call Tryd.call22 rfl rfl rfl) (k17_ _ _) ?_)
  rintro _ whs16 ⟨A17, c18, L1_19, rfl, hs16, ho20⟩
  replace hs16 := hs13.callF hs16
  refine ⟨_, rfl, WL.nil ⟨(hs16.rm L1_19), WH.o1 11 rfl ?_⟩⟩
  refine WL.call (wantF rfl g14) rfl rfl (Run.call Tryd.call71 rfl rfl rfl) (k19_ _ _ _ _ _ _ _ _ _ (SlF.ofOwn ho20 (hs16.ow L1_19)) (SlF.cutC (lo := 0) (hi := 2) (SlF.st0 f_b hs16) (by refine ⟨?_, ?_, ?_⟩ <;> (first | omega | (simp only [p6]; omega)))) ?_) ?_
  · exact Nat.le_trans (runeB_len _) (by decide)
  rintro _ whs21 ⟨rfl, hs21⟩
  replace hs21 := hs16.call0 hs21
  refine ⟨_, rfl, WL.nil ⟨(hs21.rm L1_19), WH.rnA (Acts.nil.cons (j := 2) rfl g14) [12] (hs21.rm L1_19) [] rfl rfl ?_⟩⟩
  refine WH.take 13 rfl (by kernel_rfl) rfl rfl rfl (hs21.rm L1_19) (fun w_ hs_ => (Run.pick rfl rfl rfl rfl)) ?_
  refine WH.dn (hK12 _ _ ?_)
  refine WC.cq rfl (fun h22 qh22 => ?_) (fun h22 qh22 => ?_)
  ·refine WC.r1 hs21 [] rfl (WC.ret (tkR ?_))
   clear hK11
   refine retV2 rfl (resV.tmp rfl) (resV.tmp rfl) (⟨congrArg Ending.returned ?_, hs21.nil⟩)
   have hrs := rsum_or (a := gat encB b 0) (t := ((b.drop 1).take (2 - 1))) (c := 2) (x := (((gat encB b 0).toNat : Int) - 192) * 2 ^ 6) (.inr (.inl ⟨rfl, by omega, rfl⟩)) (by rw [List.length_take, List.length_drop]; omega)
   have hq9 : (bif !tlOk ((b.drop 1).take (2 - 1)) then true else !decide (runeB (rsum (gat encB b 0) ((b.drop 1).take (2 - 1)) 2) = b.take 2)) = true := by rw [← hrs]; exact h22
   have hno : runeL b = none := rread_no (by omega) hcl (fun r hr h1 h2 h3 => by
       rw [h2] at hq9; subst hr; have h10 : runeB (rsum (gat encB b 0) ((b.drop 1).take (2 - 1)) 2) = b.take 2 := h3; rw [h10, decide_eq_true rfl] at hq9; cases hq9)
   rw [hno]; rfl
  refine WC.skip (hK11 _ _ (WC.r1 hs21 [] rfl (WC.ret (retV2 rfl (resV.tmp rfl) (resV.tmp rfl) (⟨congrArg Ending.returned ?_, hs21.nil⟩)))))
  have hrs := rsum_or (a := gat encB b 0) (t := ((b.drop 1).take (2 - 1))) (c := 2) (x := (((gat encB b 0).toNat : Int) - 192) * 2 ^ 6) (.inr (.inl ⟨rfl, by omega, rfl⟩)) (by rw [List.length_take, List.length_drop]; omega)
  have hq9 : (bif !tlOk ((b.drop 1).take (2 - 1)) then true else !decide (runeB (rsum (gat encB b 0) ((b.drop 1).take (2 - 1)) 2) = b.take 2)) = false := by rw [← hrs]; exact h22
  rcases h11 : tlOk ((b.drop 1).take (2 - 1)) with _ | _ <;> rw [h11] at hq9
  · cases hq9
  have hyes := rread_yes (by omega) hcl (by omega) h11 hrs (by rw [hrs]; by_cases h12 : runeB (rsum (gat encB b 0) ((b.drop 1).take (2 - 1)) 2) = b.take 2; exact h12; rw [decide_eq_false h12] at hq9; cases hq9)
  rw [hyes]; rfl
 refine WC.sr (WL.r 1 hs6 [] rfl (WL.cl Tryd.call23 rfl (k2_ _ _ _ _) ?_))
 rintro _ whs23 ⟨rfl, hs23⟩
 replace hs23 := hs6.call0 hs23
 refine ⟨_, rfl, WL.r 1 hs23 [] rfl (WL.nil (WC.cq rfl (fun h24 qh24 => ?_) (fun h24 qh24 => ?_)))⟩
 ·have hcl : rcls (bat b 0) = 3 := by unfold rcls; rw [if_neg (by simp only [gat, bat] at *; omega), if_pos (by simp only [gat, bat] at *; omega)]
  refine WC.region ?_
  refine WL.run tbk 4 hs23 [] rfl ⟨by first | omega | (simp only [p6]; omega), trivial⟩ (WL.nil (hK5 _ _ (WC.seq (fun K25 hK25 => ?_))))
  refine WC.rr tbk hs23 [] rfl ⟨by first | omega | (simp only [p6]; omega), trivial⟩ (WC.cq rfl (fun h26 qh26 => ?_) (fun h26 qh26 => ?_))
  ·refine WC.r1 hs23 [] rfl (WC.ret (tkR ?_))
   clear hK25
   refine retV2 rfl (resV.tmp rfl) (resV.tmp rfl) (⟨congrArg Ending.returned ?_, hs23.nil⟩)
   have hno : runeL b = none := rread_no (by omega) hcl (fun r hr h1 h2 h3 => by
       omega)
   rw [hno]; rfl
  refine WC.skip (hK25 _ _ (WC.sr ?_))
  refine WL.run tbk 6 hs23 [] rfl ⟨by first | omega | (simp only [p6]; omega), by first | omega | (simp only [p6]; omega), trivial⟩ (WL.val rfl rfl rfl (Run.sliceLH (1) (3) Tryd.runUnderlying22 Tryd.sizeOf5 rfl rfl rfl rfl ?_ ?_ ?_) ?_)
  · first | rfl | (first | omega | (simp only [p6]; omega))
  · first | rfl | (first | omega | (simp only [p6]; omega))
  · refine ⟨?_, ?_, ?_⟩ <;> (first | omega | (simp only [p6]; omega))
  refine WL.cl Tryd.call37 rfl (k16_ _ _ _ _ _ (SlF.cutC (lo := 1) (hi := 3) (SlF.st0 f_b hs23) (by refine ⟨?_, ?_, ?_⟩ <;> (first | omega | (simp only [p6]; omega)))) ?_) ?_
  · first | assumption | rfl | omega
  rintro _ whs27 ⟨rfl, hs27⟩
  replace hs27 := hs23.call0 hs27
  refine ⟨_, rfl, WL.r 3 hs27 [] rfl ?_⟩
  have htv := tlV_bnd (l := (b.drop 1).take (3 - 1)) (by rw [List.length_take, List.length_drop]; omega)
  refine WL.r 2 hs27 [] rfl (WL.nil (WC.sr ?_))
  refine WL.run tbk 4 hs27 [] rfl ⟨by first | omega | (simp only [p6]; omega), by first | omega | (simp only [p6]; omega), trivial⟩ (WL.val rfl rfl rfl (Run.shl rfl rfl rfl ?_ ?_ ?_) ?_)
  · first | omega | (simp only [p6]; omega)
  · first | omega | (simp only [p6]; omega)
  · simp only [p6]; constructor <;> omega
  refine WL.r 1 hs27 [] rfl (WL.val rfl rfl rfl (Run.or rfl rfl rfl ?_ ?_ ?_ ?_) ?_)
  · first | omega | (simp only [p6]; omega)
  · first | omega | (simp only [p6]; omega)
  · first | omega | (simp only [p6]; omega)
  · first | omega | (simp only [p6]; omega)
  refine WL.r 1 hs27 [] rfl (WL.nil (WC.seq (fun K28 hK28 => WC.seq (fun K29 hK29 => WC.rH hs27 hs27 (fun _ hs30 => ?_)))))
  refine WH.rn [0, 1, 2] hs30 [] rfl rfl (WH.split 58 rfl (fun g31 => ?_) (fun g31 => ?_))
  ·refine WH.takeSkip 3 rfl (by kernel_rfl) (wantNF rfl g31) rfl rfl hs30 (WH.takeSkip 5 rfl (by kernel_rfl) (wantNF rfl g31) rfl rfl hs30 (WH.takeSkip 6 rfl (by kernel_rfl) (wantNF rfl g31) rfl rfl hs30 (WH.takeSkip 7 rfl (by kernel_rfl) (wantNF rfl g31) rfl rfl hs30 (WH.takeSkip 8 rfl (by kernel_rfl) (wantNF rfl g31) rfl rfl hs30 (WH.takeSkip 9 rfl (by kernel_rfl) (wantNF rfl g31) rfl rfl hs30 (WH.takeSkip 10 rfl (by kernel_rfl) (wantNF rfl g31) rfl rfl hs30 (WH.o1 4 rfl ?_)))))))
   refine WL.skip (wantNF rfl g31) rfl rfl (WL.nil ⟨hs30, WH.o1 11 rfl (WL.skip (wantNF rfl g31) rfl rfl (WL.nil ⟨hs30, WH.takeSkip 12 rfl (by kernel_rfl) (wantNF rfl g31) rfl rfl hs30 ?_⟩))⟩)
   refine WH.take 13 rfl (by kernel_rfl) rfl rfl rfl hs30 (fun w_ hs_ => (Run.pickT rfl rfl g31 rfl)) ?_
   refine WH.dn (hK29 _ _ ?_)
   refine WC.cq rfl (fun h32 qh32 => ?_) (fun h32 qh32 => ?_)
   ·refine WC.r1 hs30 [] rfl (WC.ret (tkR ?_))
    clear hK28
    refine retV2 rfl (resV.tmp rfl) (resV.tmp rfl) (⟨congrArg Ending.returned ?_, hs30.nil⟩)
    have hno : runeL b = none := rread_no (by omega) hcl (fun r hr h1 h2 h3 => by
        have h9 := ‹(!tlOk ((b.drop 1).take (3 - 1))) = true›
        rw [h2] at h9; cases h9)
    rw [hno]; rfl
   refine WC.skip (hK28 _ _ (WC.r1 hs30 [] rfl (WC.ret (retV2 rfl (resV.tmp rfl) (resV.tmp rfl) (⟨congrArg Ending.returned ?_, hs30.nil⟩)))))
   cases h32
  refine WH.rnA (Acts.nil.cons (j := 2) rfl g31) [3, 5, 6, 7, 8, 9] hs30 [] rfl rfl ?_ (hS := ⟨by (first | omega | (simp only [p6]; omega)), trivial⟩)
  refine WH.take 10 rfl (by kernel_rfl) (wantF rfl g31) rfl rfl hs30 (fun w_ hs_ => (Run.sliceLH (0) (3) Tryd.runUnderlying22 Tryd.sizeOf5 rfl rfl rfl rfl ?_ ?_ ?_)) ?_
  · first | rfl | (first | omega | (simp only [p6]; omega))
  · first | rfl | (first | omega | (simp only [p6]; omega))
  · refine ⟨?_, ?_, ?_⟩ <;> (first | omega | (simp only [p6]; omega))
  refine WH.o1 4 rfl (WL.call (wantF rfl g31) rfl rfl (Run.call Tryd.call22 rfl rfl rfl) (k17_ _ _) ?_)
  rintro _ whs33 ⟨A34, c35, L1_36, rfl, hs33, ho37⟩
  replace hs33 := hs30.callF hs33
  refine ⟨_, rfl, WL.nil ⟨(hs33.rm L1_36), WH.o1 11 rfl ?_⟩⟩
  refine WL.call (wantF rfl g31) rfl rfl (Run.call Tryd.call71 rfl rfl rfl) (k19_ _ _ _ _ _ _ _ _ _ (SlF.ofOwn ho37 (hs33.ow L1_36)) (SlF.cutC (lo := 0) (hi := 3) (SlF.st0 f_b hs33) (by refine ⟨?_, ?_, ?_⟩ <;> (first | omega | (simp only [p6]; omega)))) ?_) ?_
  · exact Nat.le_trans (runeB_len _) (by decide)
  rintro _ whs38 ⟨rfl, hs38⟩
  replace hs38 := hs33.call0 hs38
  refine ⟨_, rfl, WL.nil ⟨(hs38.rm L1_36), WH.rnA (Acts.nil.cons (j := 2) rfl g31) [12] (hs38.rm L1_36) [] rfl rfl ?_⟩⟩
  refine WH.take 13 rfl (by kernel_rfl) rfl rfl rfl (hs38.rm L1_36) (fun w_ hs_ => (Run.pick rfl rfl rfl rfl)) ?_
  refine WH.dn (hK29 _ _ ?_)
  refine WC.cq rfl (fun h39 qh39 => ?_) (fun h39 qh39 => ?_)
  ·refine WC.r1 hs38 [] rfl (WC.ret (tkR ?_))
   clear hK28
   refine retV2 rfl (resV.tmp rfl) (resV.tmp rfl) (⟨congrArg Ending.returned ?_, hs38.nil⟩)
   have hrs := rsum_or (a := gat encB b 0) (t := ((b.drop 1).take (3 - 1))) (c := 3) (x := (((gat encB b 0).toNat : Int) - 224) * 2 ^ 12) (.inr (.inr ⟨rfl, by omega, rfl⟩)) (by rw [List.length_take, List.length_drop]; omega)
   have hq9 : (bif !tlOk ((b.drop 1).take (3 - 1)) then true else !decide (runeB (rsum (gat encB b 0) ((b.drop 1).take (3 - 1)) 3) = b.take 3)) = true := by rw [← hrs]; exact h39
   have hno : runeL b = none := rread_no (by omega) hcl (fun r hr h1 h2 h3 => by
       rw [h2] at hq9; subst hr; have h10 : runeB (rsum (gat encB b 0) ((b.drop 1).take (3 - 1)) 3) = b.take 3 := h3; rw [h10, decide_eq_true rfl] at hq9; cases hq9)
   rw [hno]; rfl
  refine WC.skip (hK28 _ _ (WC.r1 hs38 [] rfl (WC.ret (retV2 rfl (resV.tmp rfl) (resV.tmp rfl) (⟨congrArg Ending.returned ?_, hs38.nil⟩)))))
  have hrs := rsum_or (a := gat encB b 0) (t := ((b.drop 1).take (3 - 1))) (c := 3) (x := (((gat encB b 0).toNat : Int) - 224) * 2 ^ 12) (.inr (.inr ⟨rfl, by omega, rfl⟩)) (by rw [List.length_take, List.length_drop]; omega)
  have hq9 : (bif !tlOk ((b.drop 1).take (3 - 1)) then true else !decide (runeB (rsum (gat encB b 0) ((b.drop 1).take (3 - 1)) 3) = b.take 3)) = false := by rw [← hrs]; exact h39
  rcases h11 : tlOk ((b.drop 1).take (3 - 1)) with _ | _ <;> rw [h11] at hq9
  · cases hq9
  have hyes := rread_yes (by omega) hcl (by omega) h11 hrs (by rw [hrs]; by_cases h12 : runeB (rsum (gat encB b 0) ((b.drop 1).take (3 - 1)) 3) = b.take 3; exact h12; rw [decide_eq_false h12] at hq9; cases hq9)
  rw [hyes]; rfl
 have hcl : rcls (bat b 0) = 1 := by unfold rcls; rw [if_neg (by simp only [gat, bat] at *; omega), if_neg (by simp only [gat, bat] at *; omega)]
 refine WC.skip (hK5 _ _ (WC.seq (fun K40 hK40 => ?_)))
 refine WC.rr tbk hs23 [] rfl ⟨by first | omega | (simp only [p6]; omega), trivial⟩ (WC.cq rfl (fun h41 qh41 => ?_) (fun h41 qh41 => ?_))
 ·refine WC.r1 hs23 [] rfl (WC.ret (tkR ?_))
  clear hK40
  refine retV2 rfl (resV.tmp rfl) (resV.tmp rfl) (⟨congrArg Ending.returned ?_, hs23.nil⟩)
  have hno : runeL b = none := rread_no (by omega) hcl (fun r hr h1 h2 h3 => by
      omega)
  rw [hno]; rfl
 refine WC.skip (hK40 _ _ (WC.sr ?_))
 refine WL.run tbk 6 hs23 [] rfl ⟨by first | omega | (simp only [p6]; omega), by first | omega | (simp only [p6]; omega), trivial⟩ (WL.val rfl rfl rfl (Run.sliceLH (1) (1) Tryd.runUnderlying22 Tryd.sizeOf5 rfl rfl rfl rfl ?_ ?_ ?_) ?_)
 · first | rfl | (first | omega | (simp only [p6]; omega))
 · first | rfl | (first | omega | (simp only [p6]; omega))
 · refine ⟨?_, ?_, ?_⟩ <;> (first | omega | (simp only [p6]; omega))
 refine WL.cl Tryd.call37 rfl (k16_ _ _ _ _ _ (SlF.cutC (lo := 1) (hi := 1) (SlF.st0 f_b hs23) (by refine ⟨?_, ?_, ?_⟩ <;> (first | omega | (simp only [p6]; omega)))) ?_) ?_
 · first | assumption | rfl | omega
 rintro _ whs42 ⟨rfl, hs42⟩
 replace hs42 := hs23.call0 hs42
 refine ⟨_, rfl, WL.r 3 hs42 [] rfl ?_⟩
 have htv := tlV_bnd (l := (b.drop 1).take (1 - 1)) (by rw [List.length_take, List.length_drop]; omega)
 refine WL.r 2 hs42 [] rfl (WL.nil (WC.sr ?_))
 refine WL.run tbk 4 hs42 [] rfl ⟨by first | omega | (simp only [p6]; omega), by first | omega | (simp only [p6]; omega), trivial⟩ (WL.val rfl rfl rfl (Run.shl rfl rfl rfl ?_ ?_ ?_) ?_)
 · first | omega | (simp only [p6]; omega)
 · first | omega | (simp only [p6]; omega)
 · simp only [p6]; constructor <;> omega
 refine WL.r 1 hs42 [] rfl (WL.val rfl rfl rfl (Run.or rfl rfl rfl ?_ ?_ ?_ ?_) ?_)
 · first | omega | (simp only [p6]; omega)
 · first | omega | (simp only [p6]; omega)
 · first | omega | (simp only [p6]; omega)
 · first | omega | (simp only [p6]; omega)
 refine WL.r 1 hs42 [] rfl (WL.nil (WC.seq (fun K43 hK43 => WC.seq (fun K44 hK44 => WC.rH hs42 hs42 (fun _ hs45 => ?_)))))
 refine WH.rn [0, 1, 2] hs45 [] rfl rfl (WH.split 58 rfl (fun g46 => ?_) (fun g46 => ?_))
 ·refine WH.takeSkip 3 rfl (by kernel_rfl) (wantNF rfl g46) rfl rfl hs45 (WH.takeSkip 5 rfl (by kernel_rfl) (wantNF rfl g46) rfl rfl hs45 (WH.takeSkip 6 rfl (by kernel_rfl) (wantNF rfl g46) rfl rfl hs45 (WH.takeSkip 7 rfl (by kernel_rfl) (wantNF rfl g46) rfl rfl hs45 (WH.takeSkip 8 rfl (by kernel_rfl) (wantNF rfl g46) rfl rfl hs45 (WH.takeSkip 9 rfl (by kernel_rfl) (wantNF rfl g46) rfl rfl hs45 (WH.takeSkip 10 rfl (by kernel_rfl) (wantNF rfl g46) rfl rfl hs45 (WH.o1 4 rfl ?_)))))))
  refine WL.skip (wantNF rfl g46) rfl rfl (WL.nil ⟨hs45, WH.o1 11 rfl (WL.skip (wantNF rfl g46) rfl rfl (WL.nil ⟨hs45, WH.takeSkip 12 rfl (by kernel_rfl) (wantNF rfl g46) rfl rfl hs45 ?_⟩))⟩)
  refine WH.take 13 rfl (by kernel_rfl) rfl rfl rfl hs45 (fun w_ hs_ => (Run.pickT rfl rfl g46 rfl)) ?_
  refine WH.dn (hK44 _ _ ?_)
  refine WC.cq rfl (fun h47 qh47 => ?_) (fun h47 qh47 => ?_)
  ·refine WC.r1 hs45 [] rfl (WC.ret (tkR ?_))
   clear hK43
   refine retV2 rfl (resV.tmp rfl) (resV.tmp rfl) (⟨congrArg Ending.returned ?_, hs45.nil⟩)
   have hno : runeL b = none := rread_no (by omega) hcl (fun r hr h1 h2 h3 => by
       have h9 := ‹(!tlOk ((b.drop 1).take (1 - 1))) = true›
       rw [h2] at h9; cases h9)
   rw [hno]; rfl
  refine WC.skip (hK43 _ _ (WC.r1 hs45 [] rfl (WC.ret (retV2 rfl (resV.tmp rfl) (resV.tmp rfl) (⟨congrArg Ending.returned ?_, hs45.nil⟩)))))
  cases h47
 refine WH.rnA (Acts.nil.cons (j := 2) rfl g46) [3, 5, 6, 7, 8, 9] hs45 [] rfl rfl ?_ (hS := ⟨by (first | omega | (simp only [p6]; omega)), trivial⟩)
 refine WH.take 10 rfl (by kernel_rfl) (wantF rfl g46) rfl rfl hs45 (fun w_ hs_ => (Run.sliceLH (0) (1) Tryd.runUnderlying22 Tryd.sizeOf5 rfl rfl rfl rfl ?_ ?_ ?_)) ?_
 · first | rfl | (first | omega | (simp only [p6]; omega))
 · first | rfl | (first | omega | (simp only [p6]; omega))
 · refine ⟨?_, ?_, ?_⟩ <;> (first | omega | (simp only [p6]; omega))
 refine WH.o1 4 rfl (WL.call (wantF rfl g46) rfl rfl (Run.call Tryd.call22 rfl rfl rfl) (k17_ _ _) ?_)
 rintro _ whs48 ⟨A49, c50, L1_51, rfl, hs48, ho52⟩
 replace hs48 := hs45.callF hs48
 refine ⟨_, rfl, WL.nil ⟨(hs48.rm L1_51), WH.o1 11 rfl ?_⟩⟩
 refine WL.call (wantF rfl g46) rfl rfl (Run.call Tryd.call71 rfl rfl rfl) (k19_ _ _ _ _ _ _ _ _ _ (SlF.ofOwn ho52 (hs48.ow L1_51)) (SlF.cutC (lo := 0) (hi := 1) (SlF.st0 f_b hs48) (by refine ⟨?_, ?_, ?_⟩ <;> (first | omega | (simp only [p6]; omega)))) ?_) ?_
 · exact Nat.le_trans (runeB_len _) (by decide)
 rintro _ whs53 ⟨rfl, hs53⟩
 replace hs53 := hs48.call0 hs53
 refine ⟨_, rfl, WL.nil ⟨(hs53.rm L1_51), WH.rnA (Acts.nil.cons (j := 2) rfl g46) [12] (hs53.rm L1_51) [] rfl rfl ?_⟩⟩
 refine WH.take 13 rfl (by kernel_rfl) rfl rfl rfl (hs53.rm L1_51) (fun w_ hs_ => (Run.pick rfl rfl rfl rfl)) ?_
 refine WH.dn (hK44 _ _ ?_)
 refine WC.cq rfl (fun h54 qh54 => ?_) (fun h54 qh54 => ?_)
 ·refine WC.r1 hs53 [] rfl (WC.ret (tkR ?_))
  clear hK43
  refine retV2 rfl (resV.tmp rfl) (resV.tmp rfl) (⟨congrArg Ending.returned ?_, hs53.nil⟩)
  have hrs := rsum_or (a := gat encB b 0) (t := ((b.drop 1).take (1 - 1))) (c := 1) (x := ((gat encB b 0).toNat : Int) * 2 ^ 0) (.inl ⟨rfl, rfl⟩) (by rw [List.length_take, List.length_drop]; omega)
  have hq9 : (bif !tlOk ((b.drop 1).take (1 - 1)) then true else !decide (runeB (rsum (gat encB b 0) ((b.drop 1).take (1 - 1)) 1) = b.take 1)) = true := by rw [← hrs]; exact h54
  have hno : runeL b = none := rread_no (by omega) hcl (fun r hr h1 h2 h3 => by
      rw [h2] at hq9; subst hr; have h10 : runeB (rsum (gat encB b 0) ((b.drop 1).take (1 - 1)) 1) = b.take 1 := h3; rw [h10, decide_eq_true rfl] at hq9; cases hq9)
  rw [hno]; rfl
 refine WC.skip (hK43 _ _ (WC.r1 hs53 [] rfl (WC.ret (retV2 rfl (resV.tmp rfl) (resV.tmp rfl) (⟨congrArg Ending.returned ?_, hs53.nil⟩)))))
 have hrs := rsum_or (a := gat encB b 0) (t := ((b.drop 1).take (1 - 1))) (c := 1) (x := ((gat encB b 0).toNat : Int) * 2 ^ 0) (.inl ⟨rfl, rfl⟩) (by rw [List.length_take, List.length_drop]; omega)
 have hq9 : (bif !tlOk ((b.drop 1).take (1 - 1)) then true else !decide (runeB (rsum (gat encB b 0) ((b.drop 1).take (1 - 1)) 1) = b.take 1)) = false := by rw [← hrs]; exact h54
 rcases h11 : tlOk ((b.drop 1).take (1 - 1)) with _ | _ <;> rw [h11] at hq9
 · cases hq9
 have hyes := rread_yes (by omega) hcl (by omega) h11 hrs (by rw [hrs]; by_cases h12 : runeB (rsum (gat encB b 0) ((b.drop 1).take (1 - 1)) 1) = b.take 1; exact h12; rw [decide_eq_false h12] at hq9; cases hq9)
 rw [hyes]; rfl
theorem k23_ (A_a : Option Addr) (n_a c_a : Nat) (a : List Int) (A_b : Option Addr) (n_b c_b : Nat) (b : List Int) (w : World) (f_a : SlF encI w A_a n_a a) (f_b : SlF encI w A_b n_b b) (hn : n_a ≤ 1099511627776) :
    Calls Tryd.prog 49 #[.slice A_a n_a c_a, .slice A_b n_b c_b] w fun e w' => e = .returned (.bool (decide (a = b))) ∧ St w [] [] w' := by
 have hla := f_a.len
 have hlb := f_b.len
 refine enter 26 Tryd.func49 rfl Tryd.ntmps49 rfl rfl ?_
 have hs1 := St.init w
 refine WC.r1 hs1 [] rfl (WC.seq (fun K2 hK2 => WC.r1 hs1 [] rfl ?_))
 refine WC.cq rfl (fun h3 qh3 => ?_) (fun h3 qh3 => ?_)
 ·refine WC.r1 hs1 [] rfl (WC.ret (tkR ?_))
  clear hK2
  refine rtv rfl rfl hs1 ?_
  refine congrArg Value.bool ?_; symm; rw [decide_eq_false_iff_not]; intro he; subst he; omega
 refine WC.skip (hK2 _ _ (WC.seq (fun K4 hK4 => WC.r1 hs1 [] rfl (WC.block ?_))))
 refine WC.lS [0, 1, 10, 12] rfl hs1 (fun k_ f w' => ∃ (i : Nat), k_ = n_a - i ∧ (i ≤ n_a) ∧ (∀ j, j < i → gat encI a j = gat encI b j) ∧ Sub [(13, .int .i64 i)] f) ((fun (i : Nat) => n_a - i) (0)) ?_ ?_
 ·refine ⟨0, rfl, ?_, ?_, ⟨rfl, trivial⟩⟩
  · exact Nat.zero_le _
  · exact fun j hj => absurd hj (by omega)
 clear hs1
 rintro _ f w ⟨i, rfl, p0, p1, hG⟩ hF hs5
 refine WC.sub _ (hG.app hF) ?_
 clear hG hF
 refine WC.r1 hs5 [] rfl (WC.seq (fun K6 hK6 => ?_))
 refine WC.cq rfl (fun h7 qh7 => ?_) (fun h7 qh7 => ?_)
 ·refine WC.skip (hK6 _ _ (WC.seq (fun K8 hK8 => WC.block (WC.r1 hs5 [] rfl (WC.sq1 hs5 (WQ.r 2 [] rfl ?_))))))
  refine WQ.val rfl rfl rfl (fun w_ hs_ => (Run.idxN Tryd.runUnderlying24 Tryd.sizeOf3 rfl rfl rfl ?_ ?_ ?_)) ?_
  · exact SlF.some_ (SlF.st0 f_a (hs_ : St _ _ _ _))
  · omega
  · omega
  refine WQ.val rfl rfl rfl (fun w_ hs_ => (Run.load Tryd.isAgg3 rfl rfl (SlF.one1 (SlF.st0 f_a (hs_ : St _ _ _ _)) ?_ rfl))) ?_
  · omega
  refine WQ.r 2 [] rfl ?_
  refine WQ.val rfl rfl rfl (fun w_ hs_ => (Run.idxN Tryd.runUnderlying24 Tryd.sizeOf3 rfl rfl rfl ?_ ?_ ?_)) ?_
  · exact SlF.some_ (SlF.st0 f_b (hs_ : St _ _ _ _))
  · omega
  · omega
  refine WQ.val rfl rfl rfl (fun w_ hs_ => (Run.load Tryd.isAgg3 rfl rfl (SlF.one1 (SlF.st0 f_b (hs_ : St _ _ _ _)) ?_ rfl))) ?_
  · omega
  refine WQ.r 1 [] rfl (WQ.nil (fun _ (hs9 : St _ _ _ _) => ?_))
  refine WC.cq rfl (fun h10 qh10 => ?_) (fun h10 qh10 => ?_)
  ·refine WC.r1 hs9 [] rfl (WC.ret (ibR (tkR (tkR (ibR (tkR ?_))))))
   clear hK8 hK4
   refine rtv rfl rfl hs9 ?_
   refine congrArg Value.bool ?_; symm; rw [decide_eq_false_iff_not]; intro he; subst he; simp at h10
  refine WC.skip (hK8 _ _ (WC.region (WL.r 2 hs9 [] rfl (WL.nil (tkN ?_)))))
  refine ⟨sbF rfl, hs9, _, ?_, i + 1, rfl, ?_, ?_, ⟨rfl, trivial⟩⟩
  · omega
  · omega
  · intro j hj; rcases Nat.lt_or_ge j i with h_ | h_
    · exact p1 j h_
    · obtain rfl : j = i := by omega
      exact (by simpa using h10)
 refine WC.exit (hK4 _ _ (WC.r1 hs5 [] rfl (WC.ret (rtv rfl rfl hs5 ?_))))
 refine congrArg Value.bool ?_; symm; rw [decide_eq_true_eq]; exact gat_ext (F := encI) (by omega) (fun j hj => p1 j (by omega))
theorem k24_ (a : ActR) (b : ActR) (w : World) (f_a : okActR 549755813888 w a) (f_b : okActR 549755813888 w b) :
    Calls Tryd.prog 26 #[.agg #[i64 a.Kind, i64 a.R, .bool a.Mark, .slice a.Args.A a.Args.n a.Args.c], .agg #[i64 b.Kind, i64 b.R, .bool b.Mark, .slice b.Args.A b.Args.n b.Args.c]] w fun e w' => e = .returned (.bool (sameA a.dat b.dat)) ∧ St w [] [] w' := by
 have nb_a_Args := f_a.Args_n
 have nl_a_Args := f_a.Args.len
 have nb_b_Args := f_b.Args_n
 have nl_b_Args := f_b.Args.len
 refine enter 31 Tryd.func26 rfl Tryd.ntmps26 rfl rfl ?_
 have hs1 := St.init w
 refine WC.sr (WL.bx hs1 rfl (fun b2 _ hs3 => WL.bx hs3 rfl (fun b4 _ hs5 => WL.r 1 hs5 [] rfl (WL.nil (WC.sr (WL.r 6 hs5 [1, 0] rfl (WL.pA tbk 5 Acts.nil hs5 [1, 0] rfl rfl rfl rfl (fun g_ => ⟨rfl, rfl, trivial⟩) ?_)))))))
 refine WL.r 1 hs5 [] rfl (WL.pA tbk 5 Acts.nil hs5 [1, 0] rfl rfl rfl rfl (fun g_ => ⟨rfl, rfl, trivial⟩) (WL.r 1 hs5 [] rfl ?_))
 apply WL.gA 5 Acts.nil hs5 rfl
 ·intro g6 J7
  have qg6 := g6
  try simp only [bf, within_iff, within_not] at qg6
  refine WL.runA tbk 4 (Acts.nil.cons (j := 19) rfl g6) hs5 [1, 0] rfl ⟨rfl, rfl, trivial⟩ (WL.call (wantT rfl g6) rfl rfl (Run.call Tryd.call49 rfl rfl rfl) (k23_ _ _ _ _ _ _ _ _ _ (SlF.st0 f_a.Args hs5) (SlF.st0 f_b.Args hs5) ?_) ?_)
  · first | assumption | rfl | omega
  rintro _ whs8 ⟨rfl, hs8⟩
  replace hs8 := hs5.call0 hs8
  refine ⟨_, rfl, WL.eA 5 Acts.nil J7 hs8 g6 rfl rfl⟩
 intro _ hs9
 refine WL.r 1 hs9 [] rfl (WL.nil (WC.ret (rtv rfl rfl hs9 ?_)))
 first | rfl | (simp only [sameA]; grind)
theorem k25_ (a : ActR) (b : ActR) (w : World) (f_a : okActR 549755813888 w a) (f_b : okActR 549755813888 w b) :
    Calls Tryd.prog 30 #[.agg #[i64 a.Kind, i64 a.R, .bool a.Mark, .slice a.Args.A a.Args.n a.Args.c], .agg #[i64 b.Kind, i64 b.R, .bool b.Mark, .slice b.Args.A b.Args.n b.Args.c]] w fun e w' => e = .returned (.bool (sameA a.dat b.dat)) ∧ St w [] [] w' := by
 have nb_a_Args := f_a.Args_n
 have nl_a_Args := f_a.Args.len
 have nb_b_Args := f_b.Args_n
 have nl_b_Args := f_b.Args.len
 have hla := f_a.Args.len
 have hlb := f_b.Args.len
 refine enter 52 Tryd.func30 rfl Tryd.ntmps30 rfl rfl ?_
 have hs1 := St.init w
 refine WC.sr (WL.bx hs1 rfl (fun b2 _ hs3 => WL.bx hs3 rfl (fun b4 _ hs5 => WL.r 1 hs5 [] rfl (WL.nil (WC.seq (fun K6 hK6 => WC.sr (WL.r 6 hs5 [1, 0] rfl ?_)))))))
 refine WL.pO tbk 5 Acts.nil hs5 [1, 0] rfl rfl rfl rfl (fun g_ => ⟨rfl, rfl, trivial⟩) (WL.r 1 hs5 [] rfl (WL.pO tbk 5 Acts.nil hs5 [1, 0] rfl rfl rfl rfl (fun g_ => ⟨rfl, rfl, trivial⟩) (WL.r 1 hs5 [] rfl (WL.pO tbk 7 Acts.nil hs5 [1, 0] rfl rfl rfl rfl (fun g_ => ⟨rfl, rfl, trivial⟩) (WL.nil (WC.cq rfl (fun h7 qh7 => ?_) (fun h7 qh7 => ?_)))))))
 ·have hd := h7
  refine WC.r1 hs5 [] rfl (WC.ret (tkR ?_))
  clear hK6
  refine rtv rfl rfl hs5 ?_
  refine congrArg Value.bool ?_; symm; rw [← Bool.not_eq_true]; intro hh; have hab := sameA_eq hh; have e1 := congrArg ActD.Kind hab; have e2 := congrArg ActD.R hab; have e3 := congrArg ActD.Mark hab; have e4 : a.Args.xs = b.Args.xs := congrArg ActD.Args hab; have e5 := congrArg List.length e4; have e1' : a.Kind = b.Kind := e1; have e2' : a.R = b.R := e2; have e3' : a.Mark = b.Mark := e3; have e6 : a.Args.n = b.Args.n := (by omega); exact absurd hd (by simp [e1', e2', e3', e6])
 have hd : ((a.Kind = b.Kind ∧ a.R = b.R) ∧ a.Mark = b.Mark) ∧ (a.Args.n : Int) = b.Args.n := by have h9 := h7; simpa using h9
 obtain ⟨⟨⟨k1, k2⟩, k3⟩, k4⟩ := hd
 refine WC.skip (hK6 _ _ (WC.seq (fun K8 hK8 => WC.r1 hs5 [1] rfl (WC.block ?_))))
 refine WC.lS [2, 3, 33, 36] rfl hs5 (fun k_ f w' => ∃ (i : Nat), k_ = a.Args.n - i ∧ (i ≤ a.Args.n) ∧ (∀ j, j < i → gat encI a.Args.xs j = gat encI b.Args.xs j) ∧ Sub [(37, .int .i64 i)] f) ((fun (i : Nat) => a.Args.n - i) (0)) ?_ ?_
 ·refine ⟨0, rfl, ?_, ?_, ⟨rfl, trivial⟩⟩
  · exact Nat.zero_le _
  · exact fun j hj => absurd hj (by omega)
 clear hs5
 rintro _ f w ⟨i, rfl, p0, p1, hG⟩ hF hs9
 refine WC.sub _ (hG.app hF) ?_
 clear hG hF
 refine WC.r1 hs9 [] rfl (WC.seq (fun K10 hK10 => ?_))
 refine WC.cq rfl (fun h11 qh11 => ?_) (fun h11 qh11 => ?_)
 ·refine WC.skip (hK10 _ _ (WC.seq (fun K12 hK12 => WC.block (WC.r1 hs9 [] rfl (WC.sq1 hs9 (WQ.r 3 [1] rfl ?_))))))
  refine WQ.val rfl rfl rfl (fun w_ hs_ => (Run.idxN Tryd.runUnderlying24 Tryd.sizeOf3 rfl rfl rfl ?_ ?_ ?_)) ?_
  · exact SlF.some_ (SlF.st0 f_a.Args (hs_ : St _ _ _ _))
  · omega
  · omega
  refine WQ.val rfl rfl rfl (fun w_ hs_ => (Run.load Tryd.isAgg3 rfl rfl (SlF.one1 (SlF.st0 f_a.Args (hs_ : St _ _ _ _)) ?_ rfl))) ?_
  · omega
  refine WQ.r 3 [0] rfl ?_
  refine WQ.val rfl rfl rfl (fun w_ hs_ => (Run.idxN Tryd.runUnderlying24 Tryd.sizeOf3 rfl rfl rfl ?_ ?_ ?_)) ?_
  · exact SlF.some_ (SlF.st0 f_b.Args (hs_ : St _ _ _ _))
  · omega
  · omega
  refine WQ.val rfl rfl rfl (fun w_ hs_ => (Run.load Tryd.isAgg3 rfl rfl (SlF.one1 (SlF.st0 f_b.Args (hs_ : St _ _ _ _)) ?_ rfl))) ?_
  · omega
  refine WQ.r 1 [] rfl (WQ.nil (fun _ (hs13 : St _ _ _ _) => ?_))
  refine WC.cq rfl (fun h14 qh14 => ?_) (fun h14 qh14 => ?_)
  ·refine WC.r1 hs13 [] rfl (WC.ret (ibR (tkR (tkR (ibR (tkR ?_))))))
   clear hK12 hK8
   refine rtv rfl rfl hs13 ?_
   refine congrArg Value.bool ?_; symm; rw [← Bool.not_eq_true]; intro hh; have hab := sameA_eq hh; have e1 := congrArg ActD.Kind hab; have e2 := congrArg ActD.R hab; have e3 := congrArg ActD.Mark hab; have e4 : a.Args.xs = b.Args.xs := congrArg ActD.Args hab; have h9 := h14; simp [e4] at h9
  refine WC.skip (hK12 _ _ (WC.region (WL.r 2 hs13 [] rfl (WL.nil (tkN ?_)))))
  refine ⟨sbF rfl, hs13, _, ?_, i + 1, rfl, ?_, ?_, ⟨rfl, trivial⟩⟩
  · omega
  · omega
  · intro j hj; rcases Nat.lt_or_ge j i with h_ | h_
    · exact p1 j h_
    · obtain rfl : j = i := by omega
      have h9 := h14; simpa using h9
 refine WC.exit (hK8 _ _ (WC.r1 hs9 [] rfl (WC.ret (rtv rfl rfl hs9 ?_))))
 have h8 : a.Args.n ≤ i := (by have h9 := h11; simpa using h9)
 refine congrArg Value.bool ?_; symm; unfold sameA; simp only [Bool.and_eq_true, decide_eq_true_eq]; exact ⟨⟨⟨k1, k2⟩, k3⟩, gat_ext (F := encI) (show a.Args.xs.length = b.Args.xs.length by omega) (fun j (hj : j < a.Args.xs.length) => p1 j (by omega))⟩
theorem k26_ (A_b : Option Addr) (n_b c_b : Nat) (b : List UInt8) (w : World) (f_b : SlF encB w A_b n_b b) (hc : n_b ≤ c_b) (hn : n_b ≤ 549755813888) :
    Calls Tryd.prog 67 #[.slice A_b n_b c_b, i64 0] w fun e w' => e = .returned (.tuple #[.int .i64 (rvN (runeL b)), .int .i64 (rvS (runeL b) : Nat)]) ∧ St w [] [] w' := by
 have hbl := f_b.len
 have hb0 := (gat encB b 0).toNat_lt
 have hb0' : (gat encB b (Int.toNat 0)).toNat < 2 ^ 8 := hb0
 refine enter 76 Tryd.func67 rfl Tryd.ntmps67 rfl rfl ?_
 have hs1 := St.init w
 refine WC.r1 hs1 [] rfl (WC.seq (fun K2 hK2 => WC.sr (WL.r 3 hs1 [] rfl (WL.pO tbk 4 Acts.nil hs1 [] rfl rfl rfl rfl (fun g_ => trivial) (WL.nil ?_)))))
 refine WC.cq rfl (fun h3 qh3 => ?_) (fun h3 qh3 => ?_)
 ·refine WC.r1 hs1 [] rfl (WC.ret (tkR ?_))
  clear hK2
  refine retV2 rfl (resV.tmp rfl) (resV.tmp rfl) (⟨congrArg Ending.returned ?_, hs1.nil⟩)
  have h0 : b = [] := List.eq_nil_of_length_eq_zero (by simp at qh3; omega)
  subst h0
  rw [runeL_nil]; rfl
 refine WC.skip (hK2 _ _ (WC.seq (fun K4 hK4 => WC.r1 hs1 [] rfl (WC.block ?_))))
 refine WC.lS [0, 1, 17] rfl hs1 (fun k_ f w' => ∃ (s : Nat), k_ = 4 - s ∧ (1 ≤ s) ∧ (s ≤ 4) ∧ (∀ t, 1 ≤ t → t < s → rtry b t = false) ∧ Sub [(6, .int .i64 s)] f) ((fun (s : Nat) => 4 - s) (1)) ?_ ?_
 ·refine ⟨1, rfl, ?_, ?_, ?_, ⟨rfl, trivial⟩⟩
  · omega
  · omega
  · intro t h1 h2; omega
 clear hs1
 rintro _ f w ⟨s, rfl, p0, p1, p2, hG⟩ hF hs5
 refine WC.sub _ (hG.app hF) ?_
 clear hG hF
 have ht4 := t4_bnd s
 refine WC.seq (fun K6 hK6 => WC.sr (WL.r 3 hs5 [] rfl ?_))
 refine WL.pA tbk 6 Acts.nil hs5 [] rfl rfl rfl rfl (fun g_ => by (try simp only [bf, within_iff, within_not] at g_); exact ⟨by omega, trivial⟩) (WL.nil (WC.cq rfl (fun h7 qh7 => ?_) (fun h7 qh7 => ?_)))
 ·refine WC.skip (hK6 _ _ (WC.seq (fun K8 hK8 => WC.block (WC.seq (fun K9 hK9 => WC.rH hs5 hs5 (fun _ hs10 => ?_))))))
  refine WH.rn [0, 1] hs10 [] rfl rfl ?_
  refine WH.take 2 rfl (by kernel_rfl) rfl rfl rfl hs10 (fun w_ hs_ => (Run.idx Tryd.runUnderlying22 Tryd.sizeOf5 rfl rfl rfl ?_ ?_ ?_)) ?_
  · exact SlF.some_ (SlF.st0 f_b (hs_ : St _ _ _ _))
  · first | omega | (simp; omega)
  · first | omega | (simp; omega)
  refine WH.take 3 rfl (by kernel_rfl) rfl rfl rfl hs10 (fun w_ hs_ => (Run.load Tryd.isAgg5 rfl rfl (SlF.one1 (SlF.st0 f_b (hs_ : St _ _ _ _)) ?_ rfl))) ?_
  · first | omega | (simp; omega)
  refine WH.rn [4, 6] hs10 [] rfl rfl (WH.o1 5 rfl (WL.buildF (F := encI) hs10 ([0, 0, 192, 224]) Tryd.runUnderlying24 Tryd.sizeOf3 Tryd.zeroValue3 rfl rfl rfl rfl rfl rfl rfl rfl rfl rfl rfl rfl (fun A14 c15 L11 whs12 hs12 ho13 => WL.nil ⟨(hs12.rm L11), ?_⟩)))
  refine WH.strS hs12 (fun w_ h_ => (h_.rm L11)) ?_
  refine WH.take 7 rfl (by kernel_rfl) rfl rfl rfl hs12 (fun w_ hs_ => (Run.idxN Tryd.runUnderlying24 Tryd.sizeOf3 rfl rfl rfl ?_ ?_ ?_)) ?_
  · exact SlF.some_ (SlF.ofOwn ho13 ((hs_ : St _ _ _ _).ow L11))
  · first | omega | (simp; omega)
  · first | omega | (simp; omega)
  refine WH.take 8 rfl (by kernel_rfl) rfl rfl rfl hs12 (fun w_ hs_ => (Run.load Tryd.isAgg3 rfl rfl (SlF.one1 (SlF.ofOwn ho13 ((hs_ : St _ _ _ _).ow L11)) ?_ rfl))) ?_
  · first | omega | (simp; omega)
  refine WH.rn [9, 10] hs12 [] rfl rfl (WH.dn (hK9 _ _ (WC.seq (fun K16 hK16 => WC.r1 hs12 [] rfl (WC.block ?_)))))
  refine WC.lS [0, 1, 6, 17, 18, 19, 20, 27, 30, 31, 32, 33, 34, 35, 36, 37, 38, 39] rfl hs12 (fun k_ f w' => ∃ (i : Nat), k_ = s - i ∧ (1 ≤ i) ∧ (i ≤ s) ∧ Sub [(8, .int .i64 i), (7, .int .i64 (candI b s (i - 1)))] f) ((fun (i : Nat) => s - i) (1)) ?_ ?_
  ·refine ⟨1, rfl, ?_, ?_, ⟨rfl, ?_, trivial⟩⟩
   · omega
   · omega
   · rfl
  clear hs12
  rintro _ f w ⟨i, rfl, p0, p1, hG⟩ hF hs17
  refine WC.sub _ (hG.app hF) ?_
  clear hG hF
  have hcb := candI_bnd (l := b) (s := s) (i := i - 1) (by omega)
  have hbi := (gat encB b i).toNat_lt
  have hbz : (gat encB b ((0 : Int) + (i : Int)).toNat).toNat < 2 ^ 8 := (gat encB b _).toNat_lt
  refine WC.seq (fun K18 hK18 => WC.r1 hs17 [] rfl ?_)
  refine WC.cD rfl (fun qh19 => ?_) (fun qh19 => ?_)
  ·refine WC.skip (hK18 _ _ (WC.seq (fun K20 hK20 => WC.block (WC.region (WL.r 6 hs17 [] rfl ?_)))))
   refine WL.val rfl rfl rfl (Run.idx Tryd.runUnderlying22 Tryd.sizeOf5 rfl rfl rfl ?_ ?_ ?_) ?_
   · exact SlF.some_ (SlF.st0 f_b hs17)
   · first | omega | (simp; omega)
   · first | omega | (simp; omega)
   refine WL.val rfl rfl rfl (Run.load Tryd.isAgg5 rfl rfl (SlF.one1 (SlF.st0 f_b hs17) ?_ rfl)) ?_
   · first | omega | (simp; omega)
   refine WL.r 4 hs17 [] rfl (WL.nil (hK20 _ _ (WC.region (WL.r 3 hs17 [] rfl (WL.nil (tkN ?_))))))
   refine ⟨sbF rfl, hs17, _, ?_, i + 1, rfl, ?_, ?_, ⟨rfl, ?_, trivial⟩⟩
   · omega
   · omega
   · omega
   · refine congrArg some (congrArg (Value.int _) ?_); have h9 := candI_next (l := b) (s := s) (i := i) (by omega); rw [h9]; simp
  refine WC.exit (hK16 _ _ (WC.sr (WL.r 1 hs17 [] rfl (WL.cl Tryd.call28 rfl (k18_ _ _) ?_))))
  rintro _ whs21 ⟨A22, c23, L1_24, rfl, hs21, ho25⟩
  replace hs21 := hs17.callF hs21
  refine ⟨_, rfl, WL.r 1 hs21 [] rfl (WL.nil (WC.sq1 hs21 (WQ.r 5 [] rfl ?_)))⟩
  apply WQ.gA 10 Acts.nil rfl
  ·intro g26 J27
   have qg26 := g26
   try simp only [bf, within_iff, within_not] at qg26
   refine WQ.runA tbk 1 (Acts.nil.cons (j := 4) rfl g26) [] rfl trivial ?_
   refine WQ.val (wantT rfl g26) rfl rfl (fun w_ hs_ => (Run.strOf (SlF.ofOwn ho25 ((hs_ : St _ _ _ _).ow L1_24)) Tryd.underlying22 Tryd.underlying5 Tryd.underlying9 rfl rfl)) ?_
   refine WQ.runA tbk 5 (Acts.nil.cons (j := 4) rfl g26) [] rfl ⟨by omega, trivial⟩ ?_
   refine WQ.val (wantT rfl g26) rfl rfl (fun w_ hs_ => (Run.sliceLH (0) (s) Tryd.runUnderlying22 Tryd.sizeOf5 rfl rfl rfl rfl ?_ ?_ ?_)) ?_
   · first | rfl | (omega)
   · first | rfl | (omega)
   · refine ⟨?_, ?_, ?_⟩ <;> (omega)
   refine WQ.val (wantT rfl g26) rfl rfl (fun w_ hs_ => (Run.strOf (SlF.cutC (lo := 0) (hi := s) (SlF.st0 f_b (hs_ : St _ _ _ _)) (by refine ⟨?_, ?_, ?_⟩ <;> (omega))) Tryd.underlying22 Tryd.underlying5 Tryd.underlying9 rfl rfl)) ?_
   refine WQ.runA tbk 1 (Acts.nil.cons (j := 4) rfl g26) [] rfl trivial (WQ.eA 10 Acts.nil J27 g26 rfl rfl)
  refine WQ.nil (fun _ (hs28 : St _ _ _ _) => ?_)
  refine WC.cq rfl (fun h29 qh29 => ?_) (fun h29 qh29 => ?_)
  ·refine WC.r1 hs28 [] rfl (WC.ret (ibR (tkR (tkR (ibR (tkR ?_))))))
   clear hK8 hK4
   refine retV2 rfl (resV.tmp rfl) (resV.tmp rfl) (⟨congrArg Ending.returned ?_, hs28.nil⟩)
   obtain rfl : i = s := by omega
   have hok : rtry b i = true := by rw [← rtry_iff (by omega), ← candI_cand (by omega) (by omega) (by omega)]; simpa [Int.ofNat_inj] using qh29
   rw [runeL_at hok p0 (by omega) p2, ← candI_cand (by omega) (by omega) (by omega)]; rfl
  refine WC.skip (hK8 _ _ (WC.region (WL.r 3 hs28 [] rfl (WL.nil (tkN ?_)))))
  refine ⟨sbF rfl, (hs28.drop (by repeat (first | exact List.Sublist.refl _ | exact List.sublist_append_left _ _ | exact List.Sublist.trans (List.sublist_append_left _ _) (List.sublist_append_left _ _) | apply List.Sublist.cons | refine List.Sublist.trans ?_ (sR _)))), _, ?_, s + 1, rfl, ?_, ?_, ?_, ⟨rfl, trivial⟩⟩
  · omega
  · omega
  · omega
  · intro t h1 h2; rcases Nat.lt_or_ge t s with h3 | h3
    · exact p2 t h1 h3
    obtain rfl : t = s := by omega
    obtain rfl : i = t := by omega
    rw [← rtry_iff (by omega), ← candI_cand (by omega) (by omega) (by omega)]; simpa [Int.ofNat_inj] using qh29
 refine WC.exit (hK4 _ _ (WC.r1 hs5 [] rfl (WC.ret (retV2 rfl (resV.tmp rfl) (resV.tmp rfl) (⟨congrArg Ending.returned ?_, hs5.nil⟩)))))
 have hno : runeL b = none := runeL_none (fun t h1 h3 => by
     rcases Nat.lt_or_ge t s with h4 | h4
     · exact p2 t h1 h4
     · exact rtry_len (by simp at qh7; omega))
 rw [hno]; rfl
theorem k27_ (A_b : Option Addr) (n_b c_b : Nat) (b : List UInt8) (w : World) (f_b : SlF encB w A_b n_b b) (hc : n_b ≤ c_b) (hn : n_b ≤ 549755813888) :
    Calls Tryd.prog 18 #[.slice A_b n_b c_b] w fun e w' => e = .returned (.bool (runeBeg b)) ∧ St w [] [] w' := by
 have hbl := f_b.len
 have hb0 : (gat encB b (Int.toNat 0)).toNat < 2 ^ 8 := (gat encB b 0).toNat_lt
 refine enter 47 Tryd.func18 rfl Tryd.ntmps18 rfl rfl ?_
 have hs1 := St.init w
 refine WC.r1 hs1 [] rfl (WC.seq (fun K2 hK2 => WC.r1 hs1 [] rfl (WC.block (WC.r1 hs1 [] rfl ?_))))
 refine WC.cD rfl (fun qh3 => ?_) (fun qh3 => ?_)
 ·refine WC.sr (WL.r 1 hs1 [] rfl (WL.val rfl rfl rfl (Run.idx Tryd.runUnderlying22 Tryd.sizeOf5 rfl rfl rfl ?_ ?_ ?_) ?_))
  · exact SlF.some_ (SlF.st0 f_b hs1)
  · omega
  · omega
  refine WL.val rfl rfl rfl (Run.load Tryd.isAgg5 rfl rfl (SlF.one1 (SlF.st0 f_b hs1) ?_ rfl)) ?_
  · omega
  refine WL.r 1 hs1 [] rfl (WL.cl Tryd.call23 rfl (k2_ _ _ _ _) ?_)
  rintro _ whs4 ⟨rfl, hs4⟩
  replace hs4 := hs1.call0 hs4
  refine ⟨_, rfl, WL.r 1 hs4 [] rfl (WL.nil (WC.ret (ibR (tkR ?_))))⟩
  clear hK2
  refine rtv rfl rfl hs4 ?_
  obtain ⟨x, rfl⟩ : ∃ x, b = [x] := List.length_eq_one_iff.1 (by omega)
  rfl
 refine WC.r1 hs1 [] rfl (WC.cD rfl (fun qh5 => ?_) (fun qh5 => ?_))
 ·have htl := tlV_bnd (l := b.drop 1) (by rw [List.length_drop]; omega)
  refine WC.sr (WL.r 1 hs1 [] rfl (WL.val rfl rfl rfl (Run.sliceL (1) Tryd.runUnderlying22 Tryd.sizeOf5 rfl rfl rfl ?_ ?_) ?_))
  · first | rfl | (omega)
  · refine ⟨?_, ?_, ?_⟩ <;> (omega)
  refine WL.cl Tryd.call37 rfl (k16_ _ _ _ _ _ (SlF.cutL (1) (SlF.st0 f_b hs1) (by refine ⟨?_, ?_, ?_⟩ <;> (omega))) ?_) ?_
  · first | assumption | rfl | omega
  rintro _ whs6 ⟨rfl, hs6⟩
  replace hs6 := hs1.call0 hs6
  refine ⟨_, rfl, WL.r 5 hs6 [] rfl (WL.nil (WC.sr (WL.r 1 hs6 [] rfl (WL.val rfl rfl rfl (Run.idx Tryd.runUnderlying22 Tryd.sizeOf5 rfl rfl rfl ?_ ?_ ?_) ?_))))⟩
  · exact SlF.some_ (SlF.st0 f_b hs6)
  · omega
  · omega
  refine WL.val rfl rfl rfl (Run.load Tryd.isAgg5 rfl rfl (SlF.one1 (SlF.st0 f_b hs6) ?_ rfl)) ?_
  · omega
  refine WL.r 7 hs6 [] rfl (WL.nil (WC.sr (WL.r 2 hs6 [] rfl ?_)))
  apply WL.gA 4 Acts.nil hs6 rfl
  ·intro g7 J8
   have qg7 := g7
   try simp only [bf, within_iff, within_not] at qg7
   refine WL.runA tbk 1 (Acts.nil.cons (j := 1) rfl g7) hs6 [] rfl trivial (WL.val (wantT rfl g7) rfl rfl (Run.idx Tryd.runUnderlying22 Tryd.sizeOf5 rfl rfl rfl ?_ ?_ ?_) ?_)
   · exact SlF.some_ (SlF.st0 f_b hs6)
   · omega
   · omega
   refine WL.val (wantT rfl g7) rfl rfl (Run.load Tryd.isAgg5 rfl rfl (SlF.one1 (SlF.st0 f_b hs6) ?_ rfl)) ?_
   · omega
   refine WL.runA tbk 1 (Acts.nil.cons (j := 1) rfl g7) hs6 [] rfl trivial (WL.eA 4 Acts.nil J8 hs6 g7 rfl rfl)
  intro _ hs9
  refine WL.r 1 hs9 [] rfl (WL.pA tbk 2 Acts.nil hs9 [] rfl rfl rfl rfl (fun g_ => trivial) (WL.r 1 hs9 [] rfl ?_))
  apply WL.gA 2 Acts.nil hs9 rfl
  ·intro g10 J11
   have qg10 := g10
   try simp only [bf, within_iff, within_not] at qg10
   refine WL.runA tbk 1 (Acts.nil.cons (j := 11) rfl g10) hs9 [] rfl trivial (WL.call (wantT rfl g10) rfl rfl (Run.call Tryd.call38 rfl rfl rfl) (k14_ _ _) ?_)
   rintro _ whs12 ⟨rfl, hs12⟩
   replace hs12 := hs9.call0 hs12
   refine ⟨_, rfl, WL.eA 2 Acts.nil J11 hs12 g10 rfl rfl⟩
  intro _ hs13
  refine WL.r 1 hs13 [] rfl (WL.nil (WC.ret (ibR (tkR ?_))))
  clear hK2
  refine retV1 rfl (resV.tmp rfl) (⟨congrArg Ending.returned (congrArg Value.bool (beg_two (by omega))), hs13.nil⟩)
 refine WC.skip (hK2 _ _ (WC.r1 hs1 [] rfl (WC.ret (rtv rfl rfl hs1 ?_))))
 have h9 : ¬ (b.length = 1 ∨ b.length = 2) := by omega
 rw [beg_len h9]
theorem k28_ (A_b : Option Addr) (n_b c_b : Nat) (b : List UInt8) (w : World) (f_b : SlF encB w A_b n_b b) (hc : n_b ≤ c_b) (hn : n_b ≤ 549755813888) :
    Calls Tryd.prog 58 #[.slice A_b n_b c_b] w fun e w' => e = .returned (.bool (runeBeg b)) ∧ St w [] [] w' := by
 have hbl := f_b.len
 refine enter 53 Tryd.func58 rfl Tryd.ntmps58 rfl rfl ?_
 have hs1 := St.init w
 refine WC.r1 hs1 [] rfl (WC.seq (fun K2 hK2 => WC.sr (WL.r 4 hs1 [] rfl (WL.pO tbk 3 Acts.nil hs1 [] rfl rfl rfl rfl (fun g_ => trivial) (WL.nil ?_)))))
 refine WC.cq rfl (fun h3 qh3 => ?_) (fun h3 qh3 => ?_)
 ·refine WC.r1 hs1 [] rfl (WC.ret (tkR ?_))
  clear hK2
  refine rtv rfl rfl hs1 ?_
  have h9 : ¬ (b.length = 1 ∨ b.length = 2) := by simp at qh3; omega
  rw [beg_len h9]
 have hl : b.length = 1 ∨ b.length = 2 := by simp at qh3; omega
 refine WC.skip (hK2 _ _ (WC.seq (fun K4 hK4 => WC.r1 hs1 [] rfl (WC.block ?_))))
 refine WC.lS [0, 17] rfl hs1 (fun k_ f w' => ∃ (x : Nat), k_ = 192 - x ∧ (128 ≤ x) ∧ (x ≤ 192) ∧ (∀ y : Nat, 128 ≤ y → y < x → begHit b (ub y) = false) ∧ Sub [(3, .int .i64 x)] f) ((fun (x : Nat) => 192 - x) (128)) ?_ ?_
 ·refine ⟨128, rfl, ?_, ?_, ?_, ⟨rfl, trivial⟩⟩
  · omega
  · omega
  · intro y h1 h2; omega
 clear hs1
 rintro _ f w ⟨x, rfl, p0, p1, p2, hG⟩ hF hs5
 refine WC.sub _ (hG.app hF) ?_
 clear hG hF
 refine WC.seq (fun K6 hK6 => WC.r1 hs5 [] rfl ?_)
 refine WC.cD rfl (fun qh7 => ?_) (fun qh7 => ?_)
 ·refine WC.skip (hK6 _ _ (WC.seq (fun K8 hK8 => WC.block (WC.sr (WL.buildF (F := encB) hs5 ([]) Tryd.runUnderlying22 Tryd.sizeOf5 Tryd.zeroValue5 rfl rfl rfl rfl rfl rfl rfl rfl rfl rfl rfl rfl (fun A12 c13 L9 whs10 hs10 ho11 => WL.r 1 hs10 [] rfl ?_))))))
  refine WL.appendG hs10 ho11 (SlF.src (SlF.st0 f_b hs10) Tryd.underlying22) Tryd.underlying22 inf5 rfl rfl rfl rfl rfl rfl rfl rfl rfl rfl ?_ (fun A17 c18 L14 whs15 hs15 ho16 => ?_)
  · simp; omega
  refine WL.r 2 hs15 [] rfl (WL.buildSlice hs15 Tryd.runUnderlying22 Tryd.sizeOf5 Tryd.zeroValue5 rfl rfl rfl rfl rfl rfl rfl rfl rfl rfl (fun b19 whs20 hs20 => ?_))
  refine WL.appendG (hs20.fr L14) ho16 (srcB1 Tryd.underlying22 (hs20.own _ (nthL_mem (i := 0) rfl)).1) Tryd.underlying22 inf5 rfl rfl rfl rfl rfl rfl rfl rfl rfl rfl ?_ (fun A24 c25 L21 whs22 hs22 ho23 => ?_)
  · simp; omega
  replace hs22 := St.back [_] hs22
  refine WL.r 1 hs22 [] rfl (WL.nil (WC.sr (WL.r 1 hs22 [] rfl (WL.cl Tryd.call67 rfl (k26_ _ _ _ _ _ (SlF.ofOwn ho23 (hs22.ow L21)) (OwnF.cap ho23) ?_) ?_))))
  · first | assumption | rfl | omega | (simp; omega)
  rintro _ whs26 ⟨rfl, hs26⟩
  replace hs26 := hs22.call0 hs26
  refine ⟨_, rfl, WL.r 5 hs26 [] rfl (WL.nil (WC.seq (fun K27 hK27 => WC.r1 hs26 [] rfl ?_)))⟩
  refine WC.cD rfl (fun qh28 => ?_) (fun qh28 => ?_)
  ·refine WC.r1 hs26 [] rfl (WC.ret (tkR (ibR (tkR (tkR (ibR (tkR ?_)))))))
   clear hK27 hK8 hK4
   refine rtv rfl rfl hs26 ?_
   rw [beg_yes hl p0 (by omega) (by unfold begHit; rw [decide_eq_true (by simpa [← Int.ofNat_inj] using qh28)]; rfl)]
  have e1 : ¬ rvS (runeL (b ++ [ub x])) = b.length + 1 := by simpa [← Int.ofNat_inj] using qh28
  refine WC.skip (hK27 _ _ (WC.r1 hs26 [] rfl ?_))
  refine WC.cD rfl (fun qh29 => ?_) (fun qh29 => ?_)
  ·refine WC.sr (WL.buildF (F := encB) hs26 ([]) Tryd.runUnderlying22 Tryd.sizeOf5 Tryd.zeroValue5 rfl rfl rfl rfl rfl rfl rfl rfl rfl rfl rfl rfl (fun A33 c34 L30 whs31 hs31 ho32 => ?_))
   replace hs31 := St.back [_] hs31
   refine WL.r 1 hs31 [] rfl (WL.appendG (hs31.fr L30) ho32 (SlF.src (SlF.ofOwn ho23 (hs31.ow L21)) Tryd.underlying22) Tryd.underlying22 inf5 rfl rfl rfl rfl rfl rfl rfl rfl rfl rfl ?_ (fun A38 c39 L35 whs36 hs36 ho37 => ?_))
   · simp; omega
   replace hs36 := St.back [_] hs36
   refine WL.buildSlice hs36 Tryd.runUnderlying22 Tryd.sizeOf5 Tryd.zeroValue5 rfl rfl rfl rfl rfl rfl rfl rfl rfl rfl (fun b40 whs41 hs41 => ?_)
   refine WL.appendG (hs41.fr L35) ho37 (srcF (F := encB) (ys := [129]) Tryd.underlying22 rfl rfl (hs41.own _ (nthL_mem (i := 0) rfl)).1) Tryd.underlying22 inf5 rfl rfl rfl rfl rfl rfl rfl rfl rfl rfl ?_ (fun A45 c46 L42 whs43 hs43 ho44 => ?_)
   · simp; omega
   replace hs43 := St.back [_, _] hs43
   refine WL.r 1 hs43 [] rfl (WL.nil (WC.sr (WL.r 1 hs43 [] rfl (WL.cl Tryd.call67 rfl (k26_ _ _ _ _ _ (SlF.ofOwn ho44 (hs43.ow L42)) (OwnF.cap ho44) ?_) ?_))))
   · first | assumption | rfl | omega | (simp; omega)
   rintro _ whs47 ⟨rfl, hs47⟩
   replace hs47 := hs43.call0 hs47
   refine ⟨_, rfl, WL.r 5 hs47 [] rfl (WL.nil (WC.r1 hs47 [] rfl (WC.cD rfl (fun qh48 => ?_) (fun qh48 => ?_))))⟩
   ·refine WC.r1 hs47 [] rfl (WC.ret (ibR (tkR (tkR (ibR (tkR ?_))))))
    clear hK8 hK4
    refine rtv rfl rfl hs47 ?_
    rw [beg_yes hl p0 (by omega) (by unfold begHit; rw [decide_eq_true (show b.length = 1 by omega), decide_eq_true (show rvS (runeL (b ++ [ub x, 129])) = 3 by simp at qh48; omega)]; simp)]
   have e2 : b.length = 1 → ¬ rvS (runeL (b ++ [ub x, 129])) = 3 := fun _ => by simp at qh48; omega
   refine WC.skip (hK8 _ _ (WC.region (WL.r 3 hs47 [] rfl (WL.nil (tkN ?_)))))
   refine ⟨sbF rfl, (hs47.drop (by repeat (first | exact List.Sublist.refl _ | exact List.sublist_append_left _ _ | exact List.Sublist.trans (List.sublist_append_left _ _) (List.sublist_append_left _ _) | apply List.Sublist.cons | refine List.Sublist.trans ?_ (sR _)))), _, ?_, x + 1, rfl, ?_, ?_, ?_, ⟨rfl, trivial⟩⟩
   · omega
   · omega
   · omega
   · intro y h1 h2; rcases Nat.lt_or_ge y x with h3 | h3
     · exact p2 y h1 h3
     obtain rfl : y = x := by omega
     unfold begHit; rw [decide_eq_false e1]; simp only [Bool.false_or, Bool.and_eq_false_iff, decide_eq_false_iff_not]; by_cases h9 : b.length = 1
     · exact .inr (e2 h9)
     · exact .inl h9
  have e2 : b.length = 1 → ¬ rvS (runeL (b ++ [ub x, 129])) = 3 := fun h_ => absurd h_ (by omega)
  refine WC.skip (hK8 _ _ (WC.region (WL.r 3 hs26 [] rfl (WL.nil (tkN ?_)))))
  refine ⟨sbF rfl, (hs26.drop (by repeat (first | exact List.Sublist.refl _ | exact List.sublist_append_left _ _ | exact List.Sublist.trans (List.sublist_append_left _ _) (List.sublist_append_left _ _) | apply List.Sublist.cons | refine List.Sublist.trans ?_ (sR _)))), _, ?_, x + 1, rfl, ?_, ?_, ?_, ⟨rfl, trivial⟩⟩
  · omega
  · omega
  · omega
  · intro y h1 h2; rcases Nat.lt_or_ge y x with h3 | h3
    · exact p2 y h1 h3
    obtain rfl : y = x := by omega
    unfold begHit; rw [decide_eq_false e1]; simp only [Bool.false_or, Bool.and_eq_false_iff, decide_eq_false_iff_not]; by_cases h9 : b.length = 1
    · exact .inr (e2 h9)
    · exact .inl h9
 refine WC.exit (hK4 _ _ (WC.r1 hs5 [] rfl (WC.ret (rtv rfl rfl hs5 ?_))))
 rw [beg_no hl (fun y h1 h2 => p2 y h1 (by omega))]
theorem k29_ (n : Int) (w : World) :
    Calls Tryd.prog 40 #[i64 n] w fun e w' => e = .returned (.bool (!within n 0 9999)) ∧ St w [] [] w' := by
 refine enter 6 Tryd.func40 rfl Tryd.ntmps40 rfl rfl ?_
 have hs1 := St.init w
 refine WC.r1 hs1 [] rfl (WC.sr (WL.r 1 hs1 [] rfl (WL.cl Tryd.call23 rfl (k2_ _ _ _ _) ?_)))
 rintro _ whs2 ⟨rfl, hs2⟩
 replace hs2 := hs1.call0 hs2
 refine ⟨_, rfl, WL.r 2 hs2 [] rfl (WL.nil (WC.ret (rtv rfl rfl hs2 ?_)))⟩
 rfl
theorem k30_ (A_s : Option Addr) (n_s c_s : Nat) (s : List Int) (w : World) (f_s : SlF encI w A_s n_s s) (hn : n_s ≤ 1099511627776) :
    Calls Tryd.prog 56 #[.slice A_s n_s c_s, .func (.func 40) #[] #[]] w fun e w' => e = .returned (.int .i64 (findI (fun n => !within n 0 9999) s)) ∧ St w [] [] w' := by
 refine enter 19 Tryd.func56 rfl Tryd.ntmps56 rfl rfl ?_
 have hs1 := St.init w
 refine WC.r1 hs1 [] rfl (WC.seq (fun K2 hK2 => WC.r1 hs1 [] rfl (WC.block ?_)))
 refine WC.lS [0, 1, 7] rfl hs1 (fun k_ f w' => ∃ (i : Nat), k_ = n_s - i ∧ (i ≤ n_s) ∧ (∀ j, j < i → (fun n => !within n 0 9999) (gat encI s j) = false) ∧ Sub [(8, .int .i64 i)] f) ((fun (i : Nat) => n_s - i) (0)) ?_ ?_
 ·refine ⟨0, rfl, ?_, ?_, ⟨rfl, trivial⟩⟩
  · exact Nat.zero_le _
  · exact fun j hj => absurd hj (by omega)
 clear hs1
 rintro _ f w ⟨i, rfl, p0, p1, hG⟩ hF hs3
 refine WC.sub _ (hG.app hF) ?_
 clear hG hF
 refine WC.r1 hs3 [] rfl (WC.seq (fun K4 hK4 => ?_))
 refine WC.cond rfl (fun h5 => ?_) (fun h5 => ?_)
 ·have qh5 := h5
  try simp only [decide_eq_true_eq, decide_eq_false_iff_not] at qh5
  refine WC.skip (hK4 _ _ (WC.seq (fun K6 hK6 => WC.block (WC.r1 hs3 [] rfl (WC.sr (WL.r 3 hs3 [] rfl ?_))))))
  refine WL.val rfl rfl rfl (Run.idxN Tryd.runUnderlying24 Tryd.sizeOf3 rfl rfl rfl ?_ ?_ ?_) ?_
  · exact SlF.some_ (SlF.st0 f_s hs3)
  · omega
  · omega
  refine WL.val rfl rfl rfl (Run.load Tryd.isAgg3 rfl rfl (SlF.one1 (SlF.st0 f_s hs3) ?_ rfl)) ?_
  · omega
  refine WL.cl Tryd.call40 rfl (k29_ _ _) ?_
  rintro _ whs7 ⟨rfl, hs7⟩
  replace hs7 := hs3.call0 hs7
  refine ⟨_, rfl, WL.nil (WC.cond rfl (fun h8 => ?_) (fun h8 => ?_))⟩
  ·have qh8 := h8
   try simp only [decide_eq_true_eq, decide_eq_false_iff_not] at qh8
   refine WC.r1 hs7 [] rfl (WC.ret (ibR (tkR (tkR (ibR (tkR ?_))))))
   clear hK6 hK2
   refine rtv rfl rfl hs7 ?_
   rw [findI_some (F := encI) (by rw [f_s.len]; omega) p1 h8]
  have qh8 := h8
  try simp only [decide_eq_true_eq, decide_eq_false_iff_not] at qh8
  refine WC.skip (hK6 _ _ (WC.region (WL.r 2 hs7 [] rfl (WL.nil (tkN ?_)))))
  refine ⟨sbF rfl, hs7, _, ?_, i + 1, rfl, ?_, ?_, ⟨rfl, trivial⟩⟩
  · omega
  · omega
  · intro j hj; rcases Nat.lt_or_ge j i with h_ | h_
    · exact p1 j h_
    · obtain rfl : j = i := by omega
      exact h8
 have qh5 := h5
 try simp only [decide_eq_true_eq, decide_eq_false_iff_not] at qh5
 refine WC.exit (hK2 _ _ (WC.r1 hs3 [] rfl (WC.ret (rtv rfl rfl hs3 ?_))))
 rw [findI_none (F := encI) (fun j hj => p1 j (by rw [f_s.len] at hj; omega))]
theorem k31_ (A_s : Option Addr) (n_s c_s : Nat) (s : List Int) (w : World) (f_s : SlF encI w A_s n_s s) (hn : n_s ≤ 549755813888) :
    Calls Tryd.prog 39 #[.slice A_s n_s c_s, .func (.func 40) #[] #[]] w fun e w' => e = .returned (.bool (decide (0 ≤ findI (fun n => !within n 0 9999) s))) ∧ St w [] [] w' := by
 refine enter 9 Tryd.func39 rfl Tryd.ntmps39 rfl rfl ?_
 have hs1 := St.init w
 refine WC.r1 hs1 [] rfl (WC.sr (WL.r 2 hs1 [] rfl (WL.cl Tryd.call56 rfl (k30_ _ _ _ _ _ (SlF.st0 f_s hs1) ?_) ?_)))
 · first | assumption | rfl | omega
 rintro _ whs2 ⟨rfl, hs2⟩
 replace hs2 := hs1.call0 hs2
 refine ⟨_, rfl, WL.r 2 hs2 [] rfl (WL.nil (WC.ret (rtv rfl rfl hs2 ?_)))⟩
 rfl
theorem k32_ (A_l : Option Addr) (n_l c_l : Nat) (l : List Int) (w : World) (f_l : SlF encI w A_l n_l l) (hn : n_l ≤ 549755813888) :
    Calls Tryd.prog 19 #[.slice A_l n_l c_l] w fun e w' => e = .returned (.bool (areArgs l)) ∧ St w [] [] w' := by
 refine enter 11 Tryd.func19 rfl Tryd.ntmps19 rfl rfl ?_
 have hs1 := St.init w
 refine WC.r1 hs1 [] rfl (WC.sr (WL.r 4 hs1 [] rfl ?_))
 apply WL.gA 3 Acts.nil hs1 rfl
 ·intro g2 J3
  have qg2 := g2
  try simp only [bf, within_iff, within_not] at qg2
  refine WL.runA tbk 1 (Acts.nil.cons (j := 3) rfl g2) hs1 [] rfl trivial (WL.call (wantT rfl g2) rfl rfl (Run.call Tryd.call39 rfl rfl rfl) (k31_ _ _ _ _ _ (SlF.st0 f_l hs1) ?_) ?_)
  · first | assumption | rfl | omega
  rintro _ whs4 ⟨rfl, hs4⟩
  replace hs4 := hs1.call0 hs4
  refine ⟨_, rfl, WL.runA tbk 1 (Acts.nil.cons (j := 3) rfl g2) hs4 [] rfl trivial (WL.eA 3 Acts.nil J3 hs4 g2 rfl rfl)⟩
 intro _ hs5
 refine WL.r 1 hs5 [] rfl (WL.nil (WC.ret (rtv rfl rfl hs5 ?_)))
 rw [all_find, ← f_l.len]; unfold areArgs; rw [show decide ((l.length : Int) ≤ 8) = decide (l.length ≤ 8) from by rw [decide_eq_decide]; omega]
theorem k33_ (n : Int) (w : World) :
    Calls Tryd.prog 57 #[i64 n] w fun e w' => e = .returned (.bool (decide (n = 2) || decide (n = 3))) ∧ St w [] [] w' := by
 refine enter 9 Tryd.func57 rfl Tryd.ntmps57 rfl rfl ?_
 have hs1 := St.init w
 refine WC.r1 hs1 [] rfl (WC.sr (WL.r 3 hs1 [] rfl (WL.pO tbk 2 Acts.nil hs1 [] rfl rfl rfl rfl (fun g_ => trivial) (WL.r 1 hs1 [] rfl (WL.nil (WC.ret (retV1 rfl (resV.tmp rfl) ?_)))))))
 refine ⟨congrArg Ending.returned ?_, hs1.nil⟩
 rfl
theorem k34_ (p : VpR) (w : World) (f_p : okVpR 549755813888 w p) :
    Calls Tryd.prog 41 #[.agg #[i64 p.State, .bool p.Mark, .slice p.Args.A p.Args.n p.Args.c, .slice p.Part.A p.Part.n p.Part.c]] w fun e w' => e = .returned (.bool (vpOk p.dat)) ∧ St w [] [] w' := by
 have nb_p_Args := f_p.Args_n
 have nl_p_Args := f_p.Args.len
 have nb_p_Part := f_p.Part_n
 have nl_p_Part := f_p.Part.len
 have hal := f_p.Args.len
 have hpl := f_p.Part.len
 have e1 : decide ((p.Args.n : Int) = 0) = decide (p.dat.Args.length = 0) := by rw [decide_eq_decide]; show _ ↔ p.Args.xs.length = 0; omega
 have e2 : decide ((p.Part.n : Int) = 0) = decide (p.dat.Part.length = 0) := by rw [decide_eq_decide]; show _ ↔ p.Part.xs.length = 0; omega
 refine enter 63 Tryd.func41 rfl Tryd.ntmps41 rfl rfl ?_
 have hs1 := St.init w
 refine WC.sr (WL.bx hs1 rfl (fun b2 _ hs3 => WL.r 1 hs3 [] rfl (WL.nil (WC.seq (fun K4 hK4 => WC.sr (WL.r 4 hs3 [0] rfl (WL.pO tbk 3 Acts.nil hs3 [0] rfl rfl rfl rfl (fun g_ => ⟨rfl, trivial⟩) ?_)))))))
 refine WL.r 1 hs3 [] rfl (WL.pO tbk 4 Acts.nil hs3 [0] rfl rfl rfl rfl (fun g_ => ⟨rfl, trivial⟩) (WL.r 1 hs3 [] rfl ?_))
 apply WL.gO 14 Acts.nil hs3 rfl
 ·intro g5 J6
  have qg5 := g5
  try simp only [bf, within_iff, within_not] at qg5
  refine WL.runA tbk 2 (Acts.nil.cons (j := 14) rfl g5) hs3 [0] rfl ⟨rfl, trivial⟩ (WL.call (wantF rfl g5) rfl rfl (Run.call Tryd.call57 rfl rfl rfl) (k33_ _ _) ?_)
  rintro _ whs7 ⟨rfl, hs7⟩
  replace hs7 := hs3.call0 hs7
  refine ⟨_, rfl, WL.runA tbk 2 (Acts.nil.cons (j := 14) rfl g5) hs7 [] rfl trivial ?_⟩
  apply WL.gA 8 (Acts.nil.cons (j := 14) rfl g5) hs7 rfl
  ·intro g8 J9
   have qg8 := g8
   try simp only [bf, within_iff, within_not] at qg8
   refine WL.runA tbk 3 (Acts.nil.cons (j := 19) rfl g8) hs7 [0] rfl ⟨rfl, trivial⟩ (WL.pO tbk 4 (Acts.nil.cons (j := 19) rfl g8) hs7 [0] rfl rfl rfl rfl (fun g_ => ⟨rfl, trivial⟩) (WL.eA 4 (Acts.nil.cons (j := 14) rfl g5) J9 hs7 g8 rfl rfl))
  intro _ hs10
  exact WL.eO 6 Acts.nil J6 hs10 g5 rfl rfl
 intro _ hs11
 refine WL.nil (WC.cq rfl (fun h12 qh12 => ?_) (fun h12 qh12 => ?_))
 ·have hbad : vpBad p.dat = true := by unfold vpBad; rw [show p.dat.Args.length = p.Args.n from hal]; exact h12
  refine WC.r1 hs11 [] rfl (WC.ret (tkR ?_))
  clear hK4
  refine rtv rfl rfl hs11 ?_
  rw [vpOk_bad hbad]
 have hbad : vpBad p.dat = false := by unfold vpBad; rw [show p.dat.Args.length = p.Args.n from hal]; exact h12
 refine WC.skip (hK4 _ _ (WC.seq (fun K13 hK13 => WC.r1 hs11 [0] rfl (WC.block ?_))))
 refine WC.lS [1, 34, 36, 37] rfl hs11 (fun k_ f w' => ∃ (i : Nat), k_ = p.Args.n - i ∧ (i ≤ p.Args.n) ∧ (∀ j, j < i → within (gat encI p.Args.xs j) 0 9999 = true) ∧ Sub [(38, .int .i64 i)] f) ((fun (i : Nat) => p.Args.n - i) (0)) ?_ ?_
 ·refine ⟨0, rfl, ?_, ?_, ⟨rfl, trivial⟩⟩
  · exact Nat.zero_le _
  · exact fun j hj => absurd hj (by omega)
 clear hs11
 rintro _ f w ⟨i, rfl, p0, p1, hG⟩ hF hs14
 refine WC.sub _ (hG.app hF) ?_
 clear hG hF
 refine WC.r1 hs14 [] rfl (WC.seq (fun K15 hK15 => ?_))
 refine WC.cD rfl (fun qh16 => ?_) (fun qh16 => ?_)
 ·refine WC.skip (hK15 _ _ (WC.seq (fun K17 hK17 => WC.block (WC.sr ?_))))
  refine WL.val rfl rfl rfl (Run.idxN Tryd.runUnderlying24 Tryd.sizeOf3 rfl rfl rfl ?_ ?_ ?_) ?_
  · exact SlF.some_ (SlF.st0 f_p.Args hs14)
  · omega
  · omega
  refine WL.val rfl rfl rfl (Run.load Tryd.isAgg3 rfl rfl (SlF.one1 (SlF.st0 f_p.Args hs14) ?_ rfl)) ?_
  · omega
  refine WL.r 1 hs14 [] rfl (WL.nil (WC.sr (WL.r 3 hs14 [] rfl (WL.pO tbk 2 Acts.nil hs14 [] rfl rfl rfl rfl (fun g_ => trivial) (WL.nil (WC.cq rfl (fun h18 qh18 => ?_) (fun h18 qh18 => ?_)))))))
  ·refine WC.r1 hs14 [] rfl (WC.ret (ibR (tkR (tkR (ibR (tkR ?_))))))
   clear hK17 hK13
   refine rtv rfl rfl hs14 ?_
   rw [vpOk_arg (v := p.dat) (j := i) (by show i < p.Args.xs.length; omega) (by rw [← Bool.not_eq_true, within_iff]; show ¬ (0 ≤ gat encI p.Args.xs i ∧ gat encI p.Args.xs i ≤ 9999); simp at qh18; omega)]
  refine WC.skip (hK17 _ _ (WC.region (WL.r 2 hs14 [] rfl (WL.nil (tkN ?_)))))
  refine ⟨sbF rfl, hs14, _, ?_, i + 1, rfl, ?_, ?_, ⟨rfl, trivial⟩⟩
  · omega
  · omega
  · intro j hj; rcases Nat.lt_or_ge j i with h_ | h_
    · exact p1 j h_
    · obtain rfl : j = i := by omega
      rw [within_iff]; simp at qh18; omega
 refine WC.exit (hK13 _ _ (WC.sr (WL.r 5 hs14 [0] rfl ?_)))
 apply WL.gO 8 Acts.nil hs14 rfl
 ·intro g19 J20
  have qg19 := g19
  try simp only [bf, within_iff, within_not] at qg19
  refine WL.runA tbk 4 (Acts.nil.cons (j := 4) rfl g19) hs14 [0] rfl ⟨rfl, trivial⟩ ?_
  apply WL.gA 3 (Acts.nil.cons (j := 4) rfl g19) hs14 rfl
  ·intro g21 J22
   have qg21 := g21
   try simp only [bf, within_iff, within_not] at qg21
   refine WL.runA tbk 2 (Acts.nil.cons (j := 8) rfl g21) hs14 [0] rfl ⟨rfl, trivial⟩ (WL.call (wantT rfl g21) rfl rfl (Run.call Tryd.call58 rfl rfl rfl) (k28_ _ _ _ _ _ (SlF.st0 f_p.Part hs14) f_p.Part_c ?_) ?_)
   · first | assumption | rfl | omega
   rintro _ whs23 ⟨rfl, hs23⟩
   replace hs23 := hs14.call0 hs23
   refine ⟨_, rfl, WL.eA 3 (Acts.nil.cons (j := 4) rfl g19) J22 hs23 g21 rfl rfl⟩
  intro _ hs24
  exact WL.eO 5 Acts.nil J20 hs24 g19 rfl rfl
 intro _ hs25
 refine WL.r 1 hs25 [] rfl (WL.nil (WC.ret (rtv rfl rfl hs25 ?_)))
 rw [vpOk_end hbad (fun j hj => p1 j (by have : j < p.Args.xs.length := hj; omega)), e2]; rfl
theorem built_26_0_1_2_3 (x0 : Int) (x1 : Bool) (x2 : Option Addr) (x3 : Nat) (x4 : Nat) (x5 : Option Addr) (x6 : Nat) (x7 : Nat) : Tryd.prog.built 26 [(0, .int .i64 x0), (1, .bool x1), (2, .slice x2 x3 x4), (3, .slice x5 x6 x7)] = some (List.toArray [.int .i64 x0, .bool x1, .slice x2 x3 x4, .slice x5 x6 x7]) := by kernel_rfl
theorem k35_ (p : VpR) (w : World) (f_p : okVpR 549755813888 w p) (hsm : smVp 1048576 p.dat) :
    Calls Tryd.prog 35 #[.agg #[i64 p.State, .bool p.Mark, .slice p.Args.A p.Args.n p.Args.c, .slice p.Part.A p.Part.n p.Part.c]] w fun e w' => ∃ r L1, e = .returned (.agg #[i64 r.State, .bool r.Mark, .slice r.Args.A r.Args.n r.Args.c, .slice r.Part.A r.Part.n r.Part.c]) ∧ St w [] L1 w' ∧ ownVpR r L1 ∧ r.dat = p.dat := by
 have nb_p_Args := f_p.Args_n
 have nl_p_Args := f_p.Args.len
 have nb_p_Part := f_p.Part_n
 have nl_p_Part := f_p.Part.len
 have hsB : smVp 549755813888 p.dat := ⟨Nat.le_trans hsm.1 (by decide), Nat.le_trans hsm.2 (by decide)⟩
 have hsa : p.Args.xs.length ≤ 1048576 := hsm.1
 have hsp : p.Part.xs.length ≤ 1048576 := hsm.2
 refine enter 14 Tryd.func35 rfl Tryd.ntmps35 rfl rfl ?_
 have hs1 := St.init w
 refine WC.sr (WL.bx hs1 rfl (fun b2 _ hs3 => WL.al hs3 Tryd.zeroValue26 rfl rfl (fun b4 _ hs5 => WL.nil (WC.seq (fun K6 hK6 => WC.rH hs5.d1 hs5 (fun _ hs7 => ?_))))))
 refine WH.rn [0, 1, 2, 3, 4, 5, 7, 8] hs7.d1 [0, 0, 0, 0] rfl rfl (WH.o1 6 rfl (WL.cl Tryd.call52 rfl (k21_ _ _ _ _ _ (SlF.st0 f_p.Args hs7) ?_) ?_))
 · first | assumption | rfl | omega
 rintro _ whs8 ⟨A9, c10, L1_11, rfl, hs8, ho12⟩
 replace hs8 := hs7.callF hs8
 refine ⟨_, rfl, ?_⟩
 replace hs8 := St.back [_, _] hs8
 refine WL.nil ⟨(hs8.d1.rm L1_11), WH.o1 9 rfl (WL.cl Tryd.call53 rfl (k20_ _ _ _ _ _ (SlF.st0 f_p.Part hs8) ?_) ?_)⟩
 · first | assumption | rfl | omega
 rintro _ whs13 ⟨A14, c15, L1_16, rfl, hs13, ho17⟩
 replace hs13 := hs8.callF hs13
 refine ⟨_, rfl, ?_⟩
 replace hs13 := St.back [_, _] hs13
 refine WL.nil ⟨((hs13.d1.rm L1_16).rm L1_11), ?_⟩
 refine WH.take 10 rfl (by kernel_rfl) rfl rfl rfl ((hs13.d1.rm L1_16).rm L1_11) (fun w_ hs_ => (Run.build rfl rfl rfl rfl (built_26_0_1_2_3 _ _ _ _ _ _ _ _))) ?_
 refine WH.o1 11 rfl (WL.st tbk hs13 0 rfl rfl (fun _ hs18 => WL.nil ⟨((hs18.d1.rm L1_16).rm L1_11), WH.dn (hK6 _ _ (WC.ret (retV1 rfl (resV.cellA tbk hs18 0 rfl rfl rfl rfl) ?_)))⟩))
 obtain ⟨L20, hs19, ho21⟩ := ownVpR.fl hs18 ho12 ho17
 have hs22 := ((hs19.fb b2).fb b4)
 refine ownVpR.ret rfl (St.keep1 (hs22.fr L20)) ho21 ?_
 · exact VpD.ext' rfl rfl rfl rfl
theorem k36_ (p : VpR) (w : World) (f_p : okVpR 549755813888 w p) (hsm : smVp 1048576 p.dat) :
    Calls Tryd.prog 42 #[.agg #[i64 p.State, .bool p.Mark, .slice p.Args.A p.Args.n p.Args.c, .slice p.Part.A p.Part.n p.Part.c]] w fun e w' => ∃ r L1, e = .returned (.agg #[i64 r.State, .bool r.Mark, .slice r.Args.A r.Args.n r.Args.c, .slice r.Part.A r.Part.n r.Part.c]) ∧ St w [] L1 w' ∧ ownVpR r L1 ∧ r.dat = p.dat := by
 have nb_p_Args := f_p.Args_n
 have nl_p_Args := f_p.Args.len
 have nb_p_Part := f_p.Part_n
 have nl_p_Part := f_p.Part.len
 have hsB : smVp 549755813888 p.dat := ⟨Nat.le_trans hsm.1 (by decide), Nat.le_trans hsm.2 (by decide)⟩
 have hsa : p.Args.xs.length ≤ 1048576 := hsm.1
 have hsp : p.Part.xs.length ≤ 1048576 := hsm.2
 refine enter 14 Tryd.func42 rfl Tryd.ntmps42 rfl rfl ?_
 have hs1 := St.init w
 refine WC.sr (WL.bx hs1 rfl (fun b2 _ hs3 => WL.al hs3 Tryd.zeroValue26 rfl rfl (fun b4 _ hs5 => WL.nil (WC.sr (WL.buildF (F := encI) hs5 ([]) Tryd.runUnderlying24 Tryd.sizeOf3 Tryd.zeroValue3 rfl rfl rfl rfl rfl rfl rfl rfl rfl rfl rfl rfl (fun A9 c10 L6 whs7 hs7 ho8 => ?_))))))
 replace hs7 := St.back [_, _] hs7
 refine WL.r 2 hs7 [1] rfl (WL.appendG (hs7.fr L6) ho8 (SlF.src (SlF.st0 f_p.Args hs7) Tryd.underlying24) Tryd.underlying24 inf3 rfl rfl rfl rfl rfl rfl rfl rfl rfl rfl ?_ (fun A14 c15 L11 whs12 hs12 ho13 => ?_))
 · first | omega | (simp; omega)
 replace hs12 := St.back [_, _] hs12
 refine WL.r 1 hs12 [] rfl (WL.st tbk hs12 1 rfl rfl (fun _ hs16 => WL.nil (WC.sr (WL.buildF (F := encB) hs16 ([]) Tryd.runUnderlying22 Tryd.sizeOf5 Tryd.zeroValue5 rfl rfl rfl rfl rfl rfl rfl rfl rfl rfl rfl rfl (fun A20 c21 L17 whs18 hs18 ho19 => ?_)))))
 replace hs18 := St.back [_, _] hs18
 refine WL.r 2 hs18 [1] rfl (WL.appendG (hs18.fr L17) ho19 (SlF.src (SlF.st0 f_p.Part hs18) Tryd.underlying22) Tryd.underlying22 inf5 rfl rfl rfl rfl rfl rfl rfl rfl rfl rfl ?_ (fun A25 c26 L22 whs23 hs23 ho24 => ?_))
 · first | omega | (simp; omega)
 replace hs23 := St.back [_, _] hs23
 refine WL.r 1 hs23 [] rfl (WL.st tbk hs23 1 rfl rfl (fun _ hs27 => WL.nil (WC.sr (WL.r 1 hs27 [1] rfl (WL.st tbk hs27 0 rfl rfl (fun _ hs28 => WL.nil (WC.ret ?_)))))))
 refine retV1 rfl (resV.cellA tbk hs28 0 rfl rfl rfl rfl) ?_
 obtain ⟨L30, hs29, ho31⟩ := ownVpR.fl hs28 ho13 ho24
 have hs32 := ((hs29.fb b2).fb b4)
 refine ownVpR.ret rfl (St.keep1 (hs32.fr L30)) ho31 ?_
 · exact VpD.ext' rfl rfl rfl rfl
theorem built_26 : Tryd.prog.built 26 [] = some (List.toArray [.int .i64 0, .bool false, .slice none 0 0, .slice none 0 0]) := by kernel_rfl
theorem built_33_0_1 (x0 : Int) (x1 : Int) : Tryd.prog.built 33 [(0, .int .i64 x0), (1, .int .i64 x1)] = some (List.toArray [.int .i64 x0, .int .i64 x1, .bool false, .slice none 0 0]) := by kernel_rfl
theorem built_26_3 (x0 : Option Addr) (x1 : Nat) (x2 : Nat) : Tryd.prog.built 26 [(3, .slice x0 x1 x2)] = some (List.toArray [.int .i64 0, .bool false, .slice none 0 0, .slice x0 x1 x2]) := by kernel_rfl
theorem built_33 : Tryd.prog.built 33 [] = some (List.toArray [.int .i64 0, .int .i64 0, .bool false, .slice none 0 0]) := by kernel_rfl
theorem k37_ (A_p : Option Addr) (n_p c_p : Nat) (p : List UInt8) (b : Int) (w : World) (f_p : SlF encB w A_p n_p p) (hn : n_p ≤ 1048576) :
    Calls Tryd.prog 59 #[.slice A_p n_p c_p, i64 b] w fun e w' => ∃ r0 L0 r1 L1, e = .returned (.tuple #[.agg #[i64 r0.State, .bool r0.Mark, .slice r0.Args.A r0.Args.n r0.Args.c, .slice r0.Part.A r0.Part.n r0.Part.c], .agg #[i64 r1.Kind, i64 r1.R, .bool r1.Mark, .slice r1.Args.A r1.Args.n r1.Args.c]]) ∧ St w [] (L0 ++ L1) w' ∧ ownVpR r0 L0 ∧ ownActR r1 L1 ∧ r0.dat = (vpPlain p b).1 ∧ r1.dat = (vpPlain p b).2 := by
 have hpl := f_p.len
 refine enter 49 Tryd.func59 rfl Tryd.ntmps59 rfl rfl ?_
 have hs1 := St.init w
 refine WC.sr (WL.al hs1 Tryd.zeroValue26 rfl rfl (fun b2 _ hs3 => WL.al hs3 Tryd.zeroValue33 rfl rfl (fun b4 _ hs5 => WL.nil (WC.seq (fun K6 hK6 => WC.sr (WL.r 3 hs5 [] rfl (WL.pO tbk 2 Acts.nil hs5 [] rfl rfl rfl rfl (fun g_ => trivial) ?_)))))))
 refine WL.nil (WC.cq rfl (fun h7 qh7 => ?_) (fun h7 qh7 => ?_))
 ·refine WC.sr ?_
  refine WL.val rfl rfl rfl (Run.build rfl rfl rfl rfl (built_26)) (WL.r 1 hs5 [] rfl ?_)
  refine WL.val rfl rfl rfl (Run.build rfl rfl rfl rfl (built_33_0_1 _ _)) (WL.st tbk hs5 1 rfl rfl (fun _ hs8 => WL.st tbk hs8 0 rfl rfl (fun _ hs9 => WL.nil (WC.ret (tkR ?_)))))
  clear hK6
  refine retV2 rfl (resV.cellA tbk hs9 1 rfl rfl rfl rfl) (resV.cellA tbk hs9 0 rfl rfl rfl rfl) ?_
  have hv : vpPlain p b = (vp0, ⟨2, b, false, []⟩) := by unfold vpPlain; rw [if_pos (by simp at qh7; omega)]
  try simp only [List.nil_append] at *
  obtain ⟨L13, hs12, ho14⟩ := ownVpR.fl hs9 (OwnF.nil _ _) (OwnF.nil _ _)
  have hs15 := ((hs12.fb b2).fb b4)
  refine ⟨⟨0, false, ⟨none, 0, 0, []⟩, ⟨none, 0, 0, []⟩⟩, _, ⟨(2), b, false, ⟨none, 0, 0, []⟩⟩, _, rfl, (St.drop ((hs15.fr ([] : Hp)).fr L13) (List.Sublist.append_left (List.sublist_append_left ([] : Hp) _) L13)), ?_, ?_, ?_, ?_⟩
  · exact (by exact ho14)
  · exact (OwnF.nil _ _)
  · rw [hv]; rfl
  · rw [hv]; rfl
 have hn1 : ¬ (b < 32 ∨ b = 127) := by simp at qh7; omega
 refine WC.skip (hK6 _ _ (WC.seq (fun K17 hK17 => WC.r1 hs5 [] rfl ?_)))
 refine WC.cD rfl (fun qh18 => ?_) (fun qh18 => ?_)
 ·refine WC.sr ?_
  refine WL.val rfl rfl rfl (Run.build rfl rfl rfl rfl (built_26)) (WL.r 1 hs5 [] rfl ?_)
  refine WL.val rfl rfl rfl (Run.build rfl rfl rfl rfl (built_33_0_1 _ _)) (WL.st tbk hs5 1 rfl rfl (fun _ hs19 => WL.st tbk hs19 0 rfl rfl (fun _ hs20 => WL.nil (WC.ret (tkR ?_)))))
  clear hK17
  refine retV2 rfl (resV.cellA tbk hs20 1 rfl rfl rfl rfl) (resV.cellA tbk hs20 0 rfl rfl rfl rfl) ?_
  have hv : vpPlain p b = (vp0, ⟨1, b, false, []⟩) := by unfold vpPlain; rw [if_neg (by simp at *; omega), if_pos (by omega)]
  try simp only [List.nil_append] at *
  obtain ⟨L24, hs23, ho25⟩ := ownVpR.fl hs20 (OwnF.nil _ _) (OwnF.nil _ _)
  have hs26 := ((hs23.fb b2).fb b4)
  refine ⟨⟨0, false, ⟨none, 0, 0, []⟩, ⟨none, 0, 0, []⟩⟩, _, ⟨(1), b, false, ⟨none, 0, 0, []⟩⟩, _, rfl, (St.drop ((hs26.fr ([] : Hp)).fr L24) (List.Sublist.append_left (List.sublist_append_left ([] : Hp) _) L24)), ?_, ?_, ?_, ?_⟩
  · exact (by exact ho25)
  · exact (OwnF.nil _ _)
  · rw [hv]; rfl
  · rw [hv]; rfl
 refine WC.skip (hK17 _ _ (WC.sr (WL.buildF (F := encB) hs5 ([]) Tryd.runUnderlying22 Tryd.sizeOf5 Tryd.zeroValue5 rfl rfl rfl rfl rfl rfl rfl rfl rfl rfl rfl rfl (fun A31 c32 L28 whs29 hs29 ho30 => ?_))))
 replace hs29 := St.back [_, _] hs29
 refine WL.r 1 hs29 [] rfl (WL.appendG (hs29.fr L28) ho30 (SlF.src (SlF.st0 f_p hs29) Tryd.underlying22) Tryd.underlying22 inf5 rfl rfl rfl rfl rfl rfl rfl rfl rfl rfl ?_ (fun A36 c37 L33 whs34 hs34 ho35 => ?_))
 · first | omega | (simp; omega)
 replace hs34 := St.back [_, _] hs34
 refine WL.r 2 hs34 [] rfl (WL.buildSlice hs34 Tryd.runUnderlying22 Tryd.sizeOf5 Tryd.zeroValue5 rfl rfl rfl rfl rfl rfl rfl rfl rfl rfl (fun b38 whs39 hs39 => ?_))
 refine WL.appendG (hs39.fr L33) ho35 (srcB1 Tryd.underlying22 (hs39.own _ (nthL_mem (i := 0) rfl)).1) Tryd.underlying22 inf5 rfl rfl rfl rfl rfl rfl rfl rfl rfl rfl ?_ (fun A43 c44 L40 whs41 hs41 ho42 => ?_)
 · first | omega | (simp; omega)
 replace hs41 := St.back [_, _, _] hs41
 refine WL.r 1 hs41 [] rfl (WL.nil (WC.sr (WL.r 1 hs41 [] rfl (WL.cl Tryd.call67 rfl (k26_ _ _ _ _ _ (SlF.ofOwn ho42 (hs41.ow L40)) (OwnF.cap ho42) ?_) ?_))))
 · first | assumption | rfl | omega | (simp; omega)
 rintro _ whs45 ⟨rfl, hs45⟩
 replace hs45 := hs41.call0 hs45
 refine ⟨_, rfl, WL.r 5 hs45 [] rfl (WL.nil (WC.seq (fun K46 hK46 => WC.r1 hs45 [] rfl ?_)))⟩
 refine WC.cD rfl (fun qh47 => ?_) (fun qh47 => ?_)
 ·refine WC.sr ?_
  refine WL.val rfl rfl rfl (Run.build rfl rfl rfl rfl (built_26)) (WL.r 1 hs45 [] rfl ?_)
  refine WL.val rfl rfl rfl (Run.build rfl rfl rfl rfl (built_33_0_1 _ _)) (WL.st tbk hs45 2 rfl rfl (fun _ hs48 => WL.st tbk hs48 1 rfl rfl (fun _ hs49 => WL.nil (WC.ret (tkR ?_)))))
  clear hK46
  refine retV2 rfl (resV.cellA tbk hs49 2 rfl rfl rfl rfl) (resV.cellA tbk hs49 1 rfl rfl rfl rfl) ?_
  have hv : vpPlain p b = (vp0, ⟨1, rvN (runeL (p ++ [ub b])), false, []⟩) := by unfold vpPlain; rw [if_neg hn1, if_neg (by omega), if_pos (by simpa [← Int.ofNat_inj] using qh47)]
  try simp only [List.nil_append] at *
  obtain ⟨L53, hs52, ho54⟩ := ownVpR.fl hs49 (OwnF.nil _ _) (OwnF.nil _ _)
  have hs55 := (((hs52.fb b2).fb b4).fb b38)
  refine ⟨⟨0, false, ⟨none, 0, 0, []⟩, ⟨none, 0, 0, []⟩⟩, _, ⟨(1), _, false, ⟨none, 0, 0, []⟩⟩, _, rfl, (St.drop ((hs55.fr ([] : Hp)).fr L53) (List.Sublist.append_left (List.sublist_append_left ([] : Hp) _) L53)), ?_, ?_, ?_, ?_⟩
  · exact (by exact ho54)
  · exact (OwnF.nil _ _)
  · rw [hv]; rfl
  · rw [hv]; rfl
 have hn3 : ¬ rvS (runeL (p ++ [ub b])) = (p ++ [ub b]).length := by simpa [← Int.ofNat_inj] using qh47
 refine WC.skip (hK46 _ _ (WC.seq (fun K57 hK57 => WC.sr (WL.r 1 hs45 [] rfl ?_))))
 refine WL.cl Tryd.call58 rfl (k28_ _ _ _ _ _ (SlF.ofOwn ho42 (hs45.ow L40)) (OwnF.cap ho42) ?_) ?_
 · first | assumption | rfl | omega | (simp; omega)
 rintro _ whs58 ⟨rfl, hs58⟩
 replace hs58 := hs45.call0 hs58
 refine ⟨_, rfl, WL.nil (WC.cq rfl (fun h59 qh59 => ?_) (fun h59 qh59 => ?_))⟩
 ·refine WC.sr (WL.r 1 hs58 [] rfl ?_)
  refine WL.val rfl rfl rfl (Run.build rfl rfl rfl rfl (built_26_3 _ _ _)) ?_
  refine WL.val rfl rfl rfl (Run.build rfl rfl rfl rfl (built_33)) (WL.st tbk hs58 2 rfl rfl (fun _ hs60 => WL.st tbk hs60 1 rfl rfl (fun _ hs61 => WL.nil (WC.ret (tkR ?_)))))
  clear hK57
  refine retV2 rfl (resV.cellA tbk hs61 2 rfl rfl rfl rfl) (resV.cellA tbk hs61 1 rfl rfl rfl rfl) ?_
  have hv : vpPlain p b = (⟨0, false, [], p ++ [ub b]⟩, act0) := by unfold vpPlain; rw [if_neg hn1, if_neg (by omega), if_neg hn3, if_pos (by simpa using h59)]
  try simp only [List.nil_append] at *
  obtain ⟨L64, hs63, ho65⟩ := ownVpR.fl hs61 (OwnF.nil _ _) ho42
  have hs66 := (((hs63.fb b2).fb b4).fb b38)
  refine ⟨⟨0, false, ⟨none, 0, 0, []⟩, SlD.of ho42⟩, _, ⟨0, 0, false, ⟨none, 0, 0, []⟩⟩, _, rfl, (St.drop ((hs66.fr ([] : Hp)).fr L64) (List.Sublist.append_left (List.sublist_append_left ([] : Hp) _) L64)), ?_, ?_, ?_, ?_⟩
  · exact (by exact ho65)
  · exact (OwnF.nil _ _)
  · rw [hv]; rfl
  · rw [hv]; rfl
 refine WC.skip (hK57 _ _ (WC.sr ?_))
 refine WL.val rfl rfl rfl (Run.build rfl rfl rfl rfl (built_26)) ?_
 refine WL.val rfl rfl rfl (Run.build rfl rfl rfl rfl (built_33_0_1 _ _)) (WL.st tbk hs58 2 rfl rfl (fun _ hs68 => WL.st tbk hs68 1 rfl rfl (fun _ hs69 => WL.nil (WC.ret (retV2 rfl (resV.cellA tbk hs69 2 rfl rfl rfl rfl) (resV.cellA tbk hs69 1 rfl rfl rfl rfl) ?_)))))
 have hv : vpPlain p b = (vp0, ⟨1, 65533, false, []⟩) := by unfold vpPlain; rw [if_neg hn1, if_neg (by omega), if_neg hn3, if_neg (by simpa using h59)]
 try simp only [List.nil_append] at *
 obtain ⟨L73, hs72, ho74⟩ := ownVpR.fl hs69 (OwnF.nil _ _) (OwnF.nil _ _)
 have hs75 := (((hs72.fb b2).fb b4).fb b38)
 refine ⟨⟨0, false, ⟨none, 0, 0, []⟩, ⟨none, 0, 0, []⟩⟩, _, ⟨(1), (65533), false, ⟨none, 0, 0, []⟩⟩, _, rfl, (St.drop ((hs75.fr ([] : Hp)).fr L73) (List.Sublist.append_left (List.sublist_append_left ([] : Hp) _) L73)), ?_, ?_, ?_, ?_⟩
 · exact (by exact ho74)
 · exact (OwnF.nil _ _)
 · rw [hv]; rfl
 · rw [hv]; rfl
theorem k38_ (p : VpR) (b : Int) (w : World) (f_p : okVpR 549755813888 w p) (hn : p.Part.n ≤ 1048576) :
    Calls Tryd.prog 54 #[.agg #[i64 p.State, .bool p.Mark, .slice p.Args.A p.Args.n p.Args.c, .slice p.Part.A p.Part.n p.Part.c], i64 b] w fun e w' => ∃ r0 L0 r1 L1, e = .returned (.tuple #[.agg #[i64 r0.State, .bool r0.Mark, .slice r0.Args.A r0.Args.n r0.Args.c, .slice r0.Part.A r0.Part.n r0.Part.c], .agg #[i64 r1.Kind, i64 r1.R, .bool r1.Mark, .slice r1.Args.A r1.Args.n r1.Args.c]]) ∧ St w [] (L0 ++ L1) w' ∧ ownVpR r0 L0 ∧ ownActR r1 L1 ∧ r0.dat = (vpPlain p.Part.xs b).1 ∧ r1.dat = (vpPlain p.Part.xs b).2 := by
 have nb_p_Args := f_p.Args_n
 have nl_p_Args := f_p.Args.len
 have nb_p_Part := f_p.Part_n
 have nl_p_Part := f_p.Part.len
 have hpl := f_p.Part.len
 refine enter 51 Tryd.func54 rfl Tryd.ntmps54 rfl rfl ?_
 have hs1 := St.init w
 refine WC.sr (WL.bx hs1 rfl (fun b2 _ hs3 => WL.al hs3 Tryd.zeroValue26 rfl rfl (fun b4 _ hs5 => WL.al hs5 Tryd.zeroValue33 rfl rfl (fun b6 _ hs7 => WL.nil (WC.seq (fun K8 hK8 => WC.block (WC.sr ?_)))))))
 refine WL.r 3 hs7 [] rfl (WL.pO tbk 2 Acts.nil hs7 [] rfl rfl rfl rfl (fun g_ => trivial) (WL.r 1 hs7 [] rfl (WL.nil (WC.cq rfl (fun h9 qh9 => ?_) (fun h9 qh9 => ?_)))))
 ·refine WC.sr ?_
  refine WL.val rfl rfl rfl (Run.build rfl rfl rfl rfl (built_26)) (WL.r 1 hs7 [] rfl ?_)
  refine WL.val rfl rfl rfl (Run.build rfl rfl rfl rfl (built_33_0_1 _ _)) (WL.st tbk hs7 1 rfl rfl (fun _ hs10 => WL.st tbk hs10 0 rfl rfl (fun _ hs11 => WL.nil (WC.ret (ibR (tkR ?_))))))
  clear hK8
  refine retV2 rfl (resV.cellA tbk hs11 1 rfl rfl rfl rfl) (resV.cellA tbk hs11 0 rfl rfl rfl rfl) ?_
  have hv : vpPlain p.Part.xs b = (vp0, ⟨2, b, false, []⟩) := by unfold vpPlain; rw [if_pos (by simp at qh9; omega)]
  try simp only [List.nil_append] at *
  obtain ⟨L15, hs14, ho16⟩ := ownVpR.fl hs11 (OwnF.nil _ _) (OwnF.nil _ _)
  have hs17 := (((hs14.fb b2).fb b4).fb b6)
  refine ⟨⟨0, false, ⟨none, 0, 0, []⟩, ⟨none, 0, 0, []⟩⟩, _, ⟨(2), b, false, ⟨none, 0, 0, []⟩⟩, _, rfl, (St.drop ((hs17.fr ([] : Hp)).fr L15) (List.Sublist.append_left (List.sublist_append_left ([] : Hp) _) L15)), ?_, ?_, ?_, ?_⟩
  · exact (by exact ho16)
  · exact (OwnF.nil _ _)
  · rw [hv]; rfl
  · rw [hv]; rfl
 have hn1 : ¬ (b < 32 ∨ b = 127) := by simp at qh9; omega
 refine WC.r1 hs7 [] rfl (WC.cD rfl (fun qh19 => ?_) (fun qh19 => ?_))
 ·refine WC.sr ?_
  refine WL.val rfl rfl rfl (Run.build rfl rfl rfl rfl (built_26)) (WL.r 1 hs7 [] rfl ?_)
  refine WL.val rfl rfl rfl (Run.build rfl rfl rfl rfl (built_33_0_1 _ _)) (WL.st tbk hs7 1 rfl rfl (fun _ hs20 => WL.st tbk hs20 0 rfl rfl (fun _ hs21 => WL.nil (WC.ret (ibR (tkR ?_))))))
  clear hK8
  refine retV2 rfl (resV.cellA tbk hs21 1 rfl rfl rfl rfl) (resV.cellA tbk hs21 0 rfl rfl rfl rfl) ?_
  have hv : vpPlain p.Part.xs b = (vp0, ⟨1, b, false, []⟩) := by unfold vpPlain; rw [if_neg (by simp at *; omega), if_pos (by omega)]
  try simp only [List.nil_append] at *
  obtain ⟨L25, hs24, ho26⟩ := ownVpR.fl hs21 (OwnF.nil _ _) (OwnF.nil _ _)
  have hs27 := (((hs24.fb b2).fb b4).fb b6)
  refine ⟨⟨0, false, ⟨none, 0, 0, []⟩, ⟨none, 0, 0, []⟩⟩, _, ⟨(1), b, false, ⟨none, 0, 0, []⟩⟩, _, rfl, (St.drop ((hs27.fr ([] : Hp)).fr L25) (List.Sublist.append_left (List.sublist_append_left ([] : Hp) _) L25)), ?_, ?_, ?_, ?_⟩
  · exact (by exact ho26)
  · exact (OwnF.nil _ _)
  · rw [hv]; rfl
  · rw [hv]; rfl
 refine WC.skip (hK8 _ _ (WC.sr (WL.r 2 hs7 [2] rfl ?_)))
 refine WL.cl Tryd.call53 rfl (k20_ _ _ _ _ _ (SlF.st0 f_p.Part hs7) ?_) ?_
 · first | assumption | rfl | omega | (simp; omega)
 rintro _ whs29 ⟨A30, c31, L1_32, rfl, hs29, ho33⟩
 replace hs29 := hs7.callF hs29
 refine ⟨_, rfl, ?_⟩
 replace hs29 := St.back [_, _, _] hs29
 refine WL.r 2 hs29 [] rfl (WL.buildSlice hs29 Tryd.runUnderlying22 Tryd.sizeOf5 Tryd.zeroValue5 rfl rfl rfl rfl rfl rfl rfl rfl rfl rfl (fun b34 whs35 hs35 => ?_))
 refine WL.appendG (hs35.fr L1_32) ho33 (srcB1 Tryd.underlying22 (hs35.own _ (nthL_mem (i := 0) rfl)).1) Tryd.underlying22 inf5 rfl rfl rfl rfl rfl rfl rfl rfl rfl rfl ?_ (fun A39 c40 L36 whs37 hs37 ho38 => ?_)
 · first | omega | (simp; omega)
 replace hs37 := St.back [_, _, _, _] hs37
 refine WL.r 1 hs37 [] rfl (WL.nil (WC.seq (fun K41 hK41 => WC.sr (WL.r 1 hs37 [] rfl ?_))))
 refine WL.cl Tryd.call64 rfl (k22_ _ _ _ _ _ (SlF.ofOwn ho38 (hs37.ow L36)) (OwnF.cap ho38) ?_) ?_
 · first | assumption | rfl | omega | (simp; omega)
 rintro _ whs42 ⟨rfl, hs42⟩
 replace hs42 := hs37.call0 hs42
 refine ⟨_, rfl, WL.r 5 hs42 [] rfl (WL.nil (WC.r1 hs42 [] rfl (WC.cD rfl (fun qh43 => ?_) (fun qh43 => ?_))))⟩
 ·refine WC.sr ?_
  refine WL.val rfl rfl rfl (Run.build rfl rfl rfl rfl (built_26)) (WL.r 1 hs42 [] rfl ?_)
  refine WL.val rfl rfl rfl (Run.build rfl rfl rfl rfl (built_33_0_1 _ _)) (WL.st tbk hs42 2 rfl rfl (fun _ hs44 => WL.st tbk hs44 1 rfl rfl (fun _ hs45 => WL.nil (WC.ret (tkR ?_)))))
  clear hK41
  refine retV2 rfl (resV.cellA tbk hs45 2 rfl rfl rfl rfl) (resV.cellA tbk hs45 1 rfl rfl rfl rfl) ?_
  have hv : vpPlain p.Part.xs b = (vp0, ⟨1, rvN (runeL (p.Part.xs ++ [ub b])), false, []⟩) := by unfold vpPlain; rw [if_neg hn1, if_neg (by omega), if_pos (by simpa [← Int.ofNat_inj] using qh43)]
  try simp only [List.nil_append] at *
  obtain ⟨L49, hs48, ho50⟩ := ownVpR.fl hs45 (OwnF.nil _ _) (OwnF.nil _ _)
  have hs51 := ((((hs48.fb b2).fb b4).fb b6).fb b34)
  refine ⟨⟨0, false, ⟨none, 0, 0, []⟩, ⟨none, 0, 0, []⟩⟩, _, ⟨(1), _, false, ⟨none, 0, 0, []⟩⟩, _, rfl, (St.drop ((hs51.fr ([] : Hp)).fr L49) (List.Sublist.append_left (List.sublist_append_left ([] : Hp) _) L49)), ?_, ?_, ?_, ?_⟩
  · exact (by exact ho50)
  · exact (OwnF.nil _ _)
  · rw [hv]; rfl
  · rw [hv]; rfl
 have hn3 : ¬ rvS (runeL (p.Part.xs ++ [ub b])) = (p.Part.xs ++ [ub b]).length := by simpa [← Int.ofNat_inj] using qh43
 refine WC.skip (hK41 _ _ (WC.seq (fun K53 hK53 => WC.sr (WL.r 1 hs42 [] rfl ?_))))
 refine WL.cl Tryd.call18 rfl (k27_ _ _ _ _ _ (SlF.ofOwn ho38 (hs42.ow L36)) (OwnF.cap ho38) ?_) ?_
 · first | assumption | rfl | omega | (simp; omega)
 rintro _ whs54 ⟨rfl, hs54⟩
 replace hs54 := hs42.call0 hs54
 refine ⟨_, rfl, WL.nil (WC.cq rfl (fun h55 qh55 => ?_) (fun h55 qh55 => ?_))⟩
 ·refine WC.sr (WL.r 1 hs54 [] rfl ?_)
  refine WL.val rfl rfl rfl (Run.build rfl rfl rfl rfl (built_26_3 _ _ _)) ?_
  refine WL.val rfl rfl rfl (Run.build rfl rfl rfl rfl (built_33)) (WL.st tbk hs54 2 rfl rfl (fun _ hs56 => WL.st tbk hs56 1 rfl rfl (fun _ hs57 => WL.nil (WC.ret (tkR ?_)))))
  clear hK53
  refine retV2 rfl (resV.cellA tbk hs57 2 rfl rfl rfl rfl) (resV.cellA tbk hs57 1 rfl rfl rfl rfl) ?_
  have hv : vpPlain p.Part.xs b = (⟨0, false, [], p.Part.xs ++ [ub b]⟩, act0) := by unfold vpPlain; rw [if_neg hn1, if_neg (by omega), if_neg hn3, if_pos (by simpa using h55)]
  try simp only [List.nil_append] at *
  obtain ⟨L60, hs59, ho61⟩ := ownVpR.fl hs57 (OwnF.nil _ _) ho38
  have hs62 := ((((hs59.fb b2).fb b4).fb b6).fb b34)
  refine ⟨⟨0, false, ⟨none, 0, 0, []⟩, SlD.of ho38⟩, _, ⟨0, 0, false, ⟨none, 0, 0, []⟩⟩, _, rfl, (St.drop ((hs62.fr ([] : Hp)).fr L60) (List.Sublist.append_left (List.sublist_append_left ([] : Hp) _) L60)), ?_, ?_, ?_, ?_⟩
  · exact (by exact ho61)
  · exact (OwnF.nil _ _)
  · rw [hv]; rfl
  · rw [hv]; rfl
 refine WC.skip (hK53 _ _ (WC.sr ?_))
 refine WL.val rfl rfl rfl (Run.build rfl rfl rfl rfl (built_26)) ?_
 refine WL.val rfl rfl rfl (Run.build rfl rfl rfl rfl (built_33_0_1 _ _)) (WL.st tbk hs54 2 rfl rfl (fun _ hs64 => WL.st tbk hs64 1 rfl rfl (fun _ hs65 => WL.nil (WC.ret (retV2 rfl (resV.cellA tbk hs65 2 rfl rfl rfl rfl) (resV.cellA tbk hs65 1 rfl rfl rfl rfl) ?_)))))
 have hv : vpPlain p.Part.xs b = (vp0, ⟨1, 65533, false, []⟩) := by unfold vpPlain; rw [if_neg hn1, if_neg (by omega), if_neg hn3, if_neg (by simpa using h55)]
 try simp only [List.nil_append] at *
 obtain ⟨L69, hs68, ho70⟩ := ownVpR.fl hs65 (OwnF.nil _ _) (OwnF.nil _ _)
 have hs71 := ((((hs68.fb b2).fb b4).fb b6).fb b34)
 refine ⟨⟨0, false, ⟨none, 0, 0, []⟩, ⟨none, 0, 0, []⟩⟩, _, ⟨(1), (65533), false, ⟨none, 0, 0, []⟩⟩, _, rfl, (St.drop ((hs71.fr ([] : Hp)).fr L69) (List.Sublist.append_left (List.sublist_append_left ([] : Hp) _) L69)), ?_, ?_, ?_, ?_⟩
 · exact (by exact ho70)
 · exact (OwnF.nil _ _)
 · rw [hv]; rfl
 · rw [hv]; rfl
theorem k39_ (p : VpR) (d : Int) (w : World) (f_p : okVpR 549755813888 w p) (hsm : smVp 1048576 p.dat) (hok : areArgs p.dat.Args = true) (hd : 0 ≤ d ∧ d ≤ 9) :
    Calls Tryd.prog 65 #[.agg #[i64 p.State, .bool p.Mark, .slice p.Args.A p.Args.n p.Args.c, .slice p.Part.A p.Part.n p.Part.c], i64 d] w fun e w' => ∃ r L1, e = .returned (.agg #[i64 r.State, .bool r.Mark, .slice r.Args.A r.Args.n r.Args.c, .slice r.Part.A r.Part.n r.Part.c]) ∧ St w [] L1 w' ∧ ownVpR r L1 ∧ r.dat = vpDigit p.dat d := by
 have nb_p_Args := f_p.Args_n
 have nl_p_Args := f_p.Args.len
 have nb_p_Part := f_p.Part_n
 have nl_p_Part := f_p.Part.len
 have hsB : smVp 549755813888 p.dat := ⟨Nat.le_trans hsm.1 (by decide), Nat.le_trans hsm.2 (by decide)⟩
 have hsa : p.Args.xs.length ≤ 1048576 := hsm.1
 have hsp : p.Part.xs.length ≤ 1048576 := hsm.2
 refine enter 32 Tryd.func65 rfl Tryd.ntmps65 rfl rfl ?_
 have hs1 := St.init w
 refine WC.sr (WL.bx hs1 rfl (fun b2 _ hs3 => WL.al hs3 Tryd.zeroValue26 rfl rfl (fun b4 _ hs5 => WL.nil (WC.sr (WL.r 1 hs5 [1] rfl ?_)))))
 refine WL.cl Tryd.call35 rfl (k35_ p _ (okVpR.st0 f_p hs5) ?_) ?_
 · first | assumption | rfl | omega
 rintro _ whs6 ⟨r7, L1_8, rfl, hs6, ho9, hd10⟩
 replace hs6 := hs5.callF hs6
 refine ⟨_, rfl, ?_⟩
 replace hs6 := St.back [_, _] hs6
 have hlr := ownVpR.len ho9
 have hxr : r7.Args.xs = p.Args.xs := congrArg VpD.Args hd10
 have hpr : r7.Part.xs = p.Part.xs := congrArg VpD.Part hd10
 have hxp : p.dat.Args = p.Args.xs := rfl
 have hlx : r7.Args.xs.length = p.Args.xs.length := by rw [hxr]
 have hly : r7.Part.xs.length = p.Part.xs.length := by rw [hpr]
 refine WL.al hs6 Tryd.zeroValue26 rfl rfl (fun b11 _ hs12 => WL.st tbk hs12 0 rfl rfl (fun _ hs13 => WL.nil (WC.seq (fun K14 hK14 => WC.r1 hs13 [0] rfl ?_))))
 refine WC.cD rfl (fun qh15 => ?_) (fun qh15 => ?_)
 ·have gb : gat encI [0] ((([0] : List Int).length : Int) - 1).toNat = 0 := rfl
  refine WC.region (WL.buildF (F := encI) hs13 ([0]) Tryd.runUnderlying24 Tryd.sizeOf3 Tryd.zeroValue3 rfl rfl rfl rfl rfl rfl rfl rfl rfl rfl rfl rfl (fun A19 c20 L16 whs17 hs17 ho18 => ?_))
  replace hs17 := St.back [_, _, _] hs17
  refine WL.r 1 hs17 [] rfl (WL.st tbk hs17 0 rfl rfl (fun _ hs21 => WL.nil (hK14 _ _ (WC.sr ?_))))
  refine WL.run tbk 6 hs21 [0, 0] rfl ⟨by first | omega | (simp; done) | (simp; omega) | omega, rfl, rfl, trivial⟩ (WL.val rfl rfl rfl (Run.idx Tryd.runUnderlying24 Tryd.sizeOf3 rfl rfl rfl ?_ ?_ ?_) ?_)
  · exact SlF.some_ (SlF.ofOwn ho18 (hs21.ow L16))
  · first | omega | (simp; done) | (simp; omega) | omega
  · first | omega | (simp; done) | (simp; omega) | omega
  refine WL.r 1 hs21 [] rfl (WL.nil (WC.sr (WL.r 3 hs21 [] rfl (WL.val rfl rfl rfl (Run.load Tryd.isAgg3 rfl rfl (SlF.one1 (SlF.ofOwn ho18 (hs21.ow L16)) ?_ rfl)) ?_))))
  · first | omega | (simp; done) | (simp; omega) | omega
  refine WL.run tbk 5 hs21 [] rfl ⟨by first | omega | (simp; done) | (simp; omega) | omega, by first | omega | (simp; done) | (simp; omega) | omega, trivial⟩ (WL.storeF1 (x' := _) (hs21.fr L16) ho18 Tryd.sizeOf3 rfl rfl rfl rfl rfl rfl rfl rfl rfl ?_ rfl (fun L22 whs23 hs23 ho24 _ => ?_))
  · first | omega | (simp; done) | (simp; omega) | omega
  replace hs23 := St.back [_, _, _] hs23
  refine WL.nil (WC.sr (WL.r 1 hs23 [0] rfl (WL.st tbk hs23 1 rfl rfl (fun _ hs25 => WL.nil (WC.ret (retV1 rfl (resV.cellA tbk hs25 1 rfl rfl rfl rfl) ?_))))))
  obtain ⟨L26, L27, hs30, ho28, ho29⟩ := ownVpR.op hs25 ho9
  have hs31 := (((hs30.fb b2).fb b4).fb b11)
  obtain ⟨L33, hs32, ho34⟩ := ownVpR.fl hs31 ho24 ho29
  have hs35 := (((hs32.fb b2).fb b4).fb b11)
  refine ownVpR.ret rfl (St.keep1 (hs35.fr L33)) ho34 ?_
  · show VpD.mk r7.State r7.Mark _ r7.Part.xs = _
    rw [← hd10, vpDigit_A (show r7.dat.Args.length = 0 from (by omega : r7.Args.xs.length = 0))]; rfl
 have gb := areArgs_gat (k := ((r7.Args.n : Int) - 1).toNat) hok (by rw [hxp, ← hxr]; omega)
 rw [hxp, ← hxr] at gb
 refine WC.skip (hK14 _ _ (WC.sr ?_))
 refine WL.run tbk 6 hs13 [0, 0] rfl ⟨by first | omega | (simp; done) | (simp; omega) | omega, rfl, rfl, trivial⟩ (WL.val rfl rfl rfl (Run.idx Tryd.runUnderlying24 Tryd.sizeOf3 rfl rfl rfl ?_ ?_ ?_) ?_)
 · exact SlF.some_ (ownVpR.ok (B := 549755813888) ho9 (hs13.ow L1_8) (by rw [hd10]; assumption)).Args
 · first | omega | (simp; done) | (simp; omega) | omega
 · first | omega | (simp; done) | (simp; omega) | omega
 refine WL.r 1 hs13 [] rfl (WL.nil (WC.sr (WL.r 3 hs13 [] rfl ?_)))
 refine WL.val rfl rfl rfl (Run.load Tryd.isAgg3 rfl rfl (SlF.one1 (ownVpR.ok (B := 549755813888) ho9 (hs13.ow L1_8) (by rw [hd10]; assumption)).Args ?_ rfl)) ?_
 · first | omega | (simp; done) | (simp; omega) | omega
 refine WL.run tbk 5 hs13 [] rfl ⟨by first | omega | (simp; done) | (simp; omega) | omega, by first | omega | (simp; done) | (simp; omega) | omega, trivial⟩ ?_
 obtain ⟨L36, L37, hs40, ho38, ho39⟩ := ownVpR.op hs13 ho9
 have hs41 := (((hs40.fb b2).fb b4).fb b11)
 refine WL.storeF1 (x' := _) (hs41.fr L36) ho38 Tryd.sizeOf3 rfl rfl rfl rfl rfl rfl rfl rfl rfl ?_ rfl (fun L42 whs43 hs43 ho44 _ => ?_)
 · first | omega | (simp; done) | (simp; omega) | omega
 replace hs43 := St.back [_, _, _] hs43
 refine WL.nil (WC.sr (WL.r 1 hs43 [0] rfl (WL.st tbk hs43 1 rfl rfl (fun _ hs45 => WL.nil (WC.ret (retV1 rfl (resV.cellA tbk hs45 1 rfl rfl rfl rfl) ?_))))))
 obtain ⟨L47, hs46, ho48⟩ := ownVpR.fl hs45 ho44 ho39
 have hs49 := (((hs46.fb b2).fb b4).fb b11)
 refine ownVpR.ret rfl (St.keep1 (hs49.fr L47)) ho48 ?_
 · show VpD.mk r7.State r7.Mark (r7.Args.xs.set ((r7.Args.n : Int) - 1).toNat (min 9999 (10 * gat encI r7.Args.xs ((r7.Args.n : Int) - 1).toNat + d))) r7.Part.xs = _
   rw [← hd10, vpDigit_B (show ¬ r7.dat.Args.length = 0 from (by omega : ¬ r7.Args.xs.length = 0)), show ((r7.Args.n : Int) - 1).toNat = r7.Args.xs.length - 1 by omega]; rfl
theorem k40_ (p : VpR) (w : World) (f_p : okVpR 549755813888 w p) (hsm : smVp 1048576 p.dat) (hok : areArgs p.dat.Args = true) :
    Calls Tryd.prog 66 #[.agg #[i64 p.State, .bool p.Mark, .slice p.Args.A p.Args.n p.Args.c, .slice p.Part.A p.Part.n p.Part.c]] w fun e w' => ∃ r L1, e = .returned (.agg #[i64 r.State, .bool r.Mark, .slice r.Args.A r.Args.n r.Args.c, .slice r.Part.A r.Part.n r.Part.c]) ∧ St w [] L1 w' ∧ ownVpR r L1 ∧ r.dat = vpNext p.dat := by
 have nb_p_Args := f_p.Args_n
 have nl_p_Args := f_p.Args.len
 have nb_p_Part := f_p.Part_n
 have nl_p_Part := f_p.Part.len
 have hsB : smVp 549755813888 p.dat := ⟨Nat.le_trans hsm.1 (by decide), Nat.le_trans hsm.2 (by decide)⟩
 have hsa : p.Args.xs.length ≤ 1048576 := hsm.1
 have hsp : p.Part.xs.length ≤ 1048576 := hsm.2
 refine enter 27 Tryd.func66 rfl Tryd.ntmps66 rfl rfl ?_
 have hs1 := St.init w
 refine WC.sr (WL.bx hs1 rfl (fun b2 _ hs3 => WL.al hs3 Tryd.zeroValue26 rfl rfl (fun b4 _ hs5 => WL.nil (WC.sr (WL.r 1 hs5 [1] rfl ?_)))))
 refine WL.cl Tryd.call35 rfl (k35_ p _ (okVpR.st0 f_p hs5) ?_) ?_
 · first | assumption | rfl | omega
 rintro _ whs6 ⟨r7, L1_8, rfl, hs6, ho9, hd10⟩
 replace hs6 := hs5.callF hs6
 refine ⟨_, rfl, ?_⟩
 replace hs6 := St.back [_, _] hs6
 have hlr := ownVpR.len ho9
 have hxr : r7.Args.xs = p.Args.xs := congrArg VpD.Args hd10
 have hpr : r7.Part.xs = p.Part.xs := congrArg VpD.Part hd10
 have hxp : p.dat.Args = p.Args.xs := rfl
 have hlx : r7.Args.xs.length = p.Args.xs.length := by rw [hxr]
 have hly : r7.Part.xs.length = p.Part.xs.length := by rw [hpr]
 refine WL.al hs6 Tryd.zeroValue26 rfl rfl (fun b11 _ hs12 => WL.st tbk hs12 0 rfl rfl (fun _ hs13 => WL.nil (WC.seq (fun K14 hK14 => WC.r1 hs13 [0] rfl ?_))))
 refine WC.cD rfl (fun qh15 => ?_) (fun qh15 => ?_)
 ·refine WC.region (WL.buildF (F := encI) hs13 ([0]) Tryd.runUnderlying24 Tryd.sizeOf3 Tryd.zeroValue3 rfl rfl rfl rfl rfl rfl rfl rfl rfl rfl rfl rfl (fun A19 c20 L16 whs17 hs17 ho18 => ?_))
  replace hs17 := St.back [_, _, _] hs17
  refine WL.r 1 hs17 [] rfl (WL.st tbk hs17 0 rfl rfl (fun _ hs21 => WL.nil (hK14 _ _ (WC.seq (fun K22 hK22 => WC.sr (WL.r 2 hs21 [0] rfl (WL.buildSlice hs21 Tryd.runUnderlying24 Tryd.sizeOf3 Tryd.zeroValue3 rfl rfl rfl rfl rfl rfl rfl rfl rfl rfl (fun b23 whs24 hs24 => ?_))))))))
  refine WL.appendG (hs24.fr L16) ho18 (srcI1 Tryd.underlying24 (hs24.own _ (nthL_mem (i := 0) rfl)).1) Tryd.underlying24 inf3 rfl rfl rfl rfl rfl rfl rfl rfl rfl rfl ?_ (fun A28 c29 L25 whs26 hs26 ho27 => ?_)
  · first | omega | (simp; done) | (simp; omega) | omega
  replace hs26 := St.back [_, _, _, _] hs26
  refine WL.r 1 hs26 [] rfl (WL.st tbk hs26 1 rfl rfl (fun _ hs30 => WL.nil (WC.r1 hs30 [1] rfl ?_)))
  refine WC.cD rfl (fun qh31 => ?_) (fun qh31 => ?_)
  ·refine WC.rH (hs30.fb b11).d1 hs30 (fun _ hs32 => ?_)
   refine WH.rn [0] (hs32.fb b11).d1 [] rfl rfl (WH.o1 1 rfl (WL.r 1 hs32 [1] rfl (WL.nil ⟨(hs32.fb b11).d1, ?_⟩)))
   have ho33 := OwnF.take (k := 8) ho27 (by first | omega | (simp at *; done) | (simp at *; omega) | omega)
   have hcho33 := OwnF.cap ho33
   refine WH.take 2 rfl (by kernel_rfl) rfl rfl rfl (hs32.fb b11).d1 (fun w_ hs_ => (Run.sliceH0 (8) Tryd.runUnderlying24 Tryd.sizeOf3 rfl rfl rfl ?_ ?_)) ?_
   · first | rfl | (first | omega | (simp at *; done) | (simp at *; omega) | omega)
   · first | (exact Nat.zero_le _) | (first | omega | (simp at *; done) | (simp at *; omega) | omega)
   refine WH.rn [3] (hs32.fb b11).d1 [] rfl rfl (WH.o1 4 rfl (WL.st tbk hs32 1 rfl rfl (fun _ hs34 => WL.nil ⟨(hs34.fb b11).d1, WH.rn [5] (hs34.fb b11).d1 [] rfl rfl (WH.o1 6 rfl (WL.st tbk hs34 1 rfl rfl (fun _ hs35 => WL.nil ⟨(hs35.fb b11).d1, ?_⟩)))⟩)))
   refine WH.dn (hK22 _ _ (WC.sr (WL.r 1 hs35 [1] rfl (WL.st tbk hs35 2 rfl rfl (fun _ hs36 => WL.nil (WC.ret (retV1 rfl (resV.cellA tbk hs36 2 rfl rfl rfl rfl) ?_)))))))
   obtain ⟨L37, L38, hs41, ho39, ho40⟩ := ownVpR.op hs36 ho9
   have hs42 := ((((hs41.fb b2).fb b4).fb b11).fb b23)
   obtain ⟨L44, hs43, ho45⟩ := ownVpR.fl hs42 ho33 ho40
   have hs46 := ((((hs43.fb b2).fb b4).fb b11).fb b23)
   refine ownVpR.ret rfl (St.keep1 (hs46.fr L44)) ho45 ?_
   · exfalso; simp at qh31
  refine WC.skip (hK22 _ _ (WC.sr (WL.r 1 hs30 [1] rfl (WL.st tbk hs30 2 rfl rfl (fun _ hs47 => WL.nil (WC.ret (retV1 rfl (resV.cellA tbk hs47 2 rfl rfl rfl rfl) ?_)))))))
  obtain ⟨L48, L49, hs52, ho50, ho51⟩ := ownVpR.op hs47 ho9
  have hs53 := ((((hs52.fb b2).fb b4).fb b11).fb b23)
  obtain ⟨L55, hs54, ho56⟩ := ownVpR.fl hs53 ho27 ho51
  have hs57 := ((((hs54.fb b2).fb b4).fb b11).fb b23)
  refine ownVpR.ret rfl (St.keep1 (hs57.fr L55)) ho56 ?_
  · show VpD.mk r7.State r7.Mark _ r7.Part.xs = _
    rw [← hd10, vpNext_A (show r7.dat.Args.length = 0 from (by omega : r7.Args.xs.length = 0))]; rfl
 refine WC.skip (hK14 _ _ (WC.seq (fun K58 hK58 => WC.sr (WL.r 2 hs13 [0] rfl (WL.buildSlice hs13 Tryd.runUnderlying24 Tryd.sizeOf3 Tryd.zeroValue3 rfl rfl rfl rfl rfl rfl rfl rfl rfl rfl (fun b59 whs60 hs60 => ?_))))))
 obtain ⟨L61, L62, hs65, ho63, ho64⟩ := ownVpR.op hs60 ho9
 have hs66 := ((((hs65.fb b2).fb b4).fb b11).fb b59)
 refine WL.appendG (hs66.fr L61) ho63 (srcI1 Tryd.underlying24 (hs66.own _ (nthL_mem (i := 0) rfl)).1) Tryd.underlying24 inf3 rfl rfl rfl rfl rfl rfl rfl rfl rfl rfl ?_ (fun A70 c71 L67 whs68 hs68 ho69 => ?_)
 · first | omega | (simp; done) | (simp; omega) | omega
 replace hs68 := St.back [_, _, _, _] hs68
 refine WL.r 1 hs68 [] rfl (WL.st tbk hs68 1 rfl rfl (fun _ hs72 => WL.nil (WC.r1 hs72 [1] rfl ?_)))
 refine WC.cD rfl (fun qh73 => ?_) (fun qh73 => ?_)
 ·refine WC.rH (hs72.fb b11).d1 hs72 (fun _ hs74 => ?_)
  refine WH.rn [0] (hs74.fb b11).d1 [] rfl rfl (WH.o1 1 rfl (WL.r 1 hs74 [1] rfl (WL.nil ⟨(hs74.fb b11).d1, ?_⟩)))
  have ho75 := OwnF.take (k := 8) ho69 (by first | omega | (simp at *; done) | (simp at *; omega) | omega)
  have hcho75 := OwnF.cap ho75
  refine WH.take 2 rfl (by kernel_rfl) rfl rfl rfl (hs74.fb b11).d1 (fun w_ hs_ => (Run.sliceH0 (8) Tryd.runUnderlying24 Tryd.sizeOf3 rfl rfl rfl ?_ ?_)) ?_
  · first | rfl | (first | omega | (simp at *; done) | (simp at *; omega) | omega)
  · first | (exact Nat.zero_le _) | (first | omega | (simp at *; done) | (simp at *; omega) | omega)
  refine WH.rn [3] (hs74.fb b11).d1 [] rfl rfl (WH.o1 4 rfl (WL.st tbk hs74 1 rfl rfl (fun _ hs76 => WL.nil ⟨(hs76.fb b11).d1, WH.rn [5] (hs76.fb b11).d1 [] rfl rfl (WH.o1 6 rfl (WL.st tbk hs76 1 rfl rfl (fun _ hs77 => WL.nil ⟨(hs77.fb b11).d1, ?_⟩)))⟩)))
  refine WH.dn (hK58 _ _ (WC.sr (WL.r 1 hs77 [1] rfl (WL.st tbk hs77 2 rfl rfl (fun _ hs78 => WL.nil (WC.ret (retV1 rfl (resV.cellA tbk hs78 2 rfl rfl rfl rfl) ?_)))))))
  obtain ⟨L80, hs79, ho81⟩ := ownVpR.fl hs78 ho75 ho64
  have hs82 := ((((hs79.fb b2).fb b4).fb b11).fb b59)
  refine ownVpR.ret rfl (St.keep1 (hs82.fr L80)) ho81 ?_
  · show VpD.mk 3 r7.Mark _ r7.Part.xs = _
    rw [← hd10, vpNext_C (show 8 < r7.dat.Args.length + 1 from (by simp at qh73; omega : 8 < r7.Args.xs.length + 1))]; rfl
 refine WC.skip (hK58 _ _ (WC.sr (WL.r 1 hs72 [1] rfl (WL.st tbk hs72 2 rfl rfl (fun _ hs83 => WL.nil (WC.ret (retV1 rfl (resV.cellA tbk hs83 2 rfl rfl rfl rfl) ?_)))))))
 obtain ⟨L85, hs84, ho86⟩ := ownVpR.fl hs83 ho69 ho64
 have hs87 := ((((hs84.fb b2).fb b4).fb b11).fb b59)
 refine ownVpR.ret rfl (St.keep1 (hs87.fr L85)) ho86 ?_
 · show VpD.mk r7.State r7.Mark _ r7.Part.xs = _
   rw [← hd10, vpNext_B (show ¬ r7.dat.Args.length = 0 from (by omega : ¬ r7.Args.xs.length = 0)) (show r7.dat.Args.length + 1 ≤ 8 from (by simp at qh73; omega : r7.Args.xs.length + 1 ≤ 8))]; rfl
end Go.Proofs.YtpbflopkkfihaaaDoor
