/- Structs that hold slices, as they lie in cells, with what they read. -/
import Derived.Test.YtmkgffhdbagmjaaEC
import Derived.Test.YtmkgffhdbagmjaaD1
namespace Go.Proofs.Ytmkgffhdbagmjaa
open Go Go.RowKit
set_option linter.unusedVariables false
set_option linter.unusedSimpArgs false
structure GridR where
  W : Int
  H : Int
  Cells : SlD CellD
def encGridR : Enc GridR := ⟨3, fun d => [i64 d.W, i64 d.H, .slice d.Cells.A d.Cells.n d.Cells.c], ⟨0, 0, ⟨none, 0, 0, []⟩⟩, fun _ => rfl, fun x v h => by simp at h; rcases h with rfl | rfl | rfl <;> rfl, by decide⟩
structure okGridR (B : Nat) (w : World) (x : GridR) : Prop where
  Cells : SlF encCell w x.Cells.A x.Cells.n x.Cells.xs
  Cells_c : x.Cells.n ≤ x.Cells.c
  Cells_n : x.Cells.n ≤ B
structure sepGridR (T : List Nat) (x : GridR) : Prop where
  Cells : 0 < x.Cells.n → (adr x.Cells.A).block ∉ T
theorem okGridR.st0 {B : Nat} {w0 w : World} {L : Hp} {x : GridR} (h : okGridR B w0 x) (hs : St w0 [] L w) : okGridR B w x := ⟨SlF.st0 h.Cells hs, h.Cells_c, h.Cells_n⟩
theorem okGridR.st {B : Nat} {w0 w : World} {T : List Nat} {L : Hp} {x : GridR} (h : okGridR B w0 x) (hs : St w0 T L w) (hp : sepGridR T x) : okGridR B w x := ⟨SlF.st h.Cells hs hp.Cells, h.Cells_c, h.Cells_n⟩
theorem okGridR.le {B B' : Nat} {w : World} {x : GridR} (h : okGridR B w x) (hB : B ≤ B') : okGridR B' w x := ⟨h.Cells, h.Cells_c, Nat.le_trans h.Cells_n hB⟩
def GridR.dat (x : GridR) : GridD := ⟨x.W, x.H, x.Cells.xs⟩
def smGrid (B : Nat) (d : GridD) : Prop := (d.Cells.length ≤ B)
theorem okGridR.sm {B : Nat} {w : World} {x : GridR} (h : okGridR B w x) : smGrid B x.dat := (by have := h.Cells.len; have := h.Cells_n; simp only [smGrid, GridR.dat]; omega)
theorem okGridR.to {B B' : Nat} {w : World} {x : GridR} (h : okGridR B w x) (h2 : smGrid B' x.dat) : okGridR B' w x := ⟨h.Cells, h.Cells_c, (by have := h.Cells.len; have h3 := h2; simp only [smGrid, GridR.dat] at h3; omega)⟩
def totGrid (d : GridD) : Nat := d.Cells.length
theorem totGrid_sm {B : Nat} {d : GridD} (h : totGrid d ≤ B) : smGrid B d := by
  simp only [totGrid] at h
  unfold smGrid
  exact (by omega)
def ownGridR (x : GridR) (L : Hp) : Prop := OwnF encCell 152 (.slice x.Cells.A x.Cells.n x.Cells.c) x.Cells.xs L
theorem ownGridR.len {x : GridR} {L : Hp} (h : ownGridR x L) : x.Cells.xs.length = x.Cells.n := by
  exact (OwnF.len_ h)
theorem ownGridR.ok {B : Nat} {w : World} {x : GridR} {L : Hp} (h : ownGridR x L) (hh : ∀ p, p ∈ L → w.heap[p.1]? = some p.2) (h2 : smGrid B x.dat) : okGridR B w x := by
  exact ⟨SlF.ofOwn h (fun p hp => hh p hp), OwnF.cap h, (by have := OwnF.len_ h; have h3 := h2; simp only [GridR.dat, smGrid] at h3; omega)⟩
structure VpR where
  State : Int
  Mark : Bool
  Args : SlD Int
  Part : SlD UInt8
def encVpR : Enc VpR := ⟨4, fun d => [i64 d.State, .bool d.Mark, .slice d.Args.A d.Args.n d.Args.c, .slice d.Part.A d.Part.n d.Part.c], ⟨0, false, ⟨none, 0, 0, []⟩, ⟨none, 0, 0, []⟩⟩, fun _ => rfl, fun x v h => by simp at h; rcases h with rfl | rfl | rfl | rfl <;> rfl, by decide⟩
structure okVpR (B : Nat) (w : World) (x : VpR) : Prop where
  Args : SlF encI w x.Args.A x.Args.n x.Args.xs
  Args_c : x.Args.n ≤ x.Args.c
  Args_n : x.Args.n ≤ B
  Part : SlF encB w x.Part.A x.Part.n x.Part.xs
  Part_c : x.Part.n ≤ x.Part.c
  Part_n : x.Part.n ≤ B
structure sepVpR (T : List Nat) (x : VpR) : Prop where
  Args : 0 < x.Args.n → (adr x.Args.A).block ∉ T
  Part : 0 < x.Part.n → (adr x.Part.A).block ∉ T
theorem okVpR.st0 {B : Nat} {w0 w : World} {L : Hp} {x : VpR} (h : okVpR B w0 x) (hs : St w0 [] L w) : okVpR B w x := ⟨SlF.st0 h.Args hs, h.Args_c, h.Args_n, SlF.st0 h.Part hs, h.Part_c, h.Part_n⟩
theorem okVpR.st {B : Nat} {w0 w : World} {T : List Nat} {L : Hp} {x : VpR} (h : okVpR B w0 x) (hs : St w0 T L w) (hp : sepVpR T x) : okVpR B w x := ⟨SlF.st h.Args hs hp.Args, h.Args_c, h.Args_n, SlF.st h.Part hs hp.Part, h.Part_c, h.Part_n⟩
theorem okVpR.le {B B' : Nat} {w : World} {x : VpR} (h : okVpR B w x) (hB : B ≤ B') : okVpR B' w x := ⟨h.Args, h.Args_c, Nat.le_trans h.Args_n hB, h.Part, h.Part_c, Nat.le_trans h.Part_n hB⟩
def VpR.dat (x : VpR) : VpD := ⟨x.State, x.Mark, x.Args.xs, x.Part.xs⟩
def smVp (B : Nat) (d : VpD) : Prop := (d.Args.length ≤ B) ∧ (d.Part.length ≤ B)
theorem okVpR.sm {B : Nat} {w : World} {x : VpR} (h : okVpR B w x) : smVp B x.dat := ⟨(by have := h.Args.len; have := h.Args_n; simp only [smVp, VpR.dat]; omega), (by have := h.Part.len; have := h.Part_n; simp only [smVp, VpR.dat]; omega)⟩
theorem okVpR.to {B B' : Nat} {w : World} {x : VpR} (h : okVpR B w x) (h2 : smVp B' x.dat) : okVpR B' w x := ⟨h.Args, h.Args_c, (by have := h.Args.len; have h3 := h2.1; simp only [smVp, VpR.dat] at h3; omega), h.Part, h.Part_c, (by have := h.Part.len; have h3 := h2.2; simp only [smVp, VpR.dat] at h3; omega)⟩
def totVp (d : VpD) : Nat := d.Args.length + d.Part.length
theorem totVp_sm {B : Nat} {d : VpD} (h : totVp d ≤ B) : smVp B d := by
  simp only [totVp] at h
  unfold smVp
  exact ⟨(by omega), (by omega)⟩
def ownVpR (x : VpR) (L : Hp) : Prop := ∃ L1 L2, L = L1 ++ L2 ∧ OwnF encI 3 (.slice x.Args.A x.Args.n x.Args.c) x.Args.xs L1 ∧ OwnF encB 5 (.slice x.Part.A x.Part.n x.Part.c) x.Part.xs L2
theorem ownVpR.fold {w0 w : World} {T : List Nat} {L1 L2 R : Hp} (x : VpR) (hs : St w0 T (L1 ++ (L2 ++ R)) w) (o1 : OwnF encI 3 (.slice x.Args.A x.Args.n x.Args.c) x.Args.xs L1) (o2 : OwnF encB 5 (.slice x.Part.A x.Part.n x.Part.c) x.Part.xs L2) : ∃ L, St w0 T (L ++ R) w ∧ ownVpR x L := ⟨L1 ++ L2, by simpa only [List.append_assoc] using hs, L1, L2, rfl, o1, o2⟩
theorem ownVpR.open_ {w0 w : World} {T : List Nat} {L R : Hp} {x : VpR} (hs : St w0 T (L ++ R) w) (h : ownVpR x L) : ∃ L1 L2, St w0 T (L1 ++ (L2 ++ R)) w ∧ OwnF encI 3 (.slice x.Args.A x.Args.n x.Args.c) x.Args.xs L1 ∧ OwnF encB 5 (.slice x.Part.A x.Part.n x.Part.c) x.Part.xs L2 := by
  obtain ⟨L1, L2, rfl, h⟩ := h
  exact ⟨L1, L2, by simpa only [List.append_assoc] using hs, h⟩
theorem ownVpR.len {x : VpR} {L : Hp} (h : ownVpR x L) : x.Args.xs.length = x.Args.n ∧ x.Part.xs.length = x.Part.n := by
  obtain ⟨L1, L2, rfl, o1, o2⟩ := h
  exact ⟨(OwnF.len_ o1), (OwnF.len_ o2)⟩
theorem ownVpR.ok {B : Nat} {w : World} {x : VpR} {L : Hp} (h : ownVpR x L) (hh : ∀ p, p ∈ L → w.heap[p.1]? = some p.2) (h2 : smVp B x.dat) : okVpR B w x := by
  obtain ⟨L1, L2, rfl, o1, o2⟩ := h
  simp only [List.mem_append] at hh
  exact ⟨SlF.ofOwn o1 (fun p hp => hh p (.inl hp)), OwnF.cap o1, (by have := OwnF.len_ o1; have h3 := h2.1; simp only [VpR.dat, smVp] at h3; omega), SlF.ofOwn o2 (fun p hp => hh p (.inr (hp))), OwnF.cap o2, (by have := OwnF.len_ o2; have h3 := h2.2; simp only [VpR.dat, smVp] at h3; omega)⟩
structure RowR where
  Cells : SlD CellD
def encRowR : Enc RowR := ⟨1, fun d => [.slice d.Cells.A d.Cells.n d.Cells.c], ⟨⟨none, 0, 0, []⟩⟩, fun _ => rfl, fun x v h => by simp at h; rcases h with rfl <;> rfl, by decide⟩
structure okRowR (B : Nat) (w : World) (x : RowR) : Prop where
  Cells : SlF encCell w x.Cells.A x.Cells.n x.Cells.xs
  Cells_c : x.Cells.n ≤ x.Cells.c
  Cells_n : x.Cells.n ≤ B
structure sepRowR (T : List Nat) (x : RowR) : Prop where
  Cells : 0 < x.Cells.n → (adr x.Cells.A).block ∉ T
theorem okRowR.st0 {B : Nat} {w0 w : World} {L : Hp} {x : RowR} (h : okRowR B w0 x) (hs : St w0 [] L w) : okRowR B w x := ⟨SlF.st0 h.Cells hs, h.Cells_c, h.Cells_n⟩
theorem okRowR.st {B : Nat} {w0 w : World} {T : List Nat} {L : Hp} {x : RowR} (h : okRowR B w0 x) (hs : St w0 T L w) (hp : sepRowR T x) : okRowR B w x := ⟨SlF.st h.Cells hs hp.Cells, h.Cells_c, h.Cells_n⟩
theorem okRowR.le {B B' : Nat} {w : World} {x : RowR} (h : okRowR B w x) (hB : B ≤ B') : okRowR B' w x := ⟨h.Cells, h.Cells_c, Nat.le_trans h.Cells_n hB⟩
def RowR.dat (x : RowR) : RowD := ⟨x.Cells.xs⟩
def smRow (B : Nat) (d : RowD) : Prop := (d.Cells.length ≤ B)
theorem okRowR.sm {B : Nat} {w : World} {x : RowR} (h : okRowR B w x) : smRow B x.dat := (by have := h.Cells.len; have := h.Cells_n; simp only [smRow, RowR.dat]; omega)
theorem okRowR.to {B B' : Nat} {w : World} {x : RowR} (h : okRowR B w x) (h2 : smRow B' x.dat) : okRowR B' w x := ⟨h.Cells, h.Cells_c, (by have := h.Cells.len; have h3 := h2; simp only [smRow, RowR.dat] at h3; omega)⟩
def totRow (d : RowD) : Nat := d.Cells.length
theorem totRow_sm {B : Nat} {d : RowD} (h : totRow d ≤ B) : smRow B d := by
  simp only [totRow] at h
  unfold smRow
  exact (by omega)
def ownRowR (x : RowR) (L : Hp) : Prop := OwnF encCell 152 (.slice x.Cells.A x.Cells.n x.Cells.c) x.Cells.xs L
theorem ownRowR.len {x : RowR} {L : Hp} (h : ownRowR x L) : x.Cells.xs.length = x.Cells.n := by
  exact (OwnF.len_ h)
theorem ownRowR.ok {B : Nat} {w : World} {x : RowR} {L : Hp} (h : ownRowR x L) (hh : ∀ p, p ∈ L → w.heap[p.1]? = some p.2) (h2 : smRow B x.dat) : okRowR B w x := by
  exact ⟨SlF.ofOwn h (fun p hp => hh p hp), OwnF.cap h, (by have := OwnF.len_ h; have h3 := h2; simp only [RowR.dat, smRow] at h3; omega)⟩
structure ScrR where
  W : Int
  H : Int
  Main : GridR
  Alt : GridR
  OnAlt : Bool
  X : Int
  Y : Int
  Wrap : Bool
  A : AttrD
  Top : Int
  Bot : Int
  NoWrap : Bool
  Hide : Bool
  SaveX : Int
  SaveY : Int
  SaveA : AttrD
  Tabs : SlD Int
  Limit : Int
  Back : SlD RowR
def encScrR : Enc ScrR := ⟨31, fun d => [i64 d.W, i64 d.H, i64 d.Main.W, i64 d.Main.H, .slice d.Main.Cells.A d.Main.Cells.n d.Main.Cells.c, i64 d.Alt.W, i64 d.Alt.H, .slice d.Alt.Cells.A d.Alt.Cells.n d.Alt.Cells.c, .bool d.OnAlt, i64 d.X, i64 d.Y, .bool d.Wrap, i64 d.A.Fg, i64 d.A.Bg, .bool d.A.Bold, .bool d.A.Under, .bool d.A.Turn, i64 d.Top, i64 d.Bot, .bool d.NoWrap, .bool d.Hide, i64 d.SaveX, i64 d.SaveY, i64 d.SaveA.Fg, i64 d.SaveA.Bg, .bool d.SaveA.Bold, .bool d.SaveA.Under, .bool d.SaveA.Turn, .slice d.Tabs.A d.Tabs.n d.Tabs.c, i64 d.Limit, .slice d.Back.A d.Back.n d.Back.c], ⟨0, 0, ⟨0, 0, ⟨none, 0, 0, []⟩⟩, ⟨0, 0, ⟨none, 0, 0, []⟩⟩, false, 0, 0, false, ⟨0, 0, false, false, false⟩, 0, 0, false, false, 0, 0, ⟨0, 0, false, false, false⟩, ⟨none, 0, 0, []⟩, 0, ⟨none, 0, 0, []⟩⟩, fun _ => rfl, fun x v h => by simp at h; rcases h with rfl | rfl | rfl | rfl | rfl | rfl | rfl | rfl | rfl | rfl | rfl | rfl | rfl | rfl | rfl | rfl | rfl | rfl | rfl | rfl | rfl | rfl | rfl | rfl | rfl | rfl | rfl | rfl | rfl | rfl | rfl <;> rfl, by decide⟩
structure okScrR (B : Nat) (w : World) (x : ScrR) : Prop where
  Main : okGridR B w x.Main
  Alt : okGridR B w x.Alt
  Tabs : SlF encI w x.Tabs.A x.Tabs.n x.Tabs.xs
  Tabs_c : x.Tabs.n ≤ x.Tabs.c
  Tabs_n : x.Tabs.n ≤ B
  Back : SlN encRowR (okRowR B) w x.Back.A x.Back.n x.Back.xs
  Back_c : x.Back.n ≤ x.Back.c
  Back_n : x.Back.n ≤ B
structure sepScrR (T : List Nat) (x : ScrR) : Prop where
  Main : sepGridR T x.Main
  Alt : sepGridR T x.Alt
  Tabs : 0 < x.Tabs.n → (adr x.Tabs.A).block ∉ T
  Back : 0 < x.Back.n → (adr x.Back.A).block ∉ T
  Back_a : ∀ y, y ∈ x.Back.xs → sepRowR T y
theorem okScrR.st0 {B : Nat} {w0 w : World} {L : Hp} {x : ScrR} (h : okScrR B w0 x) (hs : St w0 [] L w) : okScrR B w x := ⟨okGridR.st0 h.Main hs, okGridR.st0 h.Alt hs, SlF.st0 h.Tabs hs, h.Tabs_c, h.Tabs_n, ⟨SlF.st0 h.Back.sl hs, fun y hy => okRowR.st0 (h.Back.all y hy) hs⟩, h.Back_c, h.Back_n⟩
theorem okScrR.st {B : Nat} {w0 w : World} {T : List Nat} {L : Hp} {x : ScrR} (h : okScrR B w0 x) (hs : St w0 T L w) (hp : sepScrR T x) : okScrR B w x := ⟨okGridR.st h.Main hs hp.Main, okGridR.st h.Alt hs hp.Alt, SlF.st h.Tabs hs hp.Tabs, h.Tabs_c, h.Tabs_n, ⟨SlF.st h.Back.sl hs hp.Back, fun y hy => okRowR.st (h.Back.all y hy) hs (hp.Back_a y hy)⟩, h.Back_c, h.Back_n⟩
theorem okScrR.le {B B' : Nat} {w : World} {x : ScrR} (h : okScrR B w x) (hB : B ≤ B') : okScrR B' w x := ⟨okGridR.le h.Main hB, okGridR.le h.Alt hB, h.Tabs, h.Tabs_c, Nat.le_trans h.Tabs_n hB, ⟨h.Back.sl, fun y hy => okRowR.le (h.Back.all y hy) hB⟩, h.Back_c, Nat.le_trans h.Back_n hB⟩
def ScrR.dat (x : ScrR) : ScrD := ⟨x.W, x.H, x.Main.dat, x.Alt.dat, x.OnAlt, x.X, x.Y, x.Wrap, x.A, x.Top, x.Bot, x.NoWrap, x.Hide, x.SaveX, x.SaveY, x.SaveA, x.Tabs.xs, x.Limit, x.Back.xs.map RowR.dat⟩
def smScr (B : Nat) (d : ScrD) : Prop := (smGrid B d.Main) ∧ (smGrid B d.Alt) ∧ (d.Tabs.length ≤ B) ∧ (d.Back.length ≤ B) ∧ (∀ y, y ∈ d.Back → smRow B y)
theorem okScrR.sm {B : Nat} {w : World} {x : ScrR} (h : okScrR B w x) : smScr B x.dat := ⟨h.Main.sm, h.Alt.sm, (by have := h.Tabs.len; have := h.Tabs_n; simp only [smScr, ScrR.dat]; omega), (by have := h.Back.sl.len; have := h.Back_n; simp only [smScr, ScrR.dat, List.length_map]; omega), (fun y hy => by obtain ⟨z, hz, rfl⟩ := List.mem_map.1 hy; exact (h.Back.all z hz).sm)⟩
theorem okScrR.to {B B' : Nat} {w : World} {x : ScrR} (h : okScrR B w x) (h2 : smScr B' x.dat) : okScrR B' w x := ⟨h.Main.to h2.1, h.Alt.to h2.2.1, h.Tabs, h.Tabs_c, (by have := h.Tabs.len; have h3 := h2.2.2.1; simp only [smScr, ScrR.dat] at h3; omega), ⟨h.Back.sl, fun y hy => (h.Back.all y hy).to (h2.2.2.2.2 _ (List.mem_map_of_mem hy))⟩, h.Back_c, (by have := h.Back.sl.len; have h3 := h2.2.2.2.1; simp only [smScr, ScrR.dat, List.length_map] at h3; omega)⟩
def totScr (d : ScrD) : Nat := d.Main.Cells.length + d.Alt.Cells.length + d.Tabs.length + tots totRow d.Back
theorem totScr_sm {B : Nat} {d : ScrD} (h : totScr d ≤ B) : smScr B d := by
  simp only [totScr] at h
  unfold smScr
  exact ⟨(totGrid_sm (by simp only [totGrid]; omega)), (totGrid_sm (by simp only [totGrid]; omega)), (by omega), (by have := tots_len totRow d.Back; omega), (fun y hy => totRow_sm (by have := tots_mem (f := totRow) hy; omega))⟩
def ownScrR (x : ScrR) (L : Hp) : Prop := ∃ L1 L2 L3 L4, L = L1 ++ (L2 ++ (L3 ++ L4)) ∧ OwnF encCell 152 (.slice x.Main.Cells.A x.Main.Cells.n x.Main.Cells.c) x.Main.Cells.xs L1 ∧ OwnF encCell 152 (.slice x.Alt.Cells.A x.Alt.Cells.n x.Alt.Cells.c) x.Alt.Cells.xs L2 ∧ OwnF encI 3 (.slice x.Tabs.A x.Tabs.n x.Tabs.c) x.Tabs.xs L3 ∧ OwnN encRowR ownRowR 125 (.slice x.Back.A x.Back.n x.Back.c) x.Back.xs L4
theorem ownScrR.fold {w0 w : World} {T : List Nat} {L1 L2 L3 L4 R : Hp} (x : ScrR) (hs : St w0 T (L1 ++ (L2 ++ (L3 ++ (L4 ++ R)))) w) (o1 : OwnF encCell 152 (.slice x.Main.Cells.A x.Main.Cells.n x.Main.Cells.c) x.Main.Cells.xs L1) (o2 : OwnF encCell 152 (.slice x.Alt.Cells.A x.Alt.Cells.n x.Alt.Cells.c) x.Alt.Cells.xs L2) (o3 : OwnF encI 3 (.slice x.Tabs.A x.Tabs.n x.Tabs.c) x.Tabs.xs L3) (o4 : OwnN encRowR ownRowR 125 (.slice x.Back.A x.Back.n x.Back.c) x.Back.xs L4) : ∃ L, St w0 T (L ++ R) w ∧ ownScrR x L := ⟨L1 ++ (L2 ++ (L3 ++ L4)), by simpa only [List.append_assoc] using hs, L1, L2, L3, L4, rfl, o1, o2, o3, o4⟩
theorem ownScrR.open_ {w0 w : World} {T : List Nat} {L R : Hp} {x : ScrR} (hs : St w0 T (L ++ R) w) (h : ownScrR x L) : ∃ L1 L2 L3 L4, St w0 T (L1 ++ (L2 ++ (L3 ++ (L4 ++ R)))) w ∧ OwnF encCell 152 (.slice x.Main.Cells.A x.Main.Cells.n x.Main.Cells.c) x.Main.Cells.xs L1 ∧ OwnF encCell 152 (.slice x.Alt.Cells.A x.Alt.Cells.n x.Alt.Cells.c) x.Alt.Cells.xs L2 ∧ OwnF encI 3 (.slice x.Tabs.A x.Tabs.n x.Tabs.c) x.Tabs.xs L3 ∧ OwnN encRowR ownRowR 125 (.slice x.Back.A x.Back.n x.Back.c) x.Back.xs L4 := by
  obtain ⟨L1, L2, L3, L4, rfl, h⟩ := h
  exact ⟨L1, L2, L3, L4, by simpa only [List.append_assoc] using hs, h⟩
theorem ownScrR.len {x : ScrR} {L : Hp} (h : ownScrR x L) : x.Main.Cells.xs.length = x.Main.Cells.n ∧ x.Alt.Cells.xs.length = x.Alt.Cells.n ∧ x.Tabs.xs.length = x.Tabs.n ∧ x.Back.xs.length = x.Back.n := by
  obtain ⟨L1, L2, L3, L4, rfl, o1, o2, o3, o4⟩ := h
  exact ⟨(OwnF.len_ o1), (OwnF.len_ o2), (OwnF.len_ o3), (OwnN.len_ o4)⟩
theorem ownScrR.ok {B : Nat} {w : World} {x : ScrR} {L : Hp} (h : ownScrR x L) (hh : ∀ p, p ∈ L → w.heap[p.1]? = some p.2) (h2 : smScr B x.dat) : okScrR B w x := by
  obtain ⟨L1, L2, L3, L4, rfl, o1, o2, o3, o4⟩ := h
  simp only [List.mem_append] at hh
  exact ⟨⟨SlF.ofOwn o1 (fun p hp => hh p (.inl hp)), OwnF.cap o1, (by have := OwnF.len_ o1; have h3 := h2.1; simp only [GridR.dat, ScrR.dat, smGrid, smScr] at h3; omega)⟩, ⟨SlF.ofOwn o2 (fun p hp => hh p (.inr (.inl hp))), OwnF.cap o2, (by have := OwnF.len_ o2; have h3 := h2.2.1; simp only [GridR.dat, ScrR.dat, smGrid, smScr] at h3; omega)⟩, SlF.ofOwn o3 (fun p hp => hh p (.inr (.inr (.inl hp)))), OwnF.cap o3, (by have := OwnF.len_ o3; have h3 := h2.2.2.1; simp only [GridR.dat, ScrR.dat, smGrid, smScr] at h3; omega), OwnN.ok o4 (fun p hp => hh p (.inr (.inr (.inr (hp))))) (fun y Li hy h3 hl => h3.ok hl (h2.2.2.2.2 _ (List.mem_map_of_mem hy))), OwnN.cap o4, (by have := OwnN.len_ o4; have h3 := h2.2.2.2.1; simp only [GridR.dat, ScrR.dat, smGrid, smScr, List.length_map] at h3; omega)⟩
structure TermR where
  P : VpR
  S : ScrR
def encTermR : Enc TermR := ⟨35, fun d => [i64 d.P.State, .bool d.P.Mark, .slice d.P.Args.A d.P.Args.n d.P.Args.c, .slice d.P.Part.A d.P.Part.n d.P.Part.c, i64 d.S.W, i64 d.S.H, i64 d.S.Main.W, i64 d.S.Main.H, .slice d.S.Main.Cells.A d.S.Main.Cells.n d.S.Main.Cells.c, i64 d.S.Alt.W, i64 d.S.Alt.H, .slice d.S.Alt.Cells.A d.S.Alt.Cells.n d.S.Alt.Cells.c, .bool d.S.OnAlt, i64 d.S.X, i64 d.S.Y, .bool d.S.Wrap, i64 d.S.A.Fg, i64 d.S.A.Bg, .bool d.S.A.Bold, .bool d.S.A.Under, .bool d.S.A.Turn, i64 d.S.Top, i64 d.S.Bot, .bool d.S.NoWrap, .bool d.S.Hide, i64 d.S.SaveX, i64 d.S.SaveY, i64 d.S.SaveA.Fg, i64 d.S.SaveA.Bg, .bool d.S.SaveA.Bold, .bool d.S.SaveA.Under, .bool d.S.SaveA.Turn, .slice d.S.Tabs.A d.S.Tabs.n d.S.Tabs.c, i64 d.S.Limit, .slice d.S.Back.A d.S.Back.n d.S.Back.c], ⟨⟨0, false, ⟨none, 0, 0, []⟩, ⟨none, 0, 0, []⟩⟩, ⟨0, 0, ⟨0, 0, ⟨none, 0, 0, []⟩⟩, ⟨0, 0, ⟨none, 0, 0, []⟩⟩, false, 0, 0, false, ⟨0, 0, false, false, false⟩, 0, 0, false, false, 0, 0, ⟨0, 0, false, false, false⟩, ⟨none, 0, 0, []⟩, 0, ⟨none, 0, 0, []⟩⟩⟩, fun _ => rfl, fun x v h => by simp at h; rcases h with rfl | rfl | rfl | rfl | rfl | rfl | rfl | rfl | rfl | rfl | rfl | rfl | rfl | rfl | rfl | rfl | rfl | rfl | rfl | rfl | rfl | rfl | rfl | rfl | rfl | rfl | rfl | rfl | rfl | rfl | rfl | rfl | rfl | rfl | rfl <;> rfl, by decide⟩
structure okTermR (B : Nat) (w : World) (x : TermR) : Prop where
  P : okVpR B w x.P
  S : okScrR B w x.S
structure sepTermR (T : List Nat) (x : TermR) : Prop where
  P : sepVpR T x.P
  S : sepScrR T x.S
theorem okTermR.st0 {B : Nat} {w0 w : World} {L : Hp} {x : TermR} (h : okTermR B w0 x) (hs : St w0 [] L w) : okTermR B w x := ⟨okVpR.st0 h.P hs, okScrR.st0 h.S hs⟩
theorem okTermR.st {B : Nat} {w0 w : World} {T : List Nat} {L : Hp} {x : TermR} (h : okTermR B w0 x) (hs : St w0 T L w) (hp : sepTermR T x) : okTermR B w x := ⟨okVpR.st h.P hs hp.P, okScrR.st h.S hs hp.S⟩
theorem okTermR.le {B B' : Nat} {w : World} {x : TermR} (h : okTermR B w x) (hB : B ≤ B') : okTermR B' w x := ⟨okVpR.le h.P hB, okScrR.le h.S hB⟩
def TermR.dat (x : TermR) : TermD := ⟨x.P.dat, x.S.dat⟩
def smTerm (B : Nat) (d : TermD) : Prop := (smVp B d.P) ∧ (smScr B d.S)
theorem okTermR.sm {B : Nat} {w : World} {x : TermR} (h : okTermR B w x) : smTerm B x.dat := ⟨h.P.sm, h.S.sm⟩
theorem okTermR.to {B B' : Nat} {w : World} {x : TermR} (h : okTermR B w x) (h2 : smTerm B' x.dat) : okTermR B' w x := ⟨h.P.to h2.1, h.S.to h2.2⟩
def totTerm (d : TermD) : Nat := d.P.Args.length + d.P.Part.length + d.S.Main.Cells.length + d.S.Alt.Cells.length + d.S.Tabs.length + tots totRow d.S.Back
theorem totTerm_sm {B : Nat} {d : TermD} (h : totTerm d ≤ B) : smTerm B d := by
  simp only [totTerm] at h
  unfold smTerm
  exact ⟨(totVp_sm (by simp only [totVp]; omega)), (totScr_sm (by simp only [totGrid, totScr]; omega))⟩
def ownTermR (x : TermR) (L : Hp) : Prop := ∃ L1 L2 L3 L4 L5 L6, L = L1 ++ (L2 ++ (L3 ++ (L4 ++ (L5 ++ L6)))) ∧ OwnF encI 3 (.slice x.P.Args.A x.P.Args.n x.P.Args.c) x.P.Args.xs L1 ∧ OwnF encB 5 (.slice x.P.Part.A x.P.Part.n x.P.Part.c) x.P.Part.xs L2 ∧ OwnF encCell 152 (.slice x.S.Main.Cells.A x.S.Main.Cells.n x.S.Main.Cells.c) x.S.Main.Cells.xs L3 ∧ OwnF encCell 152 (.slice x.S.Alt.Cells.A x.S.Alt.Cells.n x.S.Alt.Cells.c) x.S.Alt.Cells.xs L4 ∧ OwnF encI 3 (.slice x.S.Tabs.A x.S.Tabs.n x.S.Tabs.c) x.S.Tabs.xs L5 ∧ OwnN encRowR ownRowR 125 (.slice x.S.Back.A x.S.Back.n x.S.Back.c) x.S.Back.xs L6
theorem ownTermR.fold {w0 w : World} {T : List Nat} {L1 L2 L3 L4 L5 L6 R : Hp} (x : TermR) (hs : St w0 T (L1 ++ (L2 ++ (L3 ++ (L4 ++ (L5 ++ (L6 ++ R)))))) w) (o1 : OwnF encI 3 (.slice x.P.Args.A x.P.Args.n x.P.Args.c) x.P.Args.xs L1) (o2 : OwnF encB 5 (.slice x.P.Part.A x.P.Part.n x.P.Part.c) x.P.Part.xs L2) (o3 : OwnF encCell 152 (.slice x.S.Main.Cells.A x.S.Main.Cells.n x.S.Main.Cells.c) x.S.Main.Cells.xs L3) (o4 : OwnF encCell 152 (.slice x.S.Alt.Cells.A x.S.Alt.Cells.n x.S.Alt.Cells.c) x.S.Alt.Cells.xs L4) (o5 : OwnF encI 3 (.slice x.S.Tabs.A x.S.Tabs.n x.S.Tabs.c) x.S.Tabs.xs L5) (o6 : OwnN encRowR ownRowR 125 (.slice x.S.Back.A x.S.Back.n x.S.Back.c) x.S.Back.xs L6) : ∃ L, St w0 T (L ++ R) w ∧ ownTermR x L := ⟨L1 ++ (L2 ++ (L3 ++ (L4 ++ (L5 ++ L6)))), by simpa only [List.append_assoc] using hs, L1, L2, L3, L4, L5, L6, rfl, o1, o2, o3, o4, o5, o6⟩
theorem ownTermR.open_ {w0 w : World} {T : List Nat} {L R : Hp} {x : TermR} (hs : St w0 T (L ++ R) w) (h : ownTermR x L) : ∃ L1 L2 L3 L4 L5 L6, St w0 T (L1 ++ (L2 ++ (L3 ++ (L4 ++ (L5 ++ (L6 ++ R)))))) w ∧ OwnF encI 3 (.slice x.P.Args.A x.P.Args.n x.P.Args.c) x.P.Args.xs L1 ∧ OwnF encB 5 (.slice x.P.Part.A x.P.Part.n x.P.Part.c) x.P.Part.xs L2 ∧ OwnF encCell 152 (.slice x.S.Main.Cells.A x.S.Main.Cells.n x.S.Main.Cells.c) x.S.Main.Cells.xs L3 ∧ OwnF encCell 152 (.slice x.S.Alt.Cells.A x.S.Alt.Cells.n x.S.Alt.Cells.c) x.S.Alt.Cells.xs L4 ∧ OwnF encI 3 (.slice x.S.Tabs.A x.S.Tabs.n x.S.Tabs.c) x.S.Tabs.xs L5 ∧ OwnN encRowR ownRowR 125 (.slice x.S.Back.A x.S.Back.n x.S.Back.c) x.S.Back.xs L6 := by
  obtain ⟨L1, L2, L3, L4, L5, L6, rfl, h⟩ := h
  exact ⟨L1, L2, L3, L4, L5, L6, by simpa only [List.append_assoc] using hs, h⟩
theorem ownTermR.len {x : TermR} {L : Hp} (h : ownTermR x L) : x.P.Args.xs.length = x.P.Args.n ∧ x.P.Part.xs.length = x.P.Part.n ∧ x.S.Main.Cells.xs.length = x.S.Main.Cells.n ∧ x.S.Alt.Cells.xs.length = x.S.Alt.Cells.n ∧ x.S.Tabs.xs.length = x.S.Tabs.n ∧ x.S.Back.xs.length = x.S.Back.n := by
  obtain ⟨L1, L2, L3, L4, L5, L6, rfl, o1, o2, o3, o4, o5, o6⟩ := h
  exact ⟨(OwnF.len_ o1), (OwnF.len_ o2), (OwnF.len_ o3), (OwnF.len_ o4), (OwnF.len_ o5), (OwnN.len_ o6)⟩
theorem ownTermR.ok {B : Nat} {w : World} {x : TermR} {L : Hp} (h : ownTermR x L) (hh : ∀ p, p ∈ L → w.heap[p.1]? = some p.2) (h2 : smTerm B x.dat) : okTermR B w x := by
  obtain ⟨L1, L2, L3, L4, L5, L6, rfl, o1, o2, o3, o4, o5, o6⟩ := h
  simp only [List.mem_append] at hh
  exact ⟨⟨SlF.ofOwn o1 (fun p hp => hh p (.inl hp)), OwnF.cap o1, (by have := OwnF.len_ o1; have h3 := h2.1.1; simp only [GridR.dat, ScrR.dat, TermR.dat, VpR.dat, smGrid, smScr, smTerm, smVp] at h3; omega), SlF.ofOwn o2 (fun p hp => hh p (.inr (.inl hp))), OwnF.cap o2, (by have := OwnF.len_ o2; have h3 := h2.1.2; simp only [GridR.dat, ScrR.dat, TermR.dat, VpR.dat, smGrid, smScr, smTerm, smVp] at h3; omega)⟩, ⟨⟨SlF.ofOwn o3 (fun p hp => hh p (.inr (.inr (.inl hp)))), OwnF.cap o3, (by have := OwnF.len_ o3; have h3 := h2.2.1; simp only [GridR.dat, ScrR.dat, TermR.dat, VpR.dat, smGrid, smScr, smTerm, smVp] at h3; omega)⟩, ⟨SlF.ofOwn o4 (fun p hp => hh p (.inr (.inr (.inr (.inl hp))))), OwnF.cap o4, (by have := OwnF.len_ o4; have h3 := h2.2.2.1; simp only [GridR.dat, ScrR.dat, TermR.dat, VpR.dat, smGrid, smScr, smTerm, smVp] at h3; omega)⟩, SlF.ofOwn o5 (fun p hp => hh p (.inr (.inr (.inr (.inr (.inl hp)))))), OwnF.cap o5, (by have := OwnF.len_ o5; have h3 := h2.2.2.2.1; simp only [GridR.dat, ScrR.dat, TermR.dat, VpR.dat, smGrid, smScr, smTerm, smVp] at h3; omega), OwnN.ok o6 (fun p hp => hh p (.inr (.inr (.inr (.inr (.inr (hp))))))) (fun y Li hy h3 hl => h3.ok hl (h2.2.2.2.2.2 _ (List.mem_map_of_mem hy))), OwnN.cap o6, (by have := OwnN.len_ o6; have h3 := h2.2.2.2.2.1; simp only [GridR.dat, ScrR.dat, TermR.dat, VpR.dat, smGrid, smScr, smTerm, smVp, List.length_map] at h3; omega)⟩⟩
structure PaneR where
  Id : Int
  Cmd : ByteArray
  Dir : ByteArray
  Life : Int
  Code : Int
  Pid : Int
  Term : TermR
def encPaneR : Enc PaneR := ⟨41, fun d => [i64 d.Id, .string d.Cmd, .string d.Dir, i64 d.Life, i64 d.Code, i64 d.Pid, i64 d.Term.P.State, .bool d.Term.P.Mark, .slice d.Term.P.Args.A d.Term.P.Args.n d.Term.P.Args.c, .slice d.Term.P.Part.A d.Term.P.Part.n d.Term.P.Part.c, i64 d.Term.S.W, i64 d.Term.S.H, i64 d.Term.S.Main.W, i64 d.Term.S.Main.H, .slice d.Term.S.Main.Cells.A d.Term.S.Main.Cells.n d.Term.S.Main.Cells.c, i64 d.Term.S.Alt.W, i64 d.Term.S.Alt.H, .slice d.Term.S.Alt.Cells.A d.Term.S.Alt.Cells.n d.Term.S.Alt.Cells.c, .bool d.Term.S.OnAlt, i64 d.Term.S.X, i64 d.Term.S.Y, .bool d.Term.S.Wrap, i64 d.Term.S.A.Fg, i64 d.Term.S.A.Bg, .bool d.Term.S.A.Bold, .bool d.Term.S.A.Under, .bool d.Term.S.A.Turn, i64 d.Term.S.Top, i64 d.Term.S.Bot, .bool d.Term.S.NoWrap, .bool d.Term.S.Hide, i64 d.Term.S.SaveX, i64 d.Term.S.SaveY, i64 d.Term.S.SaveA.Fg, i64 d.Term.S.SaveA.Bg, .bool d.Term.S.SaveA.Bold, .bool d.Term.S.SaveA.Under, .bool d.Term.S.SaveA.Turn, .slice d.Term.S.Tabs.A d.Term.S.Tabs.n d.Term.S.Tabs.c, i64 d.Term.S.Limit, .slice d.Term.S.Back.A d.Term.S.Back.n d.Term.S.Back.c], ⟨0, { data := #[] }, { data := #[] }, 0, 0, 0, ⟨⟨0, false, ⟨none, 0, 0, []⟩, ⟨none, 0, 0, []⟩⟩, ⟨0, 0, ⟨0, 0, ⟨none, 0, 0, []⟩⟩, ⟨0, 0, ⟨none, 0, 0, []⟩⟩, false, 0, 0, false, ⟨0, 0, false, false, false⟩, 0, 0, false, false, 0, 0, ⟨0, 0, false, false, false⟩, ⟨none, 0, 0, []⟩, 0, ⟨none, 0, 0, []⟩⟩⟩⟩, fun _ => rfl, fun x v h => by simp at h; rcases h with rfl | rfl | rfl | rfl | rfl | rfl | rfl | rfl | rfl | rfl | rfl | rfl | rfl | rfl | rfl | rfl | rfl | rfl | rfl | rfl | rfl | rfl | rfl | rfl | rfl | rfl | rfl | rfl | rfl | rfl | rfl | rfl | rfl | rfl | rfl | rfl | rfl | rfl | rfl | rfl | rfl <;> rfl, by decide⟩
structure okPaneR (B : Nat) (w : World) (x : PaneR) : Prop where
  Cmd_z : x.Cmd.size ≤ B
  Dir_z : x.Dir.size ≤ B
  Term : okTermR B w x.Term
structure sepPaneR (T : List Nat) (x : PaneR) : Prop where
  Term : sepTermR T x.Term
theorem okPaneR.st0 {B : Nat} {w0 w : World} {L : Hp} {x : PaneR} (h : okPaneR B w0 x) (hs : St w0 [] L w) : okPaneR B w x := ⟨h.Cmd_z, h.Dir_z, okTermR.st0 h.Term hs⟩
theorem okPaneR.st {B : Nat} {w0 w : World} {T : List Nat} {L : Hp} {x : PaneR} (h : okPaneR B w0 x) (hs : St w0 T L w) (hp : sepPaneR T x) : okPaneR B w x := ⟨h.Cmd_z, h.Dir_z, okTermR.st h.Term hs hp.Term⟩
theorem okPaneR.le {B B' : Nat} {w : World} {x : PaneR} (h : okPaneR B w x) (hB : B ≤ B') : okPaneR B' w x := ⟨Nat.le_trans h.Cmd_z hB, Nat.le_trans h.Dir_z hB, okTermR.le h.Term hB⟩
def PaneR.dat (x : PaneR) : PaneD := ⟨x.Id, x.Cmd, x.Dir, x.Life, x.Code, x.Pid, x.Term.dat⟩
def smPane (B : Nat) (d : PaneD) : Prop := (d.Cmd.size ≤ B) ∧ (d.Dir.size ≤ B) ∧ (smTerm B d.Term)
theorem okPaneR.sm {B : Nat} {w : World} {x : PaneR} (h : okPaneR B w x) : smPane B x.dat := ⟨h.Cmd_z, h.Dir_z, h.Term.sm⟩
theorem okPaneR.to {B B' : Nat} {w : World} {x : PaneR} (h : okPaneR B w x) (h2 : smPane B' x.dat) : okPaneR B' w x := ⟨h2.1, h2.2.1, h.Term.to h2.2.2⟩
def totPane (d : PaneD) : Nat := d.Cmd.size + d.Dir.size + d.Term.P.Args.length + d.Term.P.Part.length + d.Term.S.Main.Cells.length + d.Term.S.Alt.Cells.length + d.Term.S.Tabs.length + tots totRow d.Term.S.Back
theorem totPane_sm {B : Nat} {d : PaneD} (h : totPane d ≤ B) : smPane B d := by
  simp only [totPane] at h
  unfold smPane
  exact ⟨(by omega), (by omega), (totTerm_sm (by simp only [totGrid, totScr, totTerm, totVp]; omega))⟩
def ownPaneR (x : PaneR) (L : Hp) : Prop := ∃ L1 L2 L3 L4 L5 L6, L = L1 ++ (L2 ++ (L3 ++ (L4 ++ (L5 ++ L6)))) ∧ OwnF encI 3 (.slice x.Term.P.Args.A x.Term.P.Args.n x.Term.P.Args.c) x.Term.P.Args.xs L1 ∧ OwnF encB 5 (.slice x.Term.P.Part.A x.Term.P.Part.n x.Term.P.Part.c) x.Term.P.Part.xs L2 ∧ OwnF encCell 152 (.slice x.Term.S.Main.Cells.A x.Term.S.Main.Cells.n x.Term.S.Main.Cells.c) x.Term.S.Main.Cells.xs L3 ∧ OwnF encCell 152 (.slice x.Term.S.Alt.Cells.A x.Term.S.Alt.Cells.n x.Term.S.Alt.Cells.c) x.Term.S.Alt.Cells.xs L4 ∧ OwnF encI 3 (.slice x.Term.S.Tabs.A x.Term.S.Tabs.n x.Term.S.Tabs.c) x.Term.S.Tabs.xs L5 ∧ OwnN encRowR ownRowR 125 (.slice x.Term.S.Back.A x.Term.S.Back.n x.Term.S.Back.c) x.Term.S.Back.xs L6
theorem ownPaneR.fold {w0 w : World} {T : List Nat} {L1 L2 L3 L4 L5 L6 R : Hp} (x : PaneR) (hs : St w0 T (L1 ++ (L2 ++ (L3 ++ (L4 ++ (L5 ++ (L6 ++ R)))))) w) (o1 : OwnF encI 3 (.slice x.Term.P.Args.A x.Term.P.Args.n x.Term.P.Args.c) x.Term.P.Args.xs L1) (o2 : OwnF encB 5 (.slice x.Term.P.Part.A x.Term.P.Part.n x.Term.P.Part.c) x.Term.P.Part.xs L2) (o3 : OwnF encCell 152 (.slice x.Term.S.Main.Cells.A x.Term.S.Main.Cells.n x.Term.S.Main.Cells.c) x.Term.S.Main.Cells.xs L3) (o4 : OwnF encCell 152 (.slice x.Term.S.Alt.Cells.A x.Term.S.Alt.Cells.n x.Term.S.Alt.Cells.c) x.Term.S.Alt.Cells.xs L4) (o5 : OwnF encI 3 (.slice x.Term.S.Tabs.A x.Term.S.Tabs.n x.Term.S.Tabs.c) x.Term.S.Tabs.xs L5) (o6 : OwnN encRowR ownRowR 125 (.slice x.Term.S.Back.A x.Term.S.Back.n x.Term.S.Back.c) x.Term.S.Back.xs L6) : ∃ L, St w0 T (L ++ R) w ∧ ownPaneR x L := ⟨L1 ++ (L2 ++ (L3 ++ (L4 ++ (L5 ++ L6)))), by simpa only [List.append_assoc] using hs, L1, L2, L3, L4, L5, L6, rfl, o1, o2, o3, o4, o5, o6⟩
theorem ownPaneR.open_ {w0 w : World} {T : List Nat} {L R : Hp} {x : PaneR} (hs : St w0 T (L ++ R) w) (h : ownPaneR x L) : ∃ L1 L2 L3 L4 L5 L6, St w0 T (L1 ++ (L2 ++ (L3 ++ (L4 ++ (L5 ++ (L6 ++ R)))))) w ∧ OwnF encI 3 (.slice x.Term.P.Args.A x.Term.P.Args.n x.Term.P.Args.c) x.Term.P.Args.xs L1 ∧ OwnF encB 5 (.slice x.Term.P.Part.A x.Term.P.Part.n x.Term.P.Part.c) x.Term.P.Part.xs L2 ∧ OwnF encCell 152 (.slice x.Term.S.Main.Cells.A x.Term.S.Main.Cells.n x.Term.S.Main.Cells.c) x.Term.S.Main.Cells.xs L3 ∧ OwnF encCell 152 (.slice x.Term.S.Alt.Cells.A x.Term.S.Alt.Cells.n x.Term.S.Alt.Cells.c) x.Term.S.Alt.Cells.xs L4 ∧ OwnF encI 3 (.slice x.Term.S.Tabs.A x.Term.S.Tabs.n x.Term.S.Tabs.c) x.Term.S.Tabs.xs L5 ∧ OwnN encRowR ownRowR 125 (.slice x.Term.S.Back.A x.Term.S.Back.n x.Term.S.Back.c) x.Term.S.Back.xs L6 := by
  obtain ⟨L1, L2, L3, L4, L5, L6, rfl, h⟩ := h
  exact ⟨L1, L2, L3, L4, L5, L6, by simpa only [List.append_assoc] using hs, h⟩
theorem ownPaneR.len {x : PaneR} {L : Hp} (h : ownPaneR x L) : x.Term.P.Args.xs.length = x.Term.P.Args.n ∧ x.Term.P.Part.xs.length = x.Term.P.Part.n ∧ x.Term.S.Main.Cells.xs.length = x.Term.S.Main.Cells.n ∧ x.Term.S.Alt.Cells.xs.length = x.Term.S.Alt.Cells.n ∧ x.Term.S.Tabs.xs.length = x.Term.S.Tabs.n ∧ x.Term.S.Back.xs.length = x.Term.S.Back.n := by
  obtain ⟨L1, L2, L3, L4, L5, L6, rfl, o1, o2, o3, o4, o5, o6⟩ := h
  exact ⟨(OwnF.len_ o1), (OwnF.len_ o2), (OwnF.len_ o3), (OwnF.len_ o4), (OwnF.len_ o5), (OwnN.len_ o6)⟩
theorem ownPaneR.ok {B : Nat} {w : World} {x : PaneR} {L : Hp} (h : ownPaneR x L) (hh : ∀ p, p ∈ L → w.heap[p.1]? = some p.2) (h2 : smPane B x.dat) : okPaneR B w x := by
  obtain ⟨L1, L2, L3, L4, L5, L6, rfl, o1, o2, o3, o4, o5, o6⟩ := h
  simp only [List.mem_append] at hh
  exact ⟨(h2.1), (h2.2.1), ⟨⟨SlF.ofOwn o1 (fun p hp => hh p (.inl hp)), OwnF.cap o1, (by have := OwnF.len_ o1; have h3 := h2.2.2.1.1; simp only [GridR.dat, PaneR.dat, ScrR.dat, TermR.dat, VpR.dat, smGrid, smPane, smScr, smTerm, smVp] at h3; omega), SlF.ofOwn o2 (fun p hp => hh p (.inr (.inl hp))), OwnF.cap o2, (by have := OwnF.len_ o2; have h3 := h2.2.2.1.2; simp only [GridR.dat, PaneR.dat, ScrR.dat, TermR.dat, VpR.dat, smGrid, smPane, smScr, smTerm, smVp] at h3; omega)⟩, ⟨⟨SlF.ofOwn o3 (fun p hp => hh p (.inr (.inr (.inl hp)))), OwnF.cap o3, (by have := OwnF.len_ o3; have h3 := h2.2.2.2.1; simp only [GridR.dat, PaneR.dat, ScrR.dat, TermR.dat, VpR.dat, smGrid, smPane, smScr, smTerm, smVp] at h3; omega)⟩, ⟨SlF.ofOwn o4 (fun p hp => hh p (.inr (.inr (.inr (.inl hp))))), OwnF.cap o4, (by have := OwnF.len_ o4; have h3 := h2.2.2.2.2.1; simp only [GridR.dat, PaneR.dat, ScrR.dat, TermR.dat, VpR.dat, smGrid, smPane, smScr, smTerm, smVp] at h3; omega)⟩, SlF.ofOwn o5 (fun p hp => hh p (.inr (.inr (.inr (.inr (.inl hp)))))), OwnF.cap o5, (by have := OwnF.len_ o5; have h3 := h2.2.2.2.2.2.1; simp only [GridR.dat, PaneR.dat, ScrR.dat, TermR.dat, VpR.dat, smGrid, smPane, smScr, smTerm, smVp] at h3; omega), OwnN.ok o6 (fun p hp => hh p (.inr (.inr (.inr (.inr (.inr (hp))))))) (fun y Li hy h3 hl => h3.ok hl (h2.2.2.2.2.2.2.2 _ (List.mem_map_of_mem hy))), OwnN.cap o6, (by have := OwnN.len_ o6; have h3 := h2.2.2.2.2.2.2.1; simp only [GridR.dat, PaneR.dat, ScrR.dat, TermR.dat, VpR.dat, smGrid, smPane, smScr, smTerm, smVp, List.length_map] at h3; omega)⟩⟩⟩
structure WinR where
  Id : Int
  Name : ByteArray
  Tree : SlD NodeD
  Active : Int
  Zoom : Bool
def encWinR : Enc WinR := ⟨5, fun d => [i64 d.Id, .string d.Name, .slice d.Tree.A d.Tree.n d.Tree.c, i64 d.Active, .bool d.Zoom], ⟨0, { data := #[] }, ⟨none, 0, 0, []⟩, 0, false⟩, fun _ => rfl, fun x v h => by simp at h; rcases h with rfl | rfl | rfl | rfl | rfl <;> rfl, by decide⟩
structure okWinR (B : Nat) (w : World) (x : WinR) : Prop where
  Name_z : x.Name.size ≤ B
  Tree : SlF encNode w x.Tree.A x.Tree.n x.Tree.xs
  Tree_c : x.Tree.n ≤ x.Tree.c
  Tree_n : x.Tree.n ≤ B
structure sepWinR (T : List Nat) (x : WinR) : Prop where
  Tree : 0 < x.Tree.n → (adr x.Tree.A).block ∉ T
theorem okWinR.st0 {B : Nat} {w0 w : World} {L : Hp} {x : WinR} (h : okWinR B w0 x) (hs : St w0 [] L w) : okWinR B w x := ⟨h.Name_z, SlF.st0 h.Tree hs, h.Tree_c, h.Tree_n⟩
theorem okWinR.st {B : Nat} {w0 w : World} {T : List Nat} {L : Hp} {x : WinR} (h : okWinR B w0 x) (hs : St w0 T L w) (hp : sepWinR T x) : okWinR B w x := ⟨h.Name_z, SlF.st h.Tree hs hp.Tree, h.Tree_c, h.Tree_n⟩
theorem okWinR.le {B B' : Nat} {w : World} {x : WinR} (h : okWinR B w x) (hB : B ≤ B') : okWinR B' w x := ⟨Nat.le_trans h.Name_z hB, h.Tree, h.Tree_c, Nat.le_trans h.Tree_n hB⟩
def WinR.dat (x : WinR) : WinD := ⟨x.Id, x.Name, x.Tree.xs, x.Active, x.Zoom⟩
def smWin (B : Nat) (d : WinD) : Prop := (d.Name.size ≤ B) ∧ (d.Tree.length ≤ B)
theorem okWinR.sm {B : Nat} {w : World} {x : WinR} (h : okWinR B w x) : smWin B x.dat := ⟨h.Name_z, (by have := h.Tree.len; have := h.Tree_n; simp only [smWin, WinR.dat]; omega)⟩
theorem okWinR.to {B B' : Nat} {w : World} {x : WinR} (h : okWinR B w x) (h2 : smWin B' x.dat) : okWinR B' w x := ⟨h2.1, h.Tree, h.Tree_c, (by have := h.Tree.len; have h3 := h2.2; simp only [smWin, WinR.dat] at h3; omega)⟩
def totWin (d : WinD) : Nat := d.Name.size + d.Tree.length
theorem totWin_sm {B : Nat} {d : WinD} (h : totWin d ≤ B) : smWin B d := by
  simp only [totWin] at h
  unfold smWin
  exact ⟨(by omega), (by omega)⟩
def ownWinR (x : WinR) (L : Hp) : Prop := OwnF encNode 164 (.slice x.Tree.A x.Tree.n x.Tree.c) x.Tree.xs L
theorem ownWinR.len {x : WinR} {L : Hp} (h : ownWinR x L) : x.Tree.xs.length = x.Tree.n := by
  exact (OwnF.len_ h)
theorem ownWinR.ok {B : Nat} {w : World} {x : WinR} {L : Hp} (h : ownWinR x L) (hh : ∀ p, p ∈ L → w.heap[p.1]? = some p.2) (h2 : smWin B x.dat) : okWinR B w x := by
  exact ⟨(h2.1), SlF.ofOwn h (fun p hp => hh p hp), OwnF.cap h, (by have := OwnF.len_ h; have h3 := h2.2; simp only [WinR.dat, smWin] at h3; omega)⟩
structure SessR where
  Name : ByteArray
  Wins : SlD Int
  Active : Int
def encSessR : Enc SessR := ⟨3, fun d => [.string d.Name, .slice d.Wins.A d.Wins.n d.Wins.c, i64 d.Active], ⟨{ data := #[] }, ⟨none, 0, 0, []⟩, 0⟩, fun _ => rfl, fun x v h => by simp at h; rcases h with rfl | rfl | rfl <;> rfl, by decide⟩
structure okSessR (B : Nat) (w : World) (x : SessR) : Prop where
  Name_z : x.Name.size ≤ B
  Wins : SlF encI w x.Wins.A x.Wins.n x.Wins.xs
  Wins_c : x.Wins.n ≤ x.Wins.c
  Wins_n : x.Wins.n ≤ B
structure sepSessR (T : List Nat) (x : SessR) : Prop where
  Wins : 0 < x.Wins.n → (adr x.Wins.A).block ∉ T
theorem okSessR.st0 {B : Nat} {w0 w : World} {L : Hp} {x : SessR} (h : okSessR B w0 x) (hs : St w0 [] L w) : okSessR B w x := ⟨h.Name_z, SlF.st0 h.Wins hs, h.Wins_c, h.Wins_n⟩
theorem okSessR.st {B : Nat} {w0 w : World} {T : List Nat} {L : Hp} {x : SessR} (h : okSessR B w0 x) (hs : St w0 T L w) (hp : sepSessR T x) : okSessR B w x := ⟨h.Name_z, SlF.st h.Wins hs hp.Wins, h.Wins_c, h.Wins_n⟩
theorem okSessR.le {B B' : Nat} {w : World} {x : SessR} (h : okSessR B w x) (hB : B ≤ B') : okSessR B' w x := ⟨Nat.le_trans h.Name_z hB, h.Wins, h.Wins_c, Nat.le_trans h.Wins_n hB⟩
def SessR.dat (x : SessR) : SessD := ⟨x.Name, x.Wins.xs, x.Active⟩
def smSess (B : Nat) (d : SessD) : Prop := (d.Name.size ≤ B) ∧ (d.Wins.length ≤ B)
theorem okSessR.sm {B : Nat} {w : World} {x : SessR} (h : okSessR B w x) : smSess B x.dat := ⟨h.Name_z, (by have := h.Wins.len; have := h.Wins_n; simp only [smSess, SessR.dat]; omega)⟩
theorem okSessR.to {B B' : Nat} {w : World} {x : SessR} (h : okSessR B w x) (h2 : smSess B' x.dat) : okSessR B' w x := ⟨h2.1, h.Wins, h.Wins_c, (by have := h.Wins.len; have h3 := h2.2; simp only [smSess, SessR.dat] at h3; omega)⟩
def totSess (d : SessD) : Nat := d.Name.size + d.Wins.length
theorem totSess_sm {B : Nat} {d : SessD} (h : totSess d ≤ B) : smSess B d := by
  simp only [totSess] at h
  unfold smSess
  exact ⟨(by omega), (by omega)⟩
def ownSessR (x : SessR) (L : Hp) : Prop := OwnF encI 3 (.slice x.Wins.A x.Wins.n x.Wins.c) x.Wins.xs L
theorem ownSessR.len {x : SessR} {L : Hp} (h : ownSessR x L) : x.Wins.xs.length = x.Wins.n := by
  exact (OwnF.len_ h)
theorem ownSessR.ok {B : Nat} {w : World} {x : SessR} {L : Hp} (h : ownSessR x L) (hh : ∀ p, p ∈ L → w.heap[p.1]? = some p.2) (h2 : smSess B x.dat) : okSessR B w x := by
  exact ⟨(h2.1), SlF.ofOwn h (fun p hp => hh p hp), OwnF.cap h, (by have := OwnF.len_ h; have h3 := h2.2; simp only [SessR.dat, smSess] at h3; omega)⟩
structure StateR where
  W : Int
  H : Int
  Limit : Int
  Next : Int
  Panes : SlD PaneR
  Wins : SlD WinR
  Sess : SlD SessR
def encStateR : Enc StateR := ⟨7, fun d => [i64 d.W, i64 d.H, i64 d.Limit, i64 d.Next, .slice d.Panes.A d.Panes.n d.Panes.c, .slice d.Wins.A d.Wins.n d.Wins.c, .slice d.Sess.A d.Sess.n d.Sess.c], ⟨0, 0, 0, 0, ⟨none, 0, 0, []⟩, ⟨none, 0, 0, []⟩, ⟨none, 0, 0, []⟩⟩, fun _ => rfl, fun x v h => by simp at h; rcases h with rfl | rfl | rfl | rfl | rfl | rfl | rfl <;> rfl, by decide⟩
structure okStateR (B : Nat) (w : World) (x : StateR) : Prop where
  Panes : SlN encPaneR (okPaneR B) w x.Panes.A x.Panes.n x.Panes.xs
  Panes_c : x.Panes.n ≤ x.Panes.c
  Panes_n : x.Panes.n ≤ B
  Wins : SlN encWinR (okWinR B) w x.Wins.A x.Wins.n x.Wins.xs
  Wins_c : x.Wins.n ≤ x.Wins.c
  Wins_n : x.Wins.n ≤ B
  Sess : SlN encSessR (okSessR B) w x.Sess.A x.Sess.n x.Sess.xs
  Sess_c : x.Sess.n ≤ x.Sess.c
  Sess_n : x.Sess.n ≤ B
structure sepStateR (T : List Nat) (x : StateR) : Prop where
  Panes : 0 < x.Panes.n → (adr x.Panes.A).block ∉ T
  Panes_a : ∀ y, y ∈ x.Panes.xs → sepPaneR T y
  Wins : 0 < x.Wins.n → (adr x.Wins.A).block ∉ T
  Wins_a : ∀ y, y ∈ x.Wins.xs → sepWinR T y
  Sess : 0 < x.Sess.n → (adr x.Sess.A).block ∉ T
  Sess_a : ∀ y, y ∈ x.Sess.xs → sepSessR T y
theorem okStateR.st0 {B : Nat} {w0 w : World} {L : Hp} {x : StateR} (h : okStateR B w0 x) (hs : St w0 [] L w) : okStateR B w x := ⟨⟨SlF.st0 h.Panes.sl hs, fun y hy => okPaneR.st0 (h.Panes.all y hy) hs⟩, h.Panes_c, h.Panes_n, ⟨SlF.st0 h.Wins.sl hs, fun y hy => okWinR.st0 (h.Wins.all y hy) hs⟩, h.Wins_c, h.Wins_n, ⟨SlF.st0 h.Sess.sl hs, fun y hy => okSessR.st0 (h.Sess.all y hy) hs⟩, h.Sess_c, h.Sess_n⟩
theorem okStateR.st {B : Nat} {w0 w : World} {T : List Nat} {L : Hp} {x : StateR} (h : okStateR B w0 x) (hs : St w0 T L w) (hp : sepStateR T x) : okStateR B w x := ⟨⟨SlF.st h.Panes.sl hs hp.Panes, fun y hy => okPaneR.st (h.Panes.all y hy) hs (hp.Panes_a y hy)⟩, h.Panes_c, h.Panes_n, ⟨SlF.st h.Wins.sl hs hp.Wins, fun y hy => okWinR.st (h.Wins.all y hy) hs (hp.Wins_a y hy)⟩, h.Wins_c, h.Wins_n, ⟨SlF.st h.Sess.sl hs hp.Sess, fun y hy => okSessR.st (h.Sess.all y hy) hs (hp.Sess_a y hy)⟩, h.Sess_c, h.Sess_n⟩
theorem okStateR.le {B B' : Nat} {w : World} {x : StateR} (h : okStateR B w x) (hB : B ≤ B') : okStateR B' w x := ⟨⟨h.Panes.sl, fun y hy => okPaneR.le (h.Panes.all y hy) hB⟩, h.Panes_c, Nat.le_trans h.Panes_n hB, ⟨h.Wins.sl, fun y hy => okWinR.le (h.Wins.all y hy) hB⟩, h.Wins_c, Nat.le_trans h.Wins_n hB, ⟨h.Sess.sl, fun y hy => okSessR.le (h.Sess.all y hy) hB⟩, h.Sess_c, Nat.le_trans h.Sess_n hB⟩
def StateR.dat (x : StateR) : StateD := ⟨x.W, x.H, x.Limit, x.Next, x.Panes.xs.map PaneR.dat, x.Wins.xs.map WinR.dat, x.Sess.xs.map SessR.dat⟩
def smState (B : Nat) (d : StateD) : Prop := (d.Panes.length ≤ B) ∧ (∀ y, y ∈ d.Panes → smPane B y) ∧ (d.Wins.length ≤ B) ∧ (∀ y, y ∈ d.Wins → smWin B y) ∧ (d.Sess.length ≤ B) ∧ (∀ y, y ∈ d.Sess → smSess B y)
theorem okStateR.sm {B : Nat} {w : World} {x : StateR} (h : okStateR B w x) : smState B x.dat := ⟨(by have := h.Panes.sl.len; have := h.Panes_n; simp only [smState, StateR.dat, List.length_map]; omega), (fun y hy => by obtain ⟨z, hz, rfl⟩ := List.mem_map.1 hy; exact (h.Panes.all z hz).sm), (by have := h.Wins.sl.len; have := h.Wins_n; simp only [smState, StateR.dat, List.length_map]; omega), (fun y hy => by obtain ⟨z, hz, rfl⟩ := List.mem_map.1 hy; exact (h.Wins.all z hz).sm), (by have := h.Sess.sl.len; have := h.Sess_n; simp only [smState, StateR.dat, List.length_map]; omega), (fun y hy => by obtain ⟨z, hz, rfl⟩ := List.mem_map.1 hy; exact (h.Sess.all z hz).sm)⟩
theorem okStateR.to {B B' : Nat} {w : World} {x : StateR} (h : okStateR B w x) (h2 : smState B' x.dat) : okStateR B' w x := ⟨⟨h.Panes.sl, fun y hy => (h.Panes.all y hy).to (h2.2.1 _ (List.mem_map_of_mem hy))⟩, h.Panes_c, (by have := h.Panes.sl.len; have h3 := h2.1; simp only [smState, StateR.dat, List.length_map] at h3; omega), ⟨h.Wins.sl, fun y hy => (h.Wins.all y hy).to (h2.2.2.2.1 _ (List.mem_map_of_mem hy))⟩, h.Wins_c, (by have := h.Wins.sl.len; have h3 := h2.2.2.1; simp only [smState, StateR.dat, List.length_map] at h3; omega), ⟨h.Sess.sl, fun y hy => (h.Sess.all y hy).to (h2.2.2.2.2.2 _ (List.mem_map_of_mem hy))⟩, h.Sess_c, (by have := h.Sess.sl.len; have h3 := h2.2.2.2.2.1; simp only [smState, StateR.dat, List.length_map] at h3; omega)⟩
def totState (d : StateD) : Nat := tots totPane d.Panes + tots totWin d.Wins + tots totSess d.Sess
theorem totState_sm {B : Nat} {d : StateD} (h : totState d ≤ B) : smState B d := by
  simp only [totState] at h
  unfold smState
  exact ⟨(by have := tots_len totPane d.Panes; omega), (fun y hy => totPane_sm (by have := tots_mem (f := totPane) hy; omega)), (by have := tots_len totWin d.Wins; omega), (fun y hy => totWin_sm (by have := tots_mem (f := totWin) hy; omega)), (by have := tots_len totSess d.Sess; omega), (fun y hy => totSess_sm (by have := tots_mem (f := totSess) hy; omega))⟩
def ownStateR (x : StateR) (L : Hp) : Prop := ∃ L1 L2 L3, L = L1 ++ (L2 ++ L3) ∧ OwnN encPaneR ownPaneR 51 (.slice x.Panes.A x.Panes.n x.Panes.c) x.Panes.xs L1 ∧ OwnN encWinR ownWinR 95 (.slice x.Wins.A x.Wins.n x.Wins.c) x.Wins.xs L2 ∧ OwnN encSessR ownSessR 90 (.slice x.Sess.A x.Sess.n x.Sess.c) x.Sess.xs L3
theorem ownStateR.fold {w0 w : World} {T : List Nat} {L1 L2 L3 R : Hp} (x : StateR) (hs : St w0 T (L1 ++ (L2 ++ (L3 ++ R))) w) (o1 : OwnN encPaneR ownPaneR 51 (.slice x.Panes.A x.Panes.n x.Panes.c) x.Panes.xs L1) (o2 : OwnN encWinR ownWinR 95 (.slice x.Wins.A x.Wins.n x.Wins.c) x.Wins.xs L2) (o3 : OwnN encSessR ownSessR 90 (.slice x.Sess.A x.Sess.n x.Sess.c) x.Sess.xs L3) : ∃ L, St w0 T (L ++ R) w ∧ ownStateR x L := ⟨L1 ++ (L2 ++ L3), by simpa only [List.append_assoc] using hs, L1, L2, L3, rfl, o1, o2, o3⟩
theorem ownStateR.open_ {w0 w : World} {T : List Nat} {L R : Hp} {x : StateR} (hs : St w0 T (L ++ R) w) (h : ownStateR x L) : ∃ L1 L2 L3, St w0 T (L1 ++ (L2 ++ (L3 ++ R))) w ∧ OwnN encPaneR ownPaneR 51 (.slice x.Panes.A x.Panes.n x.Panes.c) x.Panes.xs L1 ∧ OwnN encWinR ownWinR 95 (.slice x.Wins.A x.Wins.n x.Wins.c) x.Wins.xs L2 ∧ OwnN encSessR ownSessR 90 (.slice x.Sess.A x.Sess.n x.Sess.c) x.Sess.xs L3 := by
  obtain ⟨L1, L2, L3, rfl, h⟩ := h
  exact ⟨L1, L2, L3, by simpa only [List.append_assoc] using hs, h⟩
theorem ownStateR.len {x : StateR} {L : Hp} (h : ownStateR x L) : x.Panes.xs.length = x.Panes.n ∧ x.Wins.xs.length = x.Wins.n ∧ x.Sess.xs.length = x.Sess.n := by
  obtain ⟨L1, L2, L3, rfl, o1, o2, o3⟩ := h
  exact ⟨(OwnN.len_ o1), (OwnN.len_ o2), (OwnN.len_ o3)⟩
theorem ownStateR.ok {B : Nat} {w : World} {x : StateR} {L : Hp} (h : ownStateR x L) (hh : ∀ p, p ∈ L → w.heap[p.1]? = some p.2) (h2 : smState B x.dat) : okStateR B w x := by
  obtain ⟨L1, L2, L3, rfl, o1, o2, o3⟩ := h
  simp only [List.mem_append] at hh
  exact ⟨OwnN.ok o1 (fun p hp => hh p (.inl hp)) (fun y Li hy h3 hl => h3.ok hl (h2.2.1 _ (List.mem_map_of_mem hy))), OwnN.cap o1, (by have := OwnN.len_ o1; have h3 := h2.1; simp only [StateR.dat, smState, List.length_map] at h3; omega), OwnN.ok o2 (fun p hp => hh p (.inr (.inl hp))) (fun y Li hy h3 hl => h3.ok hl (h2.2.2.2.1 _ (List.mem_map_of_mem hy))), OwnN.cap o2, (by have := OwnN.len_ o2; have h3 := h2.2.2.1; simp only [StateR.dat, smState, List.length_map] at h3; omega), OwnN.ok o3 (fun p hp => hh p (.inr (.inr (hp)))) (fun y Li hy h3 hl => h3.ok hl (h2.2.2.2.2.2 _ (List.mem_map_of_mem hy))), OwnN.cap o3, (by have := OwnN.len_ o3; have h3 := h2.2.2.2.2.1; simp only [StateR.dat, smState, List.length_map] at h3; omega)⟩
end Go.Proofs.Ytmkgffhdbagmjaa
