/- Structs that hold slices, as they lie in cells, with what they read. -/
import Derived.Test.YtlmcekfdlgkffaaEC
import Derived.Test.YtlmcekfdlgkffaaD1
namespace Go.Proofs.Ytlmcekfdlgkffaa
open Go Go.RowKit
set_option linter.unusedVariables false
set_option linter.unusedSimpArgs false
structure GridR where
  W : Int
  H : Int
  Cells : SlD CellD
def encGridR : Enc GridR := ⟨3, fun d => [i64 d.W, i64 d.H, .slice d.Cells.A d.Cells.n d.Cells.c], ⟨0, 0, ⟨none, 0, 0, []⟩⟩, fun _ => rfl, fun x v h => by simp at h; rcases h with rfl | rfl | rfl <;> rfl, by decide⟩
structure okGridR (B : Nat) (w : World) (x : GridR) : Prop where
  Cells : SlF encCell w x.Cells.A x.Cells.n x.Cells.xs
  Cells_c : x.Cells.n ≤ x.Cells.c
  Cells_n : x.Cells.n ≤ B
structure sepGridR (T : List Nat) (x : GridR) : Prop where
  Cells : 0 < x.Cells.n → (adr x.Cells.A).block ∉ T
theorem okGridR.st0 {B : Nat} {w0 w : World} {L : Hp} {x : GridR} (h : okGridR B w0 x) (hs : St w0 [] L w) : okGridR B w x := ⟨SlF.st0 h.Cells hs, h.Cells_c, h.Cells_n⟩
theorem okGridR.st {B : Nat} {w0 w : World} {T : List Nat} {L : Hp} {x : GridR} (h : okGridR B w0 x) (hs : St w0 T L w) (hp : sepGridR T x) : okGridR B w x := ⟨SlF.st h.Cells hs hp.Cells, h.Cells_c, h.Cells_n⟩
theorem okGridR.le {B B' : Nat} {w : World} {x : GridR} (h : okGridR B w x) (hB : B ≤ B') : okGridR B' w x := ⟨h.Cells, h.Cells_c, Nat.le_trans h.Cells_n hB⟩
def GridR.dat (x : GridR) : GridD := ⟨x.W, x.H, x.Cells.xs⟩
def smGrid (B : Nat) (d : GridD) : Prop := (d.Cells.length ≤ B)
theorem okGridR.sm {B : Nat} {w : World} {x : GridR} (h : okGridR B w x) : smGrid B x.dat := (by have := h.Cells.len; have := h.Cells_n; simp only [smGrid, GridR.dat]; omega)
theorem okGridR.to {B B' : Nat} {w : World} {x : GridR} (h : okGridR B w x) (h2 : smGrid B' x.dat) : okGridR B' w x := ⟨h.Cells, h.Cells_c, (by have := h.Cells.len; have h3 := h2; simp only [smGrid, GridR.dat] at h3; omega)⟩
def totGrid (d : GridD) : Nat := d.Cells.length
theorem totGrid_sm {B : Nat} {d : GridD} (h : totGrid d ≤ B) : smGrid B d := by
  simp only [totGrid] at h
  unfold smGrid
  exact (by omega)
def ownGridR (x : GridR) (L : Hp) : Prop := OwnF encCell 100 (.slice x.Cells.A x.Cells.n x.Cells.c) x.Cells.xs L
theorem ownGridR.len {x : GridR} {L : Hp} (h : ownGridR x L) : x.Cells.xs.length = x.Cells.n := by
  exact (OwnF.len_ h)
theorem ownGridR.ok {B : Nat} {w : World} {x : GridR} {L : Hp} (h : ownGridR x L) (hh : ∀ p, p ∈ L → w.heap[p.1]? = some p.2) (h2 : smGrid B x.dat) : okGridR B w x := by
  exact ⟨SlF.ofOwn h (fun p hp => hh p hp), OwnF.cap h, (by have := OwnF.len_ h; have h3 := h2; simp only [GridR.dat, smGrid] at h3; omega)⟩
def markGrid (k : Int) (x : GridR) : GridR := ⟨x.W, x.H, { x.Cells with xs := marks mkCell 6 k x.Cells.xs.length }⟩
def endGrid (k : Int) (x : GridR) : Int := (k + 6 * (x.Cells.xs.length : Int))
theorem endGrid_le (k : Int) (x : GridR) : endGrid k x ≤ k + 64 * (totGrid x.dat : Int) := by
  simp only [endGrid, GridR.dat, totGrid]
  omega
theorem endGrid_ge (k : Int) (x : GridR) : k ≤ endGrid k x := by
  simp only [endGrid]
  omega
theorem markGrid_sm {B : Nat} {k : Int} {x : GridR} (h : smGrid B x.dat) : smGrid B (markGrid k x).dat := (by have h3 := h; simpa [smGrid, markGrid, GridR.dat, marks_len] using h3)
structure VpR where
  State : Int
  Mark : Bool
  Args : SlD Int
  Part : SlD UInt8
def encVpR : Enc VpR := ⟨4, fun d => [i64 d.State, .bool d.Mark, .slice d.Args.A d.Args.n d.Args.c, .slice d.Part.A d.Part.n d.Part.c], ⟨0, false, ⟨none, 0, 0, []⟩, ⟨none, 0, 0, []⟩⟩, fun _ => rfl, fun x v h => by simp at h; rcases h with rfl | rfl | rfl | rfl <;> rfl, by decide⟩
structure okVpR (B : Nat) (w : World) (x : VpR) : Prop where
  Args : SlF encI w x.Args.A x.Args.n x.Args.xs
  Args_c : x.Args.n ≤ x.Args.c
  Args_n : x.Args.n ≤ B
  Part : SlF encB w x.Part.A x.Part.n x.Part.xs
  Part_c : x.Part.n ≤ x.Part.c
  Part_n : x.Part.n ≤ B
structure sepVpR (T : List Nat) (x : VpR) : Prop where
  Args : 0 < x.Args.n → (adr x.Args.A).block ∉ T
  Part : 0 < x.Part.n → (adr x.Part.A).block ∉ T
theorem okVpR.st0 {B : Nat} {w0 w : World} {L : Hp} {x : VpR} (h : okVpR B w0 x) (hs : St w0 [] L w) : okVpR B w x := ⟨SlF.st0 h.Args hs, h.Args_c, h.Args_n, SlF.st0 h.Part hs, h.Part_c, h.Part_n⟩
theorem okVpR.st {B : Nat} {w0 w : World} {T : List Nat} {L : Hp} {x : VpR} (h : okVpR B w0 x) (hs : St w0 T L w) (hp : sepVpR T x) : okVpR B w x := ⟨SlF.st h.Args hs hp.Args, h.Args_c, h.Args_n, SlF.st h.Part hs hp.Part, h.Part_c, h.Part_n⟩
theorem okVpR.le {B B' : Nat} {w : World} {x : VpR} (h : okVpR B w x) (hB : B ≤ B') : okVpR B' w x := ⟨h.Args, h.Args_c, Nat.le_trans h.Args_n hB, h.Part, h.Part_c, Nat.le_trans h.Part_n hB⟩
def VpR.dat (x : VpR) : VpD := ⟨x.State, x.Mark, x.Args.xs, x.Part.xs⟩
def smVp (B : Nat) (d : VpD) : Prop := (d.Args.length ≤ B) ∧ (d.Part.length ≤ B)
theorem okVpR.sm {B : Nat} {w : World} {x : VpR} (h : okVpR B w x) : smVp B x.dat := ⟨(by have := h.Args.len; have := h.Args_n; simp only [smVp, VpR.dat]; omega), (by have := h.Part.len; have := h.Part_n; simp only [smVp, VpR.dat]; omega)⟩
theorem okVpR.to {B B' : Nat} {w : World} {x : VpR} (h : okVpR B w x) (h2 : smVp B' x.dat) : okVpR B' w x := ⟨h.Args, h.Args_c, (by have := h.Args.len; have h3 := h2.1; simp only [smVp, VpR.dat] at h3; omega), h.Part, h.Part_c, (by have := h.Part.len; have h3 := h2.2; simp only [smVp, VpR.dat] at h3; omega)⟩
def totVp (d : VpD) : Nat := d.Args.length + d.Part.length
theorem totVp_sm {B : Nat} {d : VpD} (h : totVp d ≤ B) : smVp B d := by
  simp only [totVp] at h
  unfold smVp
  exact ⟨(by omega), (by omega)⟩
def ownVpR (x : VpR) (L : Hp) : Prop := ∃ L1 L2, L = L1 ++ L2 ∧ OwnF encI 3 (.slice x.Args.A x.Args.n x.Args.c) x.Args.xs L1 ∧ OwnF encB 5 (.slice x.Part.A x.Part.n x.Part.c) x.Part.xs L2
theorem ownVpR.fold {w0 w : World} {T : List Nat} {L1 L2 R : Hp} (x : VpR) (hs : St w0 T (L1 ++ (L2 ++ R)) w) (o1 : OwnF encI 3 (.slice x.Args.A x.Args.n x.Args.c) x.Args.xs L1) (o2 : OwnF encB 5 (.slice x.Part.A x.Part.n x.Part.c) x.Part.xs L2) : ∃ L, St w0 T (L ++ R) w ∧ ownVpR x L := ⟨L1 ++ L2, by simpa only [List.append_assoc] using hs, L1, L2, rfl, o1, o2⟩
theorem ownVpR.open_ {w0 w : World} {T : List Nat} {L R : Hp} {x : VpR} (hs : St w0 T (L ++ R) w) (h : ownVpR x L) : ∃ L1 L2, St w0 T (L1 ++ (L2 ++ R)) w ∧ OwnF encI 3 (.slice x.Args.A x.Args.n x.Args.c) x.Args.xs L1 ∧ OwnF encB 5 (.slice x.Part.A x.Part.n x.Part.c) x.Part.xs L2 := by
  obtain ⟨L1, L2, rfl, h⟩ := h
  exact ⟨L1, L2, by simpa only [List.append_assoc] using hs, h⟩
theorem ownVpR.len {x : VpR} {L : Hp} (h : ownVpR x L) : x.Args.xs.length = x.Args.n ∧ x.Part.xs.length = x.Part.n := by
  obtain ⟨L1, L2, rfl, o1, o2⟩ := h
  exact ⟨(OwnF.len_ o1), (OwnF.len_ o2)⟩
theorem ownVpR.ok {B : Nat} {w : World} {x : VpR} {L : Hp} (h : ownVpR x L) (hh : ∀ p, p ∈ L → w.heap[p.1]? = some p.2) (h2 : smVp B x.dat) : okVpR B w x := by
  obtain ⟨L1, L2, rfl, o1, o2⟩ := h
  simp only [List.mem_append] at hh
  exact ⟨SlF.ofOwn o1 (fun p hp => hh p (.inl hp)), OwnF.cap o1, (by have := OwnF.len_ o1; have h3 := h2.1; simp only [VpR.dat, smVp] at h3; omega), SlF.ofOwn o2 (fun p hp => hh p (.inr (hp))), OwnF.cap o2, (by have := OwnF.len_ o2; have h3 := h2.2; simp only [VpR.dat, smVp] at h3; omega)⟩
def markVp (k : Int) (x : VpR) : VpR := ⟨x.State, x.Mark, { x.Args with xs := marks (fun k => k) 1 k x.Args.xs.length }, { x.Part with xs := marks ub 1 (k + 1 * (x.Args.xs.length : Int)) x.Part.xs.length }⟩
def endVp (k : Int) (x : VpR) : Int := ((k + 1 * (x.Args.xs.length : Int)) + 1 * (x.Part.xs.length : Int))
theorem endVp_le (k : Int) (x : VpR) : endVp k x ≤ k + 64 * (totVp x.dat : Int) := by
  simp only [endVp, VpR.dat, totVp]
  omega
theorem endVp_ge (k : Int) (x : VpR) : k ≤ endVp k x := by
  simp only [endVp]
  omega
theorem markVp_sm {B : Nat} {k : Int} {x : VpR} (h : smVp B x.dat) : smVp B (markVp k x).dat := ⟨(by have h3 := h.1; simpa [smVp, markVp, VpR.dat, marks_len] using h3), (by have h3 := h.2; simpa [smVp, markVp, VpR.dat, marks_len] using h3)⟩
structure ActR where
  Kind : Int
  R : Int
  Mark : Bool
  Args : SlD Int
def encActR : Enc ActR := ⟨4, fun d => [i64 d.Kind, i64 d.R, .bool d.Mark, .slice d.Args.A d.Args.n d.Args.c], ⟨0, 0, false, ⟨none, 0, 0, []⟩⟩, fun _ => rfl, fun x v h => by simp at h; rcases h with rfl | rfl | rfl | rfl <;> rfl, by decide⟩
structure okActR (B : Nat) (w : World) (x : ActR) : Prop where
  Args : SlF encI w x.Args.A x.Args.n x.Args.xs
  Args_c : x.Args.n ≤ x.Args.c
  Args_n : x.Args.n ≤ B
structure sepActR (T : List Nat) (x : ActR) : Prop where
  Args : 0 < x.Args.n → (adr x.Args.A).block ∉ T
theorem okActR.st0 {B : Nat} {w0 w : World} {L : Hp} {x : ActR} (h : okActR B w0 x) (hs : St w0 [] L w) : okActR B w x := ⟨SlF.st0 h.Args hs, h.Args_c, h.Args_n⟩
theorem okActR.st {B : Nat} {w0 w : World} {T : List Nat} {L : Hp} {x : ActR} (h : okActR B w0 x) (hs : St w0 T L w) (hp : sepActR T x) : okActR B w x := ⟨SlF.st h.Args hs hp.Args, h.Args_c, h.Args_n⟩
theorem okActR.le {B B' : Nat} {w : World} {x : ActR} (h : okActR B w x) (hB : B ≤ B') : okActR B' w x := ⟨h.Args, h.Args_c, Nat.le_trans h.Args_n hB⟩
def ActR.dat (x : ActR) : ActD := ⟨x.Kind, x.R, x.Mark, x.Args.xs⟩
def smAct (B : Nat) (d : ActD) : Prop := (d.Args.length ≤ B)
theorem okActR.sm {B : Nat} {w : World} {x : ActR} (h : okActR B w x) : smAct B x.dat := (by have := h.Args.len; have := h.Args_n; simp only [smAct, ActR.dat]; omega)
theorem okActR.to {B B' : Nat} {w : World} {x : ActR} (h : okActR B w x) (h2 : smAct B' x.dat) : okActR B' w x := ⟨h.Args, h.Args_c, (by have := h.Args.len; have h3 := h2; simp only [smAct, ActR.dat] at h3; omega)⟩
def totAct (d : ActD) : Nat := d.Args.length
theorem totAct_sm {B : Nat} {d : ActD} (h : totAct d ≤ B) : smAct B d := by
  simp only [totAct] at h
  unfold smAct
  exact (by omega)
def ownActR (x : ActR) (L : Hp) : Prop := OwnF encI 3 (.slice x.Args.A x.Args.n x.Args.c) x.Args.xs L
theorem ownActR.len {x : ActR} {L : Hp} (h : ownActR x L) : x.Args.xs.length = x.Args.n := by
  exact (OwnF.len_ h)
theorem ownActR.ok {B : Nat} {w : World} {x : ActR} {L : Hp} (h : ownActR x L) (hh : ∀ p, p ∈ L → w.heap[p.1]? = some p.2) (h2 : smAct B x.dat) : okActR B w x := by
  exact ⟨SlF.ofOwn h (fun p hp => hh p hp), OwnF.cap h, (by have := OwnF.len_ h; have h3 := h2; simp only [ActR.dat, smAct] at h3; omega)⟩
def markAct (k : Int) (x : ActR) : ActR := ⟨x.Kind, x.R, x.Mark, { x.Args with xs := marks (fun k => k) 1 k x.Args.xs.length }⟩
def endAct (k : Int) (x : ActR) : Int := (k + 1 * (x.Args.xs.length : Int))
theorem endAct_le (k : Int) (x : ActR) : endAct k x ≤ k + 64 * (totAct x.dat : Int) := by
  simp only [endAct, ActR.dat, totAct]
  omega
theorem endAct_ge (k : Int) (x : ActR) : k ≤ endAct k x := by
  simp only [endAct]
  omega
theorem markAct_sm {B : Nat} {k : Int} {x : ActR} (h : smAct B x.dat) : smAct B (markAct k x).dat := (by have h3 := h; simpa [smAct, markAct, ActR.dat, marks_len] using h3)
def mkEAct (k : Int) (x : ActR) : ActR := ⟨k, (k + 1), decide (((k + 1) + 1) % 3 = 0), { x.Args with xs := marks (fun k => k) 1 (((k + 1) + 1) + 1) x.Args.xs.length }⟩
def cntEAct (x : ActR) : Int := 3 + 1 * (x.Args.xs.length : Int)
theorem cntEAct_le (x : ActR) : cntEAct x ≤ 64 + 64 * (totAct x.dat : Int) := by
  simp only [cntEAct, totAct, ActR.dat]
  omega
theorem cntEAct_ge (x : ActR) : 0 ≤ cntEAct x := by
  simp only [cntEAct]
  omega
theorem mkEAct_sm {B : Nat} {k : Int} {x : ActR} (h : smAct B x.dat) : smAct B (mkEAct k x).dat := (by have h3 := h; simpa [smAct, mkEAct, ActR.dat, marks_len] using h3)
structure RowR where
  Cells : SlD CellD
def encRowR : Enc RowR := ⟨1, fun d => [.slice d.Cells.A d.Cells.n d.Cells.c], ⟨⟨none, 0, 0, []⟩⟩, fun _ => rfl, fun x v h => by simp at h; rcases h with rfl <;> rfl, by decide⟩
structure okRowR (B : Nat) (w : World) (x : RowR) : Prop where
  Cells : SlF encCell w x.Cells.A x.Cells.n x.Cells.xs
  Cells_c : x.Cells.n ≤ x.Cells.c
  Cells_n : x.Cells.n ≤ B
structure sepRowR (T : List Nat) (x : RowR) : Prop where
  Cells : 0 < x.Cells.n → (adr x.Cells.A).block ∉ T
theorem okRowR.st0 {B : Nat} {w0 w : World} {L : Hp} {x : RowR} (h : okRowR B w0 x) (hs : St w0 [] L w) : okRowR B w x := ⟨SlF.st0 h.Cells hs, h.Cells_c, h.Cells_n⟩
theorem okRowR.st {B : Nat} {w0 w : World} {T : List Nat} {L : Hp} {x : RowR} (h : okRowR B w0 x) (hs : St w0 T L w) (hp : sepRowR T x) : okRowR B w x := ⟨SlF.st h.Cells hs hp.Cells, h.Cells_c, h.Cells_n⟩
theorem okRowR.le {B B' : Nat} {w : World} {x : RowR} (h : okRowR B w x) (hB : B ≤ B') : okRowR B' w x := ⟨h.Cells, h.Cells_c, Nat.le_trans h.Cells_n hB⟩
def RowR.dat (x : RowR) : RowD := ⟨x.Cells.xs⟩
def smRow (B : Nat) (d : RowD) : Prop := (d.Cells.length ≤ B)
theorem okRowR.sm {B : Nat} {w : World} {x : RowR} (h : okRowR B w x) : smRow B x.dat := (by have := h.Cells.len; have := h.Cells_n; simp only [smRow, RowR.dat]; omega)
theorem okRowR.to {B B' : Nat} {w : World} {x : RowR} (h : okRowR B w x) (h2 : smRow B' x.dat) : okRowR B' w x := ⟨h.Cells, h.Cells_c, (by have := h.Cells.len; have h3 := h2; simp only [smRow, RowR.dat] at h3; omega)⟩
def totRow (d : RowD) : Nat := d.Cells.length
theorem totRow_sm {B : Nat} {d : RowD} (h : totRow d ≤ B) : smRow B d := by
  simp only [totRow] at h
  unfold smRow
  exact (by omega)
def ownRowR (x : RowR) (L : Hp) : Prop := OwnF encCell 100 (.slice x.Cells.A x.Cells.n x.Cells.c) x.Cells.xs L
theorem ownRowR.len {x : RowR} {L : Hp} (h : ownRowR x L) : x.Cells.xs.length = x.Cells.n := by
  exact (OwnF.len_ h)
theorem ownRowR.ok {B : Nat} {w : World} {x : RowR} {L : Hp} (h : ownRowR x L) (hh : ∀ p, p ∈ L → w.heap[p.1]? = some p.2) (h2 : smRow B x.dat) : okRowR B w x := by
  exact ⟨SlF.ofOwn h (fun p hp => hh p hp), OwnF.cap h, (by have := OwnF.len_ h; have h3 := h2; simp only [RowR.dat, smRow] at h3; omega)⟩
def mkERow (k : Int) (x : RowR) : RowR := ⟨{ x.Cells with xs := marks mkCell 6 k x.Cells.xs.length }⟩
def cntERow (x : RowR) : Int := 0 + 6 * (x.Cells.xs.length : Int)
theorem cntERow_le (x : RowR) : cntERow x ≤ 64 + 64 * (totRow x.dat : Int) := by
  simp only [cntERow, totRow, RowR.dat]
  omega
theorem cntERow_ge (x : RowR) : 0 ≤ cntERow x := by
  simp only [cntERow]
  omega
theorem mkERow_sm {B : Nat} {k : Int} {x : RowR} (h : smRow B x.dat) : smRow B (mkERow k x).dat := (by have h3 := h; simpa [smRow, mkERow, RowR.dat, marks_len] using h3)
structure ScrR where
  W : Int
  H : Int
  Main : GridR
  Alt : GridR
  OnAlt : Bool
  X : Int
  Y : Int
  Wrap : Bool
  A : AttrD
  Top : Int
  Bot : Int
  NoWrap : Bool
  Hide : Bool
  SaveX : Int
  SaveY : Int
  SaveA : AttrD
  Tabs : SlD Int
  Limit : Int
  Back : SlD RowR
def encScrR : Enc ScrR := ⟨31, fun d => [i64 d.W, i64 d.H, i64 d.Main.W, i64 d.Main.H, .slice d.Main.Cells.A d.Main.Cells.n d.Main.Cells.c, i64 d.Alt.W, i64 d.Alt.H, .slice d.Alt.Cells.A d.Alt.Cells.n d.Alt.Cells.c, .bool d.OnAlt, i64 d.X, i64 d.Y, .bool d.Wrap, i64 d.A.Fg, i64 d.A.Bg, .bool d.A.Bold, .bool d.A.Under, .bool d.A.Turn, i64 d.Top, i64 d.Bot, .bool d.NoWrap, .bool d.Hide, i64 d.SaveX, i64 d.SaveY, i64 d.SaveA.Fg, i64 d.SaveA.Bg, .bool d.SaveA.Bold, .bool d.SaveA.Under, .bool d.SaveA.Turn, .slice d.Tabs.A d.Tabs.n d.Tabs.c, i64 d.Limit, .slice d.Back.A d.Back.n d.Back.c], ⟨0, 0, ⟨0, 0, ⟨none, 0, 0, []⟩⟩, ⟨0, 0, ⟨none, 0, 0, []⟩⟩, false, 0, 0, false, ⟨0, 0, false, false, false⟩, 0, 0, false, false, 0, 0, ⟨0, 0, false, false, false⟩, ⟨none, 0, 0, []⟩, 0, ⟨none, 0, 0, []⟩⟩, fun _ => rfl, fun x v h => by simp at h; rcases h with rfl | rfl | rfl | rfl | rfl | rfl | rfl | rfl | rfl | rfl | rfl | rfl | rfl | rfl | rfl | rfl | rfl | rfl | rfl | rfl | rfl | rfl | rfl | rfl | rfl | rfl | rfl | rfl | rfl | rfl | rfl <;> rfl, by decide⟩
structure okScrR (B : Nat) (w : World) (x : ScrR) : Prop where
  Main : okGridR B w x.Main
  Alt : okGridR B w x.Alt
  Tabs : SlF encI w x.Tabs.A x.Tabs.n x.Tabs.xs
  Tabs_c : x.Tabs.n ≤ x.Tabs.c
  Tabs_n : x.Tabs.n ≤ B
  Back : SlN encRowR (okRowR B) w x.Back.A x.Back.n x.Back.xs
  Back_c : x.Back.n ≤ x.Back.c
  Back_n : x.Back.n ≤ B
structure sepScrR (T : List Nat) (x : ScrR) : Prop where
  Main : sepGridR T x.Main
  Alt : sepGridR T x.Alt
  Tabs : 0 < x.Tabs.n → (adr x.Tabs.A).block ∉ T
  Back : 0 < x.Back.n → (adr x.Back.A).block ∉ T
  Back_a : ∀ y, y ∈ x.Back.xs → sepRowR T y
theorem okScrR.st0 {B : Nat} {w0 w : World} {L : Hp} {x : ScrR} (h : okScrR B w0 x) (hs : St w0 [] L w) : okScrR B w x := ⟨okGridR.st0 h.Main hs, okGridR.st0 h.Alt hs, SlF.st0 h.Tabs hs, h.Tabs_c, h.Tabs_n, ⟨SlF.st0 h.Back.sl hs, fun y hy => okRowR.st0 (h.Back.all y hy) hs⟩, h.Back_c, h.Back_n⟩
theorem okScrR.st {B : Nat} {w0 w : World} {T : List Nat} {L : Hp} {x : ScrR} (h : okScrR B w0 x) (hs : St w0 T L w) (hp : sepScrR T x) : okScrR B w x := ⟨okGridR.st h.Main hs hp.Main, okGridR.st h.Alt hs hp.Alt, SlF.st h.Tabs hs hp.Tabs, h.Tabs_c, h.Tabs_n, ⟨SlF.st h.Back.sl hs hp.Back, fun y hy => okRowR.st (h.Back.all y hy) hs (hp.Back_a y hy)⟩, h.Back_c, h.Back_n⟩
theorem okScrR.le {B B' : Nat} {w : World} {x : ScrR} (h : okScrR B w x) (hB : B ≤ B') : okScrR B' w x := ⟨okGridR.le h.Main hB, okGridR.le h.Alt hB, h.Tabs, h.Tabs_c, Nat.le_trans h.Tabs_n hB, ⟨h.Back.sl, fun y hy => okRowR.le (h.Back.all y hy) hB⟩, h.Back_c, Nat.le_trans h.Back_n hB⟩
def ScrR.dat (x : ScrR) : ScrD := ⟨x.W, x.H, x.Main.dat, x.Alt.dat, x.OnAlt, x.X, x.Y, x.Wrap, x.A, x.Top, x.Bot, x.NoWrap, x.Hide, x.SaveX, x.SaveY, x.SaveA, x.Tabs.xs, x.Limit, x.Back.xs.map RowR.dat⟩
def smScr (B : Nat) (d : ScrD) : Prop := (smGrid B d.Main) ∧ (smGrid B d.Alt) ∧ (d.Tabs.length ≤ B) ∧ (d.Back.length ≤ B) ∧ (∀ y, y ∈ d.Back → smRow B y)
theorem okScrR.sm {B : Nat} {w : World} {x : ScrR} (h : okScrR B w x) : smScr B x.dat := ⟨h.Main.sm, h.Alt.sm, (by have := h.Tabs.len; have := h.Tabs_n; simp only [smScr, ScrR.dat]; omega), (by have := h.Back.sl.len; have := h.Back_n; simp only [smScr, ScrR.dat, List.length_map]; omega), (fun y hy => by obtain ⟨z, hz, rfl⟩ := List.mem_map.1 hy; exact (h.Back.all z hz).sm)⟩
theorem okScrR.to {B B' : Nat} {w : World} {x : ScrR} (h : okScrR B w x) (h2 : smScr B' x.dat) : okScrR B' w x := ⟨h.Main.to h2.1, h.Alt.to h2.2.1, h.Tabs, h.Tabs_c, (by have := h.Tabs.len; have h3 := h2.2.2.1; simp only [smScr, ScrR.dat] at h3; omega), ⟨h.Back.sl, fun y hy => (h.Back.all y hy).to (h2.2.2.2.2 _ (List.mem_map_of_mem hy))⟩, h.Back_c, (by have := h.Back.sl.len; have h3 := h2.2.2.2.1; simp only [smScr, ScrR.dat, List.length_map] at h3; omega)⟩
def totScr (d : ScrD) : Nat := d.Main.Cells.length + d.Alt.Cells.length + d.Tabs.length + tots totRow d.Back
theorem totScr_sm {B : Nat} {d : ScrD} (h : totScr d ≤ B) : smScr B d := by
  simp only [totScr] at h
  unfold smScr
  exact ⟨(totGrid_sm (by simp only [totGrid]; omega)), (totGrid_sm (by simp only [totGrid]; omega)), (by omega), (by have := tots_len totRow d.Back; omega), (fun y hy => totRow_sm (by have := tots_mem (f := totRow) hy; omega))⟩
def ownScrR (x : ScrR) (L : Hp) : Prop := ∃ L1 L2 L3 L4, L = L1 ++ (L2 ++ (L3 ++ L4)) ∧ OwnF encCell 100 (.slice x.Main.Cells.A x.Main.Cells.n x.Main.Cells.c) x.Main.Cells.xs L1 ∧ OwnF encCell 100 (.slice x.Alt.Cells.A x.Alt.Cells.n x.Alt.Cells.c) x.Alt.Cells.xs L2 ∧ OwnF encI 3 (.slice x.Tabs.A x.Tabs.n x.Tabs.c) x.Tabs.xs L3 ∧ OwnN encRowR ownRowR 98 (.slice x.Back.A x.Back.n x.Back.c) x.Back.xs L4
theorem ownScrR.fold {w0 w : World} {T : List Nat} {L1 L2 L3 L4 R : Hp} (x : ScrR) (hs : St w0 T (L1 ++ (L2 ++ (L3 ++ (L4 ++ R)))) w) (o1 : OwnF encCell 100 (.slice x.Main.Cells.A x.Main.Cells.n x.Main.Cells.c) x.Main.Cells.xs L1) (o2 : OwnF encCell 100 (.slice x.Alt.Cells.A x.Alt.Cells.n x.Alt.Cells.c) x.Alt.Cells.xs L2) (o3 : OwnF encI 3 (.slice x.Tabs.A x.Tabs.n x.Tabs.c) x.Tabs.xs L3) (o4 : OwnN encRowR ownRowR 98 (.slice x.Back.A x.Back.n x.Back.c) x.Back.xs L4) : ∃ L, St w0 T (L ++ R) w ∧ ownScrR x L := ⟨L1 ++ (L2 ++ (L3 ++ L4)), by simpa only [List.append_assoc] using hs, L1, L2, L3, L4, rfl, o1, o2, o3, o4⟩
theorem ownScrR.open_ {w0 w : World} {T : List Nat} {L R : Hp} {x : ScrR} (hs : St w0 T (L ++ R) w) (h : ownScrR x L) : ∃ L1 L2 L3 L4, St w0 T (L1 ++ (L2 ++ (L3 ++ (L4 ++ R)))) w ∧ OwnF encCell 100 (.slice x.Main.Cells.A x.Main.Cells.n x.Main.Cells.c) x.Main.Cells.xs L1 ∧ OwnF encCell 100 (.slice x.Alt.Cells.A x.Alt.Cells.n x.Alt.Cells.c) x.Alt.Cells.xs L2 ∧ OwnF encI 3 (.slice x.Tabs.A x.Tabs.n x.Tabs.c) x.Tabs.xs L3 ∧ OwnN encRowR ownRowR 98 (.slice x.Back.A x.Back.n x.Back.c) x.Back.xs L4 := by
  obtain ⟨L1, L2, L3, L4, rfl, h⟩ := h
  exact ⟨L1, L2, L3, L4, by simpa only [List.append_assoc] using hs, h⟩
theorem ownScrR.len {x : ScrR} {L : Hp} (h : ownScrR x L) : x.Main.Cells.xs.length = x.Main.Cells.n ∧ x.Alt.Cells.xs.length = x.Alt.Cells.n ∧ x.Tabs.xs.length = x.Tabs.n ∧ x.Back.xs.length = x.Back.n := by
  obtain ⟨L1, L2, L3, L4, rfl, o1, o2, o3, o4⟩ := h
  exact ⟨(OwnF.len_ o1), (OwnF.len_ o2), (OwnF.len_ o3), (OwnN.len_ o4)⟩
theorem ownScrR.ok {B : Nat} {w : World} {x : ScrR} {L : Hp} (h : ownScrR x L) (hh : ∀ p, p ∈ L → w.heap[p.1]? = some p.2) (h2 : smScr B x.dat) : okScrR B w x := by
  obtain ⟨L1, L2, L3, L4, rfl, o1, o2, o3, o4⟩ := h
  simp only [List.mem_append] at hh
  exact ⟨⟨SlF.ofOwn o1 (fun p hp => hh p (.inl hp)), OwnF.cap o1, (by have := OwnF.len_ o1; have h3 := h2.1; simp only [GridR.dat, ScrR.dat, smGrid, smScr] at h3; omega)⟩, ⟨SlF.ofOwn o2 (fun p hp => hh p (.inr (.inl hp))), OwnF.cap o2, (by have := OwnF.len_ o2; have h3 := h2.2.1; simp only [GridR.dat, ScrR.dat, smGrid, smScr] at h3; omega)⟩, SlF.ofOwn o3 (fun p hp => hh p (.inr (.inr (.inl hp)))), OwnF.cap o3, (by have := OwnF.len_ o3; have h3 := h2.2.2.1; simp only [GridR.dat, ScrR.dat, smGrid, smScr] at h3; omega), OwnN.ok o4 (fun p hp => hh p (.inr (.inr (.inr (hp))))) (fun y Li hy h3 hl => h3.ok hl (h2.2.2.2.2 _ (List.mem_map_of_mem hy))), OwnN.cap o4, (by have := OwnN.len_ o4; have h3 := h2.2.2.2.1; simp only [GridR.dat, ScrR.dat, smGrid, smScr, List.length_map] at h3; omega)⟩
def markScr (k : Int) (x : ScrR) : ScrR := ⟨x.W, x.H, markGrid k x.Main, markGrid (endGrid k x.Main) x.Alt, x.OnAlt, x.X, x.Y, x.Wrap, x.A, x.Top, x.Bot, x.NoWrap, x.Hide, x.SaveX, x.SaveY, x.SaveA, { x.Tabs with xs := marks (fun k => k) 1 (endGrid (endGrid k x.Main) x.Alt) x.Tabs.xs.length }, x.Limit, { x.Back with xs := mrks mkERow cntERow ((endGrid (endGrid k x.Main) x.Alt) + 1 * (x.Tabs.xs.length : Int)) x.Back.xs }⟩
def endScr (k : Int) (x : ScrR) : Int := (((endGrid (endGrid k x.Main) x.Alt) + 1 * (x.Tabs.xs.length : Int)) + cnts cntERow x.Back.xs)
theorem endScr_le (k : Int) (x : ScrR) : endScr k x ≤ k + 64 * (totScr x.dat : Int) := by
  have h_Main := endGrid_le k x.Main
  have h_Alt := endGrid_le (endGrid k x.Main) x.Alt
  have h_Back := cnts_le (c := cntERow) (f := totRow) (g := RowR.dat) cntERow_le x.Back.xs
  simp only [GridR.dat, ScrR.dat, totGrid, totScr] at h_Main h_Alt
  simp only [endScr, GridR.dat, ScrR.dat, totGrid, totScr]
  omega
theorem endScr_ge (k : Int) (x : ScrR) : k ≤ endScr k x := by
  have h_Main := endGrid_ge k x.Main
  have h_Alt := endGrid_ge (endGrid k x.Main) x.Alt
  have h_Back := cnts_nonneg (c := cntERow) cntERow_ge x.Back.xs
  simp only [endScr]
  omega
theorem markScr_sm {B : Nat} {k : Int} {x : ScrR} (h : smScr B x.dat) : smScr B (markScr k x).dat := ⟨markGrid_sm h.1, markGrid_sm h.2.1, (by have h3 := h.2.2.1; simpa [smScr, markScr, ScrR.dat, marks_len] using h3), (by have h3 := h.2.2.2.1; simpa [smScr, markScr, ScrR.dat, mrks_len] using h3), (fun y hy => by obtain ⟨z, hz, rfl⟩ := List.mem_map.1 hy; exact mrks_all (P := fun x => smRow B x.dat) (fun _ _ h9 => mkERow_sm h9) (fun x hx => h.2.2.2.2 _ (List.mem_map_of_mem hx)) _ hz)⟩
structure TermR where
  P : VpR
  S : ScrR
def encTermR : Enc TermR := ⟨35, fun d => [i64 d.P.State, .bool d.P.Mark, .slice d.P.Args.A d.P.Args.n d.P.Args.c, .slice d.P.Part.A d.P.Part.n d.P.Part.c, i64 d.S.W, i64 d.S.H, i64 d.S.Main.W, i64 d.S.Main.H, .slice d.S.Main.Cells.A d.S.Main.Cells.n d.S.Main.Cells.c, i64 d.S.Alt.W, i64 d.S.Alt.H, .slice d.S.Alt.Cells.A d.S.Alt.Cells.n d.S.Alt.Cells.c, .bool d.S.OnAlt, i64 d.S.X, i64 d.S.Y, .bool d.S.Wrap, i64 d.S.A.Fg, i64 d.S.A.Bg, .bool d.S.A.Bold, .bool d.S.A.Under, .bool d.S.A.Turn, i64 d.S.Top, i64 d.S.Bot, .bool d.S.NoWrap, .bool d.S.Hide, i64 d.S.SaveX, i64 d.S.SaveY, i64 d.S.SaveA.Fg, i64 d.S.SaveA.Bg, .bool d.S.SaveA.Bold, .bool d.S.SaveA.Under, .bool d.S.SaveA.Turn, .slice d.S.Tabs.A d.S.Tabs.n d.S.Tabs.c, i64 d.S.Limit, .slice d.S.Back.A d.S.Back.n d.S.Back.c], ⟨⟨0, false, ⟨none, 0, 0, []⟩, ⟨none, 0, 0, []⟩⟩, ⟨0, 0, ⟨0, 0, ⟨none, 0, 0, []⟩⟩, ⟨0, 0, ⟨none, 0, 0, []⟩⟩, false, 0, 0, false, ⟨0, 0, false, false, false⟩, 0, 0, false, false, 0, 0, ⟨0, 0, false, false, false⟩, ⟨none, 0, 0, []⟩, 0, ⟨none, 0, 0, []⟩⟩⟩, fun _ => rfl, fun x v h => by simp at h; rcases h with rfl | rfl | rfl | rfl | rfl | rfl | rfl | rfl | rfl | rfl | rfl | rfl | rfl | rfl | rfl | rfl | rfl | rfl | rfl | rfl | rfl | rfl | rfl | rfl | rfl | rfl | rfl | rfl | rfl | rfl | rfl | rfl | rfl | rfl | rfl <;> rfl, by decide⟩
structure okTermR (B : Nat) (w : World) (x : TermR) : Prop where
  P : okVpR B w x.P
  S : okScrR B w x.S
structure sepTermR (T : List Nat) (x : TermR) : Prop where
  P : sepVpR T x.P
  S : sepScrR T x.S
theorem okTermR.st0 {B : Nat} {w0 w : World} {L : Hp} {x : TermR} (h : okTermR B w0 x) (hs : St w0 [] L w) : okTermR B w x := ⟨okVpR.st0 h.P hs, okScrR.st0 h.S hs⟩
theorem okTermR.st {B : Nat} {w0 w : World} {T : List Nat} {L : Hp} {x : TermR} (h : okTermR B w0 x) (hs : St w0 T L w) (hp : sepTermR T x) : okTermR B w x := ⟨okVpR.st h.P hs hp.P, okScrR.st h.S hs hp.S⟩
theorem okTermR.le {B B' : Nat} {w : World} {x : TermR} (h : okTermR B w x) (hB : B ≤ B') : okTermR B' w x := ⟨okVpR.le h.P hB, okScrR.le h.S hB⟩
def TermR.dat (x : TermR) : TermD := ⟨x.P.dat, x.S.dat⟩
def smTerm (B : Nat) (d : TermD) : Prop := (smVp B d.P) ∧ (smScr B d.S)
theorem okTermR.sm {B : Nat} {w : World} {x : TermR} (h : okTermR B w x) : smTerm B x.dat := ⟨h.P.sm, h.S.sm⟩
theorem okTermR.to {B B' : Nat} {w : World} {x : TermR} (h : okTermR B w x) (h2 : smTerm B' x.dat) : okTermR B' w x := ⟨h.P.to h2.1, h.S.to h2.2⟩
def totTerm (d : TermD) : Nat := d.P.Args.length + d.P.Part.length + d.S.Main.Cells.length + d.S.Alt.Cells.length + d.S.Tabs.length + tots totRow d.S.Back
theorem totTerm_sm {B : Nat} {d : TermD} (h : totTerm d ≤ B) : smTerm B d := by
  simp only [totTerm] at h
  unfold smTerm
  exact ⟨(totVp_sm (by simp only [totVp]; omega)), (totScr_sm (by simp only [totGrid, totScr]; omega))⟩
def ownTermR (x : TermR) (L : Hp) : Prop := ∃ L1 L2 L3 L4 L5 L6, L = L1 ++ (L2 ++ (L3 ++ (L4 ++ (L5 ++ L6)))) ∧ OwnF encI 3 (.slice x.P.Args.A x.P.Args.n x.P.Args.c) x.P.Args.xs L1 ∧ OwnF encB 5 (.slice x.P.Part.A x.P.Part.n x.P.Part.c) x.P.Part.xs L2 ∧ OwnF encCell 100 (.slice x.S.Main.Cells.A x.S.Main.Cells.n x.S.Main.Cells.c) x.S.Main.Cells.xs L3 ∧ OwnF encCell 100 (.slice x.S.Alt.Cells.A x.S.Alt.Cells.n x.S.Alt.Cells.c) x.S.Alt.Cells.xs L4 ∧ OwnF encI 3 (.slice x.S.Tabs.A x.S.Tabs.n x.S.Tabs.c) x.S.Tabs.xs L5 ∧ OwnN encRowR ownRowR 98 (.slice x.S.Back.A x.S.Back.n x.S.Back.c) x.S.Back.xs L6
theorem ownTermR.fold {w0 w : World} {T : List Nat} {L1 L2 L3 L4 L5 L6 R : Hp} (x : TermR) (hs : St w0 T (L1 ++ (L2 ++ (L3 ++ (L4 ++ (L5 ++ (L6 ++ R)))))) w) (o1 : OwnF encI 3 (.slice x.P.Args.A x.P.Args.n x.P.Args.c) x.P.Args.xs L1) (o2 : OwnF encB 5 (.slice x.P.Part.A x.P.Part.n x.P.Part.c) x.P.Part.xs L2) (o3 : OwnF encCell 100 (.slice x.S.Main.Cells.A x.S.Main.Cells.n x.S.Main.Cells.c) x.S.Main.Cells.xs L3) (o4 : OwnF encCell 100 (.slice x.S.Alt.Cells.A x.S.Alt.Cells.n x.S.Alt.Cells.c) x.S.Alt.Cells.xs L4) (o5 : OwnF encI 3 (.slice x.S.Tabs.A x.S.Tabs.n x.S.Tabs.c) x.S.Tabs.xs L5) (o6 : OwnN encRowR ownRowR 98 (.slice x.S.Back.A x.S.Back.n x.S.Back.c) x.S.Back.xs L6) : ∃ L, St w0 T (L ++ R) w ∧ ownTermR x L := ⟨L1 ++ (L2 ++ (L3 ++ (L4 ++ (L5 ++ L6)))), by simpa only [List.append_assoc] using hs, L1, L2, L3, L4, L5, L6, rfl, o1, o2, o3, o4, o5, o6⟩
theorem ownTermR.open_ {w0 w : World} {T : List Nat} {L R : Hp} {x : TermR} (hs : St w0 T (L ++ R) w) (h : ownTermR x L) : ∃ L1 L2 L3 L4 L5 L6, St w0 T (L1 ++ (L2 ++ (L3 ++ (L4 ++ (L5 ++ (L6 ++ R)))))) w ∧ OwnF encI 3 (.slice x.P.Args.A x.P.Args.n x.P.Args.c) x.P.Args.xs L1 ∧ OwnF encB 5 (.slice x.P.Part.A x.P.Part.n x.P.Part.c) x.P.Part.xs L2 ∧ OwnF encCell 100 (.slice x.S.Main.Cells.A x.S.Main.Cells.n x.S.Main.Cells.c) x.S.Main.Cells.xs L3 ∧ OwnF encCell 100 (.slice x.S.Alt.Cells.A x.S.Alt.Cells.n x.S.Alt.Cells.c) x.S.Alt.Cells.xs L4 ∧ OwnF encI 3 (.slice x.S.Tabs.A x.S.Tabs.n x.S.Tabs.c) x.S.Tabs.xs L5 ∧ OwnN encRowR ownRowR 98 (.slice x.S.Back.A x.S.Back.n x.S.Back.c) x.S.Back.xs L6 := by
  obtain ⟨L1, L2, L3, L4, L5, L6, rfl, h⟩ := h
  exact ⟨L1, L2, L3, L4, L5, L6, by simpa only [List.append_assoc] using hs, h⟩
theorem ownTermR.len {x : TermR} {L : Hp} (h : ownTermR x L) : x.P.Args.xs.length = x.P.Args.n ∧ x.P.Part.xs.length = x.P.Part.n ∧ x.S.Main.Cells.xs.length = x.S.Main.Cells.n ∧ x.S.Alt.Cells.xs.length = x.S.Alt.Cells.n ∧ x.S.Tabs.xs.length = x.S.Tabs.n ∧ x.S.Back.xs.length = x.S.Back.n := by
  obtain ⟨L1, L2, L3, L4, L5, L6, rfl, o1, o2, o3, o4, o5, o6⟩ := h
  exact ⟨(OwnF.len_ o1), (OwnF.len_ o2), (OwnF.len_ o3), (OwnF.len_ o4), (OwnF.len_ o5), (OwnN.len_ o6)⟩
theorem ownTermR.ok {B : Nat} {w : World} {x : TermR} {L : Hp} (h : ownTermR x L) (hh : ∀ p, p ∈ L → w.heap[p.1]? = some p.2) (h2 : smTerm B x.dat) : okTermR B w x := by
  obtain ⟨L1, L2, L3, L4, L5, L6, rfl, o1, o2, o3, o4, o5, o6⟩ := h
  simp only [List.mem_append] at hh
  exact ⟨⟨SlF.ofOwn o1 (fun p hp => hh p (.inl hp)), OwnF.cap o1, (by have := OwnF.len_ o1; have h3 := h2.1.1; simp only [GridR.dat, ScrR.dat, TermR.dat, VpR.dat, smGrid, smScr, smTerm, smVp] at h3; omega), SlF.ofOwn o2 (fun p hp => hh p (.inr (.inl hp))), OwnF.cap o2, (by have := OwnF.len_ o2; have h3 := h2.1.2; simp only [GridR.dat, ScrR.dat, TermR.dat, VpR.dat, smGrid, smScr, smTerm, smVp] at h3; omega)⟩, ⟨⟨SlF.ofOwn o3 (fun p hp => hh p (.inr (.inr (.inl hp)))), OwnF.cap o3, (by have := OwnF.len_ o3; have h3 := h2.2.1; simp only [GridR.dat, ScrR.dat, TermR.dat, VpR.dat, smGrid, smScr, smTerm, smVp] at h3; omega)⟩, ⟨SlF.ofOwn o4 (fun p hp => hh p (.inr (.inr (.inr (.inl hp))))), OwnF.cap o4, (by have := OwnF.len_ o4; have h3 := h2.2.2.1; simp only [GridR.dat, ScrR.dat, TermR.dat, VpR.dat, smGrid, smScr, smTerm, smVp] at h3; omega)⟩, SlF.ofOwn o5 (fun p hp => hh p (.inr (.inr (.inr (.inr (.inl hp)))))), OwnF.cap o5, (by have := OwnF.len_ o5; have h3 := h2.2.2.2.1; simp only [GridR.dat, ScrR.dat, TermR.dat, VpR.dat, smGrid, smScr, smTerm, smVp] at h3; omega), OwnN.ok o6 (fun p hp => hh p (.inr (.inr (.inr (.inr (.inr (hp))))))) (fun y Li hy h3 hl => h3.ok hl (h2.2.2.2.2.2 _ (List.mem_map_of_mem hy))), OwnN.cap o6, (by have := OwnN.len_ o6; have h3 := h2.2.2.2.2.1; simp only [GridR.dat, ScrR.dat, TermR.dat, VpR.dat, smGrid, smScr, smTerm, smVp, List.length_map] at h3; omega)⟩⟩
def markTerm (k : Int) (x : TermR) : TermR := ⟨markVp k x.P, markScr (endVp k x.P) x.S⟩
def endTerm (k : Int) (x : TermR) : Int := (endScr (endVp k x.P) x.S)
theorem endTerm_le (k : Int) (x : TermR) : endTerm k x ≤ k + 64 * (totTerm x.dat : Int) := by
  have h_P := endVp_le k x.P
  have h_S := endScr_le (endVp k x.P) x.S
  simp only [GridR.dat, ScrR.dat, TermR.dat, VpR.dat, totGrid, totScr, totTerm, totVp] at h_P h_S
  simp only [endTerm, GridR.dat, ScrR.dat, TermR.dat, VpR.dat, totGrid, totScr, totTerm, totVp]
  omega
theorem endTerm_ge (k : Int) (x : TermR) : k ≤ endTerm k x := by
  have h_P := endVp_ge k x.P
  have h_S := endScr_ge (endVp k x.P) x.S
  simp only [endTerm]
  omega
theorem markTerm_sm {B : Nat} {k : Int} {x : TermR} (h : smTerm B x.dat) : smTerm B (markTerm k x).dat := ⟨markVp_sm h.1, markScr_sm h.2⟩
end Go.Proofs.Ytlmcekfdlgkffaa
