/-
  What the proof stands on, part 4.
-/
import Derived.Test.YtjmegoiclgancaaGreatKC3
namespace Go.Proofs.YtjmegoiclgancaaGreat
open Go Go.RowKit
set_option linter.unusedVariables false
set_option linter.unusedSimpArgs false
def sgrOne (a : AttrD) (n : Int) : AttrD :=
  if n = 0 then ⟨0, 0, false, false, false⟩
  else if n = 1 ∨ n = 22 then { a with Bold := decide (n = 1) }
  else if n = 4 ∨ n = 24 then { a with Under := decide (n = 4) }
  else if n = 7 ∨ n = 27 then { a with Turn := decide (n = 7) }
  else if 30 ≤ n ∧ n ≤ 37 then { a with Fg := n - 29 }
  else if n = 39 then { a with Fg := 0 }
  else if 40 ≤ n ∧ n ≤ 47 then { a with Bg := n - 39 }
  else if n = 49 then { a with Bg := 0 } else a
def sgrAll (a : AttrD) (l : List Int) : AttrD := l.foldl sgrOne a
theorem sgrAll_take {a : AttrD} {l : List Int} {i : Nat} (h : i < l.length) : sgrAll a (l.take (i + 1)) = sgrOne (sgrAll a (l.take i)) (iat l i) := by
  unfold sgrAll
  rw [List.take_add_one, gat_get (F := encI) h, List.foldl_append]
  rfl
def sgrRes (a : AttrD) (l : List Int) : AttrD := if attrOk a.Fg a.Bg = true ∧ 0 < l.length then sgrAll a l else ⟨0, 0, false, false, false⟩
theorem attrOk_iff {a b : Int} : attrOk a b = true ↔ (0 ≤ a ∧ a ≤ 8) ∧ 0 ≤ b ∧ b ≤ 8 := by
  unfold attrOk; rw [Bool.and_eq_true, within_iff, within_iff]
theorem sgrOne_ok {a : AttrD} {n : Int} (h : attrOk a.Fg a.Bg = true) : attrOk (sgrOne a n).Fg (sgrOne a n).Bg = true := by
  rw [attrOk_iff] at h ⊢
  unfold sgrOne
  repeat' split
  all_goals (first | omega | (simp only; omega))
theorem sgrAll_ok {l : List Int} : ∀ {a : AttrD}, attrOk a.Fg a.Bg = true → attrOk (sgrAll a l).Fg (sgrAll a l).Bg = true := by
  induction l with
  | nil => exact fun h => h
  | cons x r ih => exact fun h => ih (sgrOne_ok h)
theorem sgrRes_ok {a : AttrD} {l : List Int} : attrOk (sgrRes a l).Fg (sgrRes a l).Bg = true := by
  unfold sgrRes
  split
  · rename_i h; exact sgrAll_ok h.1
  · decide
def argI (l : List Int) (k : Nat) (d : Int) : Int := if k < l.length ∧ iat l k ≠ 0 then iat l k else d
theorem argI_bnd {l : List Int} {k : Nat} {d : Int} (h : areArgs l = true) (hd : 0 ≤ d ∧ d ≤ 9999) : 0 ≤ argI l k d ∧ argI l k d ≤ 9999 := by
  unfold argI
  split
  · rename_i h1
    exact (areArgs_iff.1 h).2 _ (gat_mem (F := encI) h1.1)
  · exact hd
theorem argI_pos {l : List Int} {k : Nat} {d : Int} (h : areArgs l = true) (hd : 1 ≤ d ∧ d ≤ 9999) : 1 ≤ argI l k d ∧ argI l k d ≤ 9999 := by
  have h0 := argI_bnd (k := k) h (d := d) (by omega)
  unfold argI at h0 ⊢
  split at h0
  · rename_i h1; rw [if_pos h1]; have := h1.2; omega
  · rename_i h1; rw [if_neg h1]; exact hd
def clampI (x hi : Int) : Int := max 0 (min x hi)
theorem clampI_bnd {x w : Int} (h : 1 ≤ w) : 0 ≤ clampI x (w - 1) ∧ clampI x (w - 1) < w := by unfold clampI; omega
def moveD (s : ScrD) (x y : Int) : ScrD := { s with X := clampI x (s.W - 1), Y := clampI y (s.H - 1), Wrap := false }
def clearF (g : GridD) (a b : Int) (k : Nat) : CellD := if a ≤ (k : Int) ∧ (k : Int) < b then blankC else cat g.Cells k
def clearD (s : ScrD) (a b : Int) : ScrD := putD s (gmap (shownD s) (clearF (shownD s) a b))
def eraseD (s : ScrD) (a b k : Int) : ScrD :=
  if k = 0 then clearD s (s.Y * s.W + s.X) b else if k = 1 then clearD s a (s.Y * s.W + s.X + 1) else if k = 2 then clearD s a b else s
def regionD (s : ScrD) (l : List Int) : ScrD :=
  if argI l 0 1 - 1 < argI l 1 s.H - 1 ∧ argI l 1 s.H - 1 < s.H then moveD { s with Top := argI l 0 1 - 1, Bot := argI l 1 s.H - 1 } 0 0 else s
def tabsD (s : ScrD) (k : Int) : ScrD := { s with Tabs := s.Tabs.filter fun x => (decide (k = 0) && !decide (x = s.X)) || (!decide (k = 0) && !decide (k = 3)) }
def linesD (s : ScrD) (n : Int) : ScrD := if within s.Y s.Top s.Bot = true then { rollD s s.Y s.Bot n with X := 0, Wrap := false } else s
def modeD (s : ScrD) (n : Int) (on : Bool) : ScrD :=
  if n = 7 then { s with NoWrap := !on, Wrap := s.Wrap && on }
  else if n = 25 then { s with Hide := !on }
  else if (n = 1049 ∧ on = true) ∧ s.OnAlt = false then { saveD s with Alt := gridNew s.W s.H, OnAlt := true }
  else if (n = 1049 ∧ on = false) ∧ s.OnAlt = true then backD { s with OnAlt := false } else s
def csiD (s : ScrD) (l : List Int) (b : Int) : ScrD :=
  if b = 65 then moveD s s.X (s.Y - argI l 0 1)
  else if b = 66 then moveD s s.X (s.Y + argI l 0 1)
  else if b = 67 then moveD s (s.X + argI l 0 1) s.Y
  else if b = 68 then moveD s (s.X - argI l 0 1) s.Y
  else if b = 71 then moveD s (argI l 0 1 - 1) s.Y
  else if b = 100 then moveD s s.X (argI l 0 1 - 1)
  else if b = 72 ∨ b = 102 then moveD s (argI l 1 1 - 1) (argI l 0 1 - 1)
  else if b = 74 then eraseD s 0 (s.W * s.H) (argI l 0 0)
  else if b = 75 then eraseD s (s.Y * s.W) ((s.Y + 1) * s.W) (argI l 0 0)
  else if b = 88 then clearD s (s.Y * s.W + s.X) (min (s.Y * s.W + s.X + argI l 0 1) ((s.Y + 1) * s.W))
  else if b = 64 then putD s (gShift (shownD s) s.X s.Y (argI l 0 1))
  else if b = 80 then putD s (gShift (shownD s) s.X s.Y (-argI l 0 1))
  else if b = 76 then linesD s (-argI l 0 1)
  else if b = 77 then linesD s (argI l 0 1)
  else if b = 83 then rollUpD s (argI l 0 1)
  else if b = 84 then rollD s s.Top s.Bot (-argI l 0 1)
  else if b = 109 then { s with A := sgrRes s.A l }
  else if b = 114 then regionD s l
  else if b = 103 then tabsD s (argI l 0 0)
  else s
def seqD (s : ScrD) (mark : Bool) (l : List Int) (b : Int) : ScrD :=
  if mark = false then csiD s l b else if b = 104 ∨ b = 108 then l.foldl (fun s n => modeD s n (decide (b = 104))) s else s
def csiOk (s : ScrD) (l : List Int) : Bool := areArgs l && scrOk s
def scrCsiRes (s : ScrD) (mark : Bool) (l : List Int) (b : Int) : ScrD := if csiOk s l = true then seqD s mark l b else scr0
theorem ScrFine.move {s : ScrD} {x y : Int} (h : ScrFine s) : ScrFine (moveD s x y) := by
  have hp := h.pos
  exact ⟨h.gM, h.gA, h.dim, ⟨clampI_bnd (by omega), clampI_bnd (by omega)⟩, h.sav, fun h9 => Bool.noConfusion h9, h.aA, h.aS, h.reg, h.lim, h.tab, h.row⟩
theorem ScrFine.clear {s : ScrD} {a b : Int} (h : ScrFine s) : ScrFine (clearD s a b) := by
  have hs := h.shown
  refine h.put (gmap_ok hs.1 (fun k hk => ?_)) hs.2
  unfold clearF
  split
  · exact blank_ok
  · exact cat_ok hs.1 hk
theorem ScrFine.erase {s : ScrD} {a b k : Int} (h : ScrFine s) : ScrFine (eraseD s a b k) := by
  unfold eraseD
  repeat' split
  all_goals first | exact h.clear | exact h
theorem ScrFine.region {s : ScrD} {l : List Int} (h : ScrFine s) (hl : areArgs l = true) : ScrFine (regionD s l) := by
  have b := gridOk_bnd h.gM
  obtain ⟨d1, d2, _⟩ := h.dim
  unfold regionD
  split
  · rename_i hr
    have h1 := argI_pos (k := 0) hl (d := 1) (by omega)
    have h' : ScrFine { s with Top := argI l 0 1 - 1, Bot := argI l 1 s.H - 1 } := ⟨h.gM, h.gA, h.dim, h.pos, h.sav, h.wrp, h.aA, h.aS, ⟨by constructor <;> (simp only; omega), hr.2, fun he => by simp only at he; omega⟩, h.lim, h.tab, h.row⟩
    exact h'.move
  · exact h
theorem ScrFine.wx {s : ScrD} (h : ScrFine s) : ScrFine { s with X := 0, Wrap := false } := by
  have hp := h.pos
  exact ⟨h.gM, h.gA, h.dim, ⟨by constructor <;> (simp only; omega), hp.2⟩, h.sav, fun h9 => Bool.noConfusion h9, h.aA, h.aS, h.reg, h.lim, h.tab, h.row⟩
theorem ScrFine.lines {s : ScrD} {n : Int} (h : ScrFine s) : ScrFine (linesD s n) := by
  unfold linesD
  split
  · rename_i hw
    rw [within_iff] at hw
    have hr := h.reg
    exact (h.roll (by omega) (by omega)).wx
  · exact h
theorem asc_pair {l : List Int} {lo hi : Int} : isAsc l lo hi = true ↔ l.Pairwise (· < ·) ∧ ∀ x, x ∈ l → lo ≤ x ∧ x ≤ hi := by
  constructor
  · intro h
    constructor
    · rw [List.pairwise_iff_getElem]
      intro i j hi' hj hij
      have := asc_lt h hij hj
      rwa [show iat l i = l[i] from gat_lt hi', show iat l j = l[j] from gat_lt hj] at this
    · intro x hx
      obtain ⟨i, hi', rfl⟩ := List.mem_iff_getElem.1 hx
      have := (asc_at h hi').1
      rwa [show iat l i = l[i] from gat_lt hi'] at this
  · rintro ⟨h1, h2⟩
    refine isAsc_all fun i hi' => ?_
    unfold ascAt
    rw [Bool.and_eq_true, within_iff, Bool.or_eq_true, decide_eq_true_eq, decide_eq_true_eq, show iat l i = l[i] from gat_lt hi']
    refine ⟨h2 _ (List.getElem_mem hi'), ?_⟩
    rcases Nat.eq_zero_or_pos i with h3 | h3
    · exact .inl h3
    · right
      rw [show iat l (i - 1) = l[i - 1] from gat_lt (by omega)]
      exact List.pairwise_iff_getElem.1 h1 (i - 1) i (by omega) hi' (by omega)
theorem asc_sub {l m : List Int} {lo hi : Int} (h : isAsc l lo hi = true) (hm : m.Sublist l) : isAsc m lo hi = true := by
  rw [asc_pair] at h ⊢
  exact ⟨h.1.sublist hm, fun x hx => h.2 x (hm.subset hx)⟩
theorem ScrFine.tabs {s : ScrD} {l : List Int} (h : ScrFine s) (hl : isAsc l 0 (s.W - 1) = true) : ScrFine { s with Tabs := l } :=
  ⟨h.gM, h.gA, h.dim, h.pos, h.sav, h.wrp, h.aA, h.aS, h.reg, h.lim, hl, h.row⟩
theorem ScrFine.sgr {s : ScrD} {l : List Int} (h : ScrFine s) : ScrFine { s with A := sgrRes s.A l } :=
  ⟨h.gM, h.gA, h.dim, h.pos, h.sav, h.wrp, sgrRes_ok, h.aS, h.reg, h.lim, h.tab, h.row⟩
theorem ScrFine.shift {s : ScrD} {n : Int} (h : ScrFine s) : ScrFine (putD s (gShift (shownD s) s.X s.Y n)) := by
  have hs := h.shown
  have hp := h.pos
  exact h.put (gShift_ok hs.1 hp.1.1 (by rw [hs.2.2]; exact hp.2)) hs.2
theorem fine_ite {p : Prop} [Decidable p] {a b : ScrD} (ha : ScrFine a) (hb : ScrFine b) : ScrFine (if p then a else b) := by
  by_cases h : p
  · rw [if_pos h]; exact ha
  · rw [if_neg h]; exact hb
theorem ScrFine.csi {s : ScrD} {l : List Int} {b : Int} (h : ScrFine s) (hl : areArgs l = true) : ScrFine (csiD s l b) := by
  have hr := h.reg
  unfold csiD
  repeat' (with_reducible refine fine_ite ?_ ?_)
  all_goals first | exact h.move | exact h.erase | exact h.clear | exact h.shift | exact h.lines | exact h.rollUp | exact h.roll (by omega) (by omega) | exact h.sgr | exact h.region hl | exact h.tabs (asc_sub h.tab List.filter_sublist) | exact h
theorem isSize_of {g : GridD} (hg : gridOk g = true) : isSize g.W g.H = true := by
  unfold gridOk at hg; rw [Bool.and_eq_true, Bool.and_eq_true] at hg; exact hg.1.1
theorem ScrFine.size {s : ScrD} (h : ScrFine s) : isSize s.W s.H = true := by
  have := isSize_of h.gM
  rwa [h.dim.1, h.dim.2.1] at this
theorem ScrFine.mode {s : ScrD} {n : Int} {on : Bool} (h : ScrFine s) : ScrFine (modeD s n on) := by
  unfold modeD
  split
  · exact ⟨h.gM, h.gA, h.dim, h.pos, h.sav, fun h9 => h.wrp (by simp only [Bool.and_eq_true] at h9; exact h9.1), h.aA, h.aS, h.reg, h.lim, h.tab, h.row⟩
  · split
    · exact ⟨h.gM, h.gA, h.dim, h.pos, h.sav, h.wrp, h.aA, h.aS, h.reg, h.lim, h.tab, h.row⟩
    · split
      · exact ⟨h.gM, gridOk_new h.size, ⟨h.dim.1, h.dim.2.1, rfl, rfl⟩, h.pos, h.pos, h.wrp, h.aA, h.aA, h.reg, h.lim, h.tab, h.row⟩
      · split
        · exact ⟨h.gM, h.gA, h.dim, h.sav, h.sav, fun h9 => Bool.noConfusion h9, h.aS, h.aS, h.reg, h.lim, h.tab, h.row⟩
        · exact h
def modesD (s : ScrD) (l : List Int) (on : Bool) : ScrD := l.foldl (fun s n => modeD s n on) s
theorem modesD_take {s : ScrD} {l : List Int} {i : Nat} {on : Bool} (h : i < l.length) : modesD s (l.take (i + 1)) on = modeD (modesD s (l.take i) on) (iat l i) on := by
  unfold modesD
  rw [List.take_add_one, gat_get (F := encI) h, List.foldl_append]
  rfl
theorem ScrFine.modes {l : List Int} {on : Bool} : ∀ {s : ScrD}, ScrFine s → ScrFine (modesD s l on) := by
  induction l with
  | nil => exact fun h => h
  | cons x r ih => exact fun h => ih h.mode
theorem ScrFine.seq {s : ScrD} {mark : Bool} {l : List Int} {b : Int} (h : ScrFine s) (hl : areArgs l = true) : ScrFine (seqD s mark l b) := by
  unfold seqD
  split
  · exact h.csi hl
  · split
    · exact ScrFine.modes h
    · exact h
theorem scrCsiRes_ok {s : ScrD} {mark : Bool} {l : List Int} {b : Int} (h : csiOk s l = true) : scrOk (scrCsiRes s mark l b) = true := by
  unfold scrCsiRes
  rw [if_pos h]
  unfold csiOk at h
  rw [Bool.and_eq_true] at h
  exact ((ScrFine.of h.2).seq h.1).ok
theorem scrCsiRes_tot {s : ScrD} {mark : Bool} {l : List Int} {b : Int} : totScr (scrCsiRes s mark l b) ≤ 20220 := by
  by_cases h : csiOk s l = true
  · exact scr_tot (scrCsiRes_ok h)
  · unfold scrCsiRes; rw [if_neg h]; show 0 ≤ 20220; omega
end Go.Proofs.YtjmegoiclgancaaGreat
namespace Go.Proofs.YtjmegoiclgancaaGreat
open Go Go.RowKit
set_option linter.unusedVariables false
set_option linter.unusedSimpArgs false
theorem c_impl_Grid_roll (g : GridR) (top : Int) (bot : Int) (n : Int) (w : World) (f_g : okGridR 549755813888 w g) (hg : gridOk g.dat = true) (ht : 0 ≤ top ∧ top ≤ bot ∧ bot < g.H) (hn : -100000 ≤ n ∧ n ≤ 100000) :
    Calls Tryz.prog 249 #[.agg #[i64 g.W, i64 g.H, .slice g.Cells.A g.Cells.n g.Cells.c], i64 top, i64 bot, i64 n] w fun e w' => ∃ r L1, e = .returned (.agg #[i64 r.W, i64 r.H, .slice r.Cells.A r.Cells.n r.Cells.c]) ∧ St w [] L1 w' ∧ ownGridR r L1 ∧ r.dat = gRoll g.dat top bot n := by
 have nb_g_Cells := f_g.Cells_n
 have nl_g_Cells := f_g.Cells.len
 have hgb : (1 ≤ g.W ∧ g.W ≤ 120) ∧ (1 ≤ g.H ∧ g.H ≤ 120) ∧ 1 ≤ g.W * g.H ∧ g.W * g.H ≤ 4000 := gridOk_bnd hg
 have hgl : (g.Cells.xs.length : Int) = g.W * g.H := grid_len hg
 have hsmg : smGrid 1048576 g.dat := by show g.Cells.xs.length ≤ 1048576; omega
 refine enter 48 Tryz.func249 rfl Tryz.ntmps249 rfl rfl ?_
 have hs1 := St.init w
 refine WC.sr ?_
 refine WL.bx hs1 rfl (fun b2 _ hs3 => ?_)
 refine WL.al hs3 Tryz.zeroValue28 rfl rfl (fun b4 _ hs5 => ?_)
 refine WL.nil ?_
 refine WC.sr ?_
 refine WL.r 1 hs5 [1] rfl ?_
 refine WL.cl Tryz.call206 rfl (c_impl_copyGrid g _ (okGridR.st0 f_g hs5) ?_) ?_
 · first | (first | assumption | rfl | omega) | (first | assumption | rfl | omega)
 rintro _ whs6 ⟨r7, L1_8, rfl, hs6, ho9, hd10⟩
 replace hs6 := hs5.callF hs6
 refine ⟨_, rfl, ?_⟩
 replace hs6 := St.back [_, _] hs6
 skip
 refine WL.al hs6 Tryz.zeroValue28 rfl rfl (fun b11 _ hs12 => ?_)
 refine WL.st tbk hs12 0 rfl rfl (fun _ hs13 => ?_)
 refine WL.nil ?_
 refine WC.seq (fun K14 hK14 => ?_)
 refine WC.r1 hs13 [] rfl ?_
 refine WC.block ?_
 have hM19 := (St.grp1 (L1 := L1_8) [_] ((((hs13.fb b2).fb b4).fr L1_8).fb b11))
 refine WC.lV [1, 2, 3, 4, 8, 9] rfl hM19 (fun k_ (a_ : Hp) f => ∃ (a : Nat) (r : GridR) (L17 : Hp), k_ = (bot - top + 1).toNat - a ∧ a_ = [(b11, .cells (List.toArray [i64 r.W, i64 r.H, .slice r.Cells.A r.Cells.n r.Cells.c]) 28 (0, 0))] ++ L17 ∧ (top + (a : Int) ≤ bot + 1) ∧ (r.W = g.W ∧ r.H = g.H ∧ r.Cells.xs.length = g.Cells.xs.length) ∧ (∀ k, k < g.Cells.xs.length → cat r.Cells.xs k = partF g.dat (rollF g.dat top bot n) (top.toNat * g.W.toNat) (a * g.W.toNat) k) ∧ ownGridR r L17 ∧ Sub [(10, .int .i64 (top + a))] f) (((fun (a : Nat) => (bot - top + 1).toNat - a) (0))) ?_ ?_
 ·refine ⟨0, r7, L1_8, rfl, rfl, ?_, ?_, ?_, ho9, ⟨?_, trivial⟩⟩
  · omega
  · exact ⟨congrArg GridD.W hd10, congrArg GridD.H hd10, congrArg (fun d : GridD => d.Cells.length) hd10⟩
  · intro k hk; rw [Nat.zero_mul, partF_zero]; exact congrArg (fun d : GridD => cat d.Cells k) hd10
  · (refine congrArg some (congrArg (Value.int _) ?_); omega)
 ·rintro _ _ f w ⟨a, r, L17, rfl, rfl, p0, p1, p2, ho18, hG⟩ hF hs20
  refine WC.sub _ (hG.app hF) ?_
  clear hG hF
  replace hs20 := St.ungrp1 [_] hs20
  have hs21 := (((hs20.fb b2).fb b4).fb b11)
  have hsmr : smGrid 549755813888 r.dat := by show r.Cells.xs.length ≤ 549755813888; omega
  refine WC.seq (fun K22 hK22 => ?_)
  refine WC.r1 hs21 [] rfl ?_
  refine WC.cq rfl (fun h23 qh23 => ?_) (fun h23 qh23 => ?_)
  ·have hab : top + (a : Int) ≤ bot := by omega
   have hv0 : 0 ≤ (top + (a : Int)) * g.W := Int.mul_nonneg (by omega) (by omega)
   have hv1 : (top + (a : Int) + 1) * g.W = (top + (a : Int)) * g.W + g.W := by rw [Int.add_mul, Int.one_mul]
   have hv2 : (top + (a : Int) + 1) * g.W ≤ g.H * g.W := Int.mul_le_mul_of_nonneg_right (by omega) (by omega)
   rw [Int.mul_comm g.H g.W] at hv2
   have hrw : r.W = g.W := p1.1
   have hz0 : (top + (a : Int)) * r.W = (top + (a : Int)) * g.W := by rw [hrw]
   have hz1 : (top + (a : Int) + 1) * r.W = (top + (a : Int) + 1) * g.W := by rw [hrw]
   have hnr := ownGridR.len ‹ownGridR r _›
   have hcr := OwnF.cap ‹ownGridR r _›
   have hlr := f_g.Cells.len
   have hcg := f_g.Cells_c
   have hlo0 : ((top + (a : Int)) * r.W).toNat = (top.toNat + a) * g.W.toNat := by rw [hrw, Int.toNat_mul (by omega) (by omega)]; congr 1; omega
   have hmm1 : ((top + (a : Int) + 1) * r.W).toNat - ((top + (a : Int)) * r.W).toNat = g.W.toNat := by rw [hz0, hz1]; omega
   refine WC.skip ?_
   refine hK22 _ _ ?_
   refine WC.seq (fun K24 hK24 => ?_)
   refine WC.block ?_
   refine WC.r1 hs21 [] rfl ?_
   refine WC.sr ?_
   refine WL.r 1 hs21 [] rfl ?_
   refine WL.cl Tryz.call97 rfl (c_impl_within _ _ _ _) ?_
   rintro _ whs25 ⟨rfl, hs25⟩
   replace hs25 := hs21.call0 hs25
   refine ⟨_, rfl, ?_⟩
   refine WL.r 1 hs25 [] rfl ?_
   apply WL.gA 4 Acts.nil hs25 rfl
   ·intro g26 J27
    have qg26 := g26
    try simp only [bf, within_iff, within_not] at qg26
    refine WL.runA tbk 3 (Acts.nil.cons (j := 2) rfl g26) hs25 [] rfl trivial ?_
    refine WL.call (wantT rfl g26) rfl rfl (Run.call Tryz.call97 rfl rfl rfl) (c_impl_within _ _ _ _) ?_
    rintro _ whs28 ⟨rfl, hs28⟩
    replace hs28 := hs25.call0 hs28
    refine ⟨_, rfl, ?_⟩
    exact WL.eA 4 Acts.nil J27 hs28 g26 rfl rfl
   ·intro _ hs29
    refine WL.nil ?_
    refine WC.cq rfl (fun h30 qh30 => ?_) (fun h30 qh30 => ?_)
    ·have hin : top ≤ top + (a : Int) + n ∧ top + (a : Int) + n ≤ bot := by have h9 := h30; simp only [Bool.and_eq_true, within_iff] at h9; omega
     have hu0 : 0 ≤ (top + (a : Int) + n) * g.W := Int.mul_nonneg (by omega) (by omega)
     have hu1 : (top + (a : Int) + n + 1) * g.W = (top + (a : Int) + n) * g.W + g.W := by rw [Int.add_mul, Int.one_mul]
     have hu2 : (top + (a : Int) + n + 1) * g.W ≤ g.H * g.W := Int.mul_le_mul_of_nonneg_right (by omega) (by omega)
     rw [Int.mul_comm g.H g.W] at hu2
     have hsrc : ((top + (a : Int) + n + 1) * g.W).toNat - ((top + (a : Int) + n) * g.W).toNat = g.W.toNat := by omega
     refine WC.rH (hs29.rm L17) hs29 (fun _ hs31 => ?_)
     refine WH.rn [0, 1, 3, 4] (hs31.rm L17) [0, 2] rfl rfl ?_
     refine WH.o1 2 rfl ?_
     refine WL.cl Tryz.call224 rfl (c_impl_Grid_row r _ _ (ownGridR.ok (B := 549755813888) ho18 (hs31.ow L17) hsmr) ?_ ?_ ?_ ?_) ?_
     · first | (first | assumption | rfl | omega) | (first | assumption | rfl | omega)
     · first | (first | assumption | rfl | omega) | (first | assumption | rfl | omega)
     · first | (first | assumption | rfl | omega) | (first | assumption | rfl | omega)
     · first | (first | assumption | rfl | omega) | (first | assumption | rfl | omega)
     rintro _ whs32 ⟨rfl, hs32⟩
     replace hs32 := hs31.call0 hs32
     refine ⟨_, rfl, ?_⟩
     refine WL.nil ⟨(hs32.rm L17), ?_⟩
     refine WH.o1 5 rfl ?_
     refine WL.cl Tryz.call224 rfl (c_impl_Grid_row g _ _ (okGridR.st0 f_g hs32) ?_ ?_ ?_ ?_) ?_
     · first | (first | assumption | rfl | omega) | (first | assumption | rfl | omega)
     · first | (first | assumption | rfl | omega) | (first | assumption | rfl | omega)
     · first | (first | assumption | rfl | omega) | (first | assumption | rfl | omega)
     · first | (first | assumption | rfl | omega) | (first | assumption | rfl | omega)
     rintro _ whs33 ⟨rfl, hs33⟩
     replace hs33 := hs32.call0 hs33
     refine ⟨_, rfl, ?_⟩
     refine WL.nil ⟨(hs33.rm L17), ?_⟩
     refine WH.o1 6 rfl ?_
     refine WL.copyF (lo := ((top + (a : Int)) * r.W).toNat) (hs33.fr L17) ho18 (SlF.cutC (lo := (((top + (a : Int)) + n) * g.W).toNat) (hi := ((((top + (a : Int)) + n) + 1) * g.W).toNat) (SlF.st0 f_g.Cells hs33) (by refine ⟨?_, ?_, ?_⟩ <;> (omega))) Tryz.underlying26 Tryz.underlying26 info_75 rfl rfl rfl rfl rfl rfl rfl (.inl rfl) ?_ ?_ (fun L34 _ hs35 ho36 => ?_)
     · omega
     · omega
     replace hs35 := St.back [_, _, _] hs35
     refine WL.nil ⟨(hs35.rm L34), ?_⟩
     refine WH.dn ?_
     refine hK24 _ _ ?_
     refine WC.region ?_
     refine WL.r 3 hs35 [] rfl ?_
     refine WL.nil ?_
     refine tkN ?_
     have hF37 := (St.grp1 (L1 := L34) [_] ((((hs35.fb b2).fb b4).fr L34).fb b11))
     refine ⟨sbF rfl, _, hF37, _, ?_, a + 1, ⟨r.W, r.H, SlD.of ho36⟩, L34, rfl, rfl, ?_, ?_, ?_, ho36, ⟨?_, trivial⟩⟩
     · omega
     · omega
     · exact ⟨p1.1, p1.2.1, by simp only [List.length_append, List.length_take, List.length_drop]; omega⟩
     · intro k hk; show cat _ k = partF g.dat (rollF g.dat top bot n) (top.toNat * g.dat.W.toNat) ((a + 1) * g.dat.W.toNat) k; first | exact roll_row ht.1 hlo0 (by show _ = g.W.toNat; (try simp only [List.length_replicate]); omega) (by first | (simp only [List.length_take, List.length_drop]; omega) | (simp only [List.length_replicate]; omega)) (by (try simp only [List.length_replicate]); omega) (by omega) hab (fun j hj => by have _ := hin; rw [if_pos hin]; exact roll_src (by omega) (by show 0 ≤ g.W; omega) rfl hsrc hj) (p2 k hk) | exact roll_row ht.1 hlo0 (by show _ = g.W.toNat; (try simp only [List.length_replicate]); omega) (by first | (simp only [List.length_take, List.length_drop]; omega) | (simp only [List.length_replicate]; omega)) (by (try simp only [List.length_replicate]); omega) (by omega) hab (fun j hj => by rw [if_neg hout]; exact cat_rep hj) (p2 k hk)
     · (refine congrArg some (congrArg (Value.int _) ?_); omega)
    ·have hout : ¬ (top ≤ top + (a : Int) + n ∧ top + (a : Int) + n ≤ bot) := by intro h8; have h9 := h30; simp [within] at h9; omega
     refine WC.rH (hs29.rm L17) hs29 (fun _ hs38 => ?_)
     refine WH.rn [0, 1, 5, 6] (hs38.rm L17) [0, 2] rfl rfl ?_
     refine WH.o1 2 rfl ?_
     refine WL.cl Tryz.call224 rfl (c_impl_Grid_row r _ _ (ownGridR.ok (B := 549755813888) ho18 (hs38.ow L17) hsmr) ?_ ?_ ?_ ?_) ?_
     · first | (first | assumption | rfl | omega) | (first | assumption | rfl | omega)
     · first | (first | assumption | rfl | omega) | (first | assumption | rfl | omega)
     · first | (first | assumption | rfl | omega) | (first | assumption | rfl | omega)
     · first | (first | assumption | rfl | omega) | (first | assumption | rfl | omega)
     rintro _ whs39 ⟨rfl, hs39⟩
     replace hs39 := hs38.call0 hs39
     refine ⟨_, rfl, ?_⟩
     refine WL.nil ⟨(hs39.rm L17), ?_⟩
     refine WH.o1 3 rfl ?_
     refine WL.cl Tryz.call253 rfl (c_impl_blank _) ?_
     rintro _ whs40 ⟨rfl, hs40⟩
     replace hs40 := hs39.call0 hs40
     refine ⟨_, rfl, ?_⟩
     refine WL.nil ⟨(hs40.rm L17), ?_⟩
     refine WH.o1 4 rfl ?_
     refine WL.buildF (F := encCell) hs40 ([blankC]) Tryz.runUnderlying26 Tryz.sizeOf75 Tryz.zeroValue75 rfl rfl rfl rfl rfl rfl rfl rfl rfl rfl rfl rfl (fun A44 c45 L41 whs42 hs42 ho43 => ?_)
     replace hs42 := St.back [_, _, _] hs42
     refine WL.nil ⟨((hs42.rm L41).rm L17), ?_⟩
     refine WH.o1 7 rfl ?_
     refine WL.cl Tryz.call252 rfl (c_slices_Repeat_impl_Cell_impl_Cell _ _ _ _ _ _ (SlF.ofOwn ho43 (hs42.ow L41)) ?_ ?_) ?_
     · first | (first | assumption | rfl | omega) | (first | assumption | rfl | omega)
     · first | (first | assumption | rfl | omega) | (first | assumption | rfl | omega)
     rintro _ whs46 ⟨A47, c48, L1_49, rfl, hs46, ho50⟩
     replace hs46 := hs42.callF hs46
     refine ⟨_, rfl, ?_⟩
     replace hs46 := St.back [_, _, _] hs46
     refine WL.nil ⟨(((hs46.rm L1_49).rm L41).rm L17), ?_⟩
     refine WH.o1 8 rfl ?_
     refine WL.copyF (lo := ((top + (a : Int)) * r.W).toNat) (hs46.fr L17) ho18 (SlF.ofOwn ho50 (hs46.ow L1_49)) Tryz.underlying26 Tryz.underlying26 info_75 rfl rfl rfl rfl rfl rfl rfl (.inl rfl) ?_ ?_ (fun L51 _ hs52 ho53 => ?_)
     · omega
     · omega
     replace hs52 := St.back [_, _, _] hs52
     refine WL.nil ⟨(((hs52.rm L51).rm L1_49).rm L41), ?_⟩
     refine WH.dn ?_
     refine hK24 _ _ ?_
     refine WC.region ?_
     refine WL.r 3 hs52 [] rfl ?_
     refine WL.nil ?_
     refine tkN ?_
     replace hs52 := ((hs52.rm L1_49).rm L41)
     have hF54 := (St.grp1 (L1 := L51) [_] ((((hs52.fb b2).fb b4).fr L51).fb b11))
     refine ⟨sbF rfl, _, hF54, _, ?_, a + 1, ⟨r.W, r.H, SlD.of ho53⟩, L51, rfl, rfl, ?_, ?_, ?_, ho53, ⟨?_, trivial⟩⟩
     · omega
     · omega
     · exact ⟨p1.1, p1.2.1, by simp only [List.length_append, List.length_take, List.length_drop]; omega⟩
     · intro k hk; show cat _ k = partF g.dat (rollF g.dat top bot n) (top.toNat * g.dat.W.toNat) ((a + 1) * g.dat.W.toNat) k; first | exact roll_row ht.1 hlo0 (by show _ = g.W.toNat; (try simp only [List.length_replicate]); omega) (by first | (simp only [List.length_take, List.length_drop]; omega) | (simp only [List.length_replicate]; omega)) (by (try simp only [List.length_replicate]); omega) (by omega) hab (fun j hj => by have _ := hin; rw [if_pos hin]; exact roll_src (by omega) (by show 0 ≤ g.W; omega) rfl hsrc hj) (p2 k hk) | exact roll_row ht.1 hlo0 (by show _ = g.W.toNat; (try simp only [List.length_replicate]); omega) (by first | (simp only [List.length_take, List.length_drop]; omega) | (simp only [List.length_replicate]; omega)) (by (try simp only [List.length_replicate]); omega) (by omega) hab (fun j hj => by rw [if_neg hout]; exact cat_rep hj) (p2 k hk)
     · (refine congrArg some (congrArg (Value.int _) ?_); omega)
  ·refine WC.exit ?_
   refine hK14 _ _ ?_
   refine WC.sr ?_
   refine WL.r 1 hs21 [0] rfl ?_
   refine WL.st tbk hs21 1 rfl rfl (fun _ hs55 => ?_)
   refine WL.nil ?_
   refine WC.ret ?_
   refine retV1 rfl (resV.cellA tbk hs55 1 rfl rfl rfl rfl) ?_
   refine ⟨r, _, rfl, (St.keep1 (hs55.fr L17)), ?_, ?_⟩
   · exact ho18
   · exact roll_done hg ht.1 ht.2.1 ht.2.2 (m := n) (by omega) p1.1 p1.2.1 p1.2.2 (.inl rfl) p2
end Go.Proofs.YtjmegoiclgancaaGreat
namespace Go.Proofs.YtjmegoiclgancaaGreat
open Go Go.RowKit
set_option linter.unusedVariables false
set_option linter.unusedSimpArgs false
theorem tabsL_asc {w : Int} (h : 1 ≤ w) : isAsc (tabsL w) 0 (w - 1) = true := by
  rw [asc_pair]
  constructor
  · unfold tabsL
    rw [List.pairwise_map]
    exact List.Pairwise.imp (fun h => by omega) List.pairwise_lt_range
  · intro x hx
    obtain ⟨i, hi, rfl⟩ := List.mem_map.1 hx
    have := List.mem_range.1 hi
    omega
theorem ScrFine.fresh {w h l : Int} (hs : isSize w h = true) (hl : 0 ≤ l ∧ l ≤ 100) : ScrFine (scrNew w h l) := by
  obtain ⟨h1, h2, _⟩ := isSize_bnd hs
  refine ⟨gridOk_new hs, gridOk_new hs, ⟨rfl, rfl, rfl, rfl⟩, ?_, ?_, fun h9 => Bool.noConfusion h9, (show attrOk 0 0 = true by decide), (show attrOk 0 0 = true by decide), ?_, ⟨hl, ?_⟩, tabsL_asc h1.1, rfl⟩
  · show (0 ≤ (0 : Int) ∧ (0 : Int) < w) ∧ 0 ≤ (0 : Int) ∧ (0 : Int) < h; omega
  · show (0 ≤ (0 : Int) ∧ (0 : Int) < w) ∧ 0 ≤ (0 : Int) ∧ (0 : Int) < h; omega
  · show (0 ≤ (0 : Int) ∧ (0 : Int) ≤ h - 1) ∧ h - 1 < h ∧ ((0 : Int) = h - 1 → h = 1); omega
  · exact hl.1
theorem ScrFine.x0 {s : ScrD} (h : ScrFine s) (hw : s.Wrap = false) : ScrFine { s with X := 0 } := by
  have hp := h.pos
  exact ⟨h.gM, h.gA, h.dim, ⟨by constructor <;> (simp only; omega), hp.2⟩, h.sav, fun h9 => (by rw [show s.Wrap = true from h9] at hw; cases hw), h.aA, h.aS, h.reg, h.lim, h.tab, h.row⟩
def scrGoRes (s : ScrD) (x y : Int) : ScrD := if scrOk s = true then moveD s x y else scr0
end Go.Proofs.YtjmegoiclgancaaGreat
namespace Go.Proofs.YtjmegoiclgancaaGreat
open Go Go.RowKit
set_option linter.unusedVariables false
set_option linter.unusedSimpArgs false
theorem c_spec_l09Shown (s : ScrR) (w : World) (f_s : okScrR 549755813888 w s) :
    Calls Tryz.prog 145 #[.agg (cScr s).toArray] w fun e w' => e = .returned (.agg #[i64 (shownR s).W, i64 (shownR s).H, .slice (shownR s).Cells.A (shownR s).Cells.n (shownR s).Cells.c]) ∧ St w [] [] w' := by
 have nb_s_Main_Cells := f_s.Main.Cells_n
 have nl_s_Main_Cells := f_s.Main.Cells.len
 have nb_s_Alt_Cells := f_s.Alt.Cells_n
 have nl_s_Alt_Cells := f_s.Alt.Cells.len
 have nb_s_Tabs := f_s.Tabs_n
 have nl_s_Tabs := f_s.Tabs.len
 have nb_s_Back := f_s.Back_n
 have nl_s_Back := f_s.Back.sl.len
 refine enter 9 Tryz.func145 rfl Tryz.ntmps145 rfl rfl ?_
 have hs1 := St.init w
 refine WC.sr ?_
 refine WL.bx hs1 rfl (fun b2 _ hs3 => ?_)
 refine WL.al hs3 Tryz.zeroValue28 rfl rfl (fun b4 _ hs5 => ?_)
 refine WL.nil ?_
 refine WC.seq (fun K6 hK6 => ?_)
 refine WC.r1 hs5 [1] rfl ?_
 refine WC.cq rfl (fun h7 qh7 => ?_) (fun h7 qh7 => ?_)
 ·refine WC.sr ?_
  refine WL.r 2 hs5 [1] rfl ?_
  refine WL.st tbk hs5 0 rfl rfl (fun _ hs8 => ?_)
  refine WL.nil ?_
  refine WC.ret ?_
  refine tkR ?_
  clear hK6
  refine retV1 rfl (resV.cellA tbk hs8 0 rfl rfl rfl rfl) ?_
  refine ⟨congrArg Ending.returned ?_, hs8.nil⟩
  rw [shownR_alt (by have h9 := h7; simpa using h9)]
 ·refine WC.skip ?_
  refine hK6 _ _ ?_
  refine WC.sr ?_
  refine WL.r 2 hs5 [1] rfl ?_
  refine WL.st tbk hs5 0 rfl rfl (fun _ hs9 => ?_)
  refine WL.nil ?_
  refine WC.ret ?_
  refine retV1 rfl (resV.cellA tbk hs9 0 rfl rfl rfl rfl) ?_
  refine ⟨congrArg Ending.returned ?_, hs9.nil⟩
  rw [shownR_main (by have h9 := h7; simpa using h9)]
theorem c_spec_l09Put (s : ScrR) (L_s : Hp) (g : GridR) (L_g : Hp) (w : World) (o_s : ownScrR s L_s) (h_s : ∀ p, p ∈ L_s → w.heap[p.1]? = some p.2) (o_g : ownGridR g L_g) (h_g : ∀ p, p ∈ L_g → w.heap[p.1]? = some p.2) (hd_ : ((L_s ++ L_g).map (·.1)).Nodup) :
    Calls Tryz.prog 143 #[.agg (cScr s).toArray, .agg #[i64 g.W, i64 g.H, .slice g.Cells.A g.Cells.n g.Cells.c]] w fun e w' => ∃ r L1, e = .returned (.agg (cScr r).toArray) ∧ St w ((L_s ++ L_g).map (·.1)) L1 w' ∧ ownScrR r L1 ∧ r.dat = putD s.dat g.dat := by
 refine enter 12 Tryz.func143 rfl Tryz.ntmps143 rfl rfl ?_
 have hs1 := St.takes2 w L_s L_g h_s h_g hd_
 refine WC.sr ?_
 refine WL.bx hs1 rfl (fun b2 _ hs3 => ?_)
 refine WL.bx hs3 rfl (fun b4 _ hs5 => ?_)
 refine WL.al hs5 Tryz.zeroValue33 rfl rfl (fun b6 _ hs7 => ?_)
 refine WL.nil ?_
 refine WC.seq (fun K8 hK8 => ?_)
 refine WC.r1 hs7 [2] rfl ?_
 refine WC.cq rfl (fun h9 qh9 => ?_) (fun h9 qh9 => ?_)
 ·refine WC.region ?_
  refine WL.r 2 hs7 [1] rfl ?_
  refine WL.st tbk hs7 2 rfl rfl (fun _ hs10 => ?_)
  refine WL.nil ?_
  refine hK8 _ _ ?_
  refine WC.sr ?_
  refine WL.r 1 hs10 [2] rfl ?_
  refine WL.st tbk hs10 0 rfl rfl (fun _ hs11 => ?_)
  refine WL.nil ?_
  refine WC.ret ?_
  refine retV1 rfl (resV.cellA tbk hs11 0 rfl rfl rfl rfl) ?_
  obtain ⟨L12, L13, L14, L15, hs20, ho16, ho17, ho18, ho19⟩ := ownScrR.open_ (hs11.fr L_s) o_s
  have hs21 := (((hs20.fb b2).fb b4).fb b6)
  obtain ⟨L23, hs22, ho24⟩ := ownScrR.fl ((((hs21.fr L15).fr L14).fr L_g).fr L12) ho16 o_g ho18 ho19
  have hs25 := (((hs22.fb b2).fb b4).fb b6)
  refine ⟨⟨s.W, s.H, ⟨s.Main.W, s.Main.H, SlD.of ho16⟩, ⟨g.W, g.H, SlD.of o_g⟩, s.OnAlt, s.X, s.Y, s.Wrap, ⟨s.A.Fg, s.A.Bg, s.A.Bold, s.A.Under, s.A.Turn⟩, s.Top, s.Bot, s.NoWrap, s.Hide, s.SaveX, s.SaveY, ⟨s.SaveA.Fg, s.SaveA.Bg, s.SaveA.Bold, s.SaveA.Under, s.SaveA.Turn⟩, SlD.of ho18, s.Limit, SlD.ofN ho19⟩, _, rfl, (St.keep1 (hs25.fr L23)), ?_, ?_⟩
  · exact (by exact ho24)
  · rw [putD, if_pos (show s.dat.OnAlt = true from by show s.OnAlt = true; have h9 := h9; simpa using h9)]; rfl
 ·refine WC.region ?_
  refine WL.r 2 hs7 [1] rfl ?_
  refine WL.st tbk hs7 2 rfl rfl (fun _ hs26 => ?_)
  refine WL.nil ?_
  refine hK8 _ _ ?_
  refine WC.sr ?_
  refine WL.r 1 hs26 [2] rfl ?_
  refine WL.st tbk hs26 0 rfl rfl (fun _ hs27 => ?_)
  refine WL.nil ?_
  refine WC.ret ?_
  refine retV1 rfl (resV.cellA tbk hs27 0 rfl rfl rfl rfl) ?_
  obtain ⟨L28, L29, L30, L31, hs36, ho32, ho33, ho34, ho35⟩ := ownScrR.open_ (hs27.fr L_s) o_s
  have hs37 := (((hs36.fb b2).fb b4).fb b6)
  obtain ⟨L39, hs38, ho40⟩ := ownScrR.fl ((((hs37.fr L31).fr L30).fr L29).fr L_g) o_g ho33 ho34 ho35
  have hs41 := (((hs38.fb b2).fb b4).fb b6)
  refine ⟨⟨s.W, s.H, ⟨g.W, g.H, SlD.of o_g⟩, ⟨s.Alt.W, s.Alt.H, SlD.of ho33⟩, s.OnAlt, s.X, s.Y, s.Wrap, ⟨s.A.Fg, s.A.Bg, s.A.Bold, s.A.Under, s.A.Turn⟩, s.Top, s.Bot, s.NoWrap, s.Hide, s.SaveX, s.SaveY, ⟨s.SaveA.Fg, s.SaveA.Bg, s.SaveA.Bold, s.SaveA.Under, s.SaveA.Turn⟩, SlD.of ho34, s.Limit, SlD.ofN ho35⟩, _, rfl, (St.keep1 (hs41.fr L39)), ?_, ?_⟩
  · exact (by exact ho40)
  · rw [putD, if_neg (show ¬ s.dat.OnAlt = true from by show ¬ s.OnAlt = true; have h9 := h9; simpa using h9)]; rfl
theorem c_impl_Scr_shown_main (b_s : Nat) (s : ScrR) (L_s : Hp) (w : World) (hb_s : w.heap[b_s]? = some (Obj.cells (List.toArray (cScr s)) 33 (0, 0))) (o_s : ownScrR s L_s) (h_s : ∀ p, p ∈ L_s → w.heap[p.1]? = some p.2) (hd_ : (b_s :: L_s.map (·.1)).Nodup) (hx : s.OnAlt = false) :
    Calls Tryz.prog 223 #[.pointer (some ⟨b_s, 0, none⟩)] w fun e w' => ∃ r L1, e = .returned (.pointer (some ⟨b_s, 2, none⟩)) ∧ St w (b_s :: L_s.map (·.1)) ([(b_s, Obj.cells (List.toArray (cScr r)) 33 (0, 0))] ++ L1) w' ∧ ownScrR r L1 ∧ r.dat = s.dat := by
 refine enter 13 Tryz.func223 rfl Tryz.ntmps223 rfl rfl ?_
 have hs1 := St.takeP w b_s _ L_s hb_s h_s hd_
 refine WC.r1 hs1 [] rfl ?_
 refine WC.seq (fun K2 hK2 => ?_)
 refine WC.sr ?_
 refine WL.r 1 hs1 [] rfl ?_
 refine WL.val rfl rfl rfl (Run.nilCheck rfl rfl) ?_
 refine WL.r 2 hs1 [0] rfl ?_
 refine WL.nil ?_
 refine WC.cq rfl (fun h3 qh3 => ?_) (fun h3 qh3 => ?_)
 ·exfalso; have h9 := h3; rw [hx] at h9; revert h9; decide
 ·refine WC.skip ?_
  refine hK2 _ _ ?_
  refine WC.sr ?_
  refine WL.r 1 hs1 [] rfl ?_
  refine WL.val rfl rfl rfl (Run.nilCheck rfl rfl) ?_
  refine WL.r 2 hs1 [] rfl ?_
  refine WL.nil ?_
  refine WC.ret ?_
  refine retV1 rfl (resV.tmp rfl) ?_
  refine ⟨s, _, rfl, St.keepP (L1 := L_s) ((hs1.fr L_s).fb b_s), o_s, ?_⟩
  · rfl
theorem c_impl_Scr_shown_alt (b_s : Nat) (s : ScrR) (L_s : Hp) (w : World) (hb_s : w.heap[b_s]? = some (Obj.cells (List.toArray (cScr s)) 33 (0, 0))) (o_s : ownScrR s L_s) (h_s : ∀ p, p ∈ L_s → w.heap[p.1]? = some p.2) (hd_ : (b_s :: L_s.map (·.1)).Nodup) (hx : s.OnAlt = true) :
    Calls Tryz.prog 223 #[.pointer (some ⟨b_s, 0, none⟩)] w fun e w' => ∃ r L1, e = .returned (.pointer (some ⟨b_s, 5, none⟩)) ∧ St w (b_s :: L_s.map (·.1)) ([(b_s, Obj.cells (List.toArray (cScr r)) 33 (0, 0))] ++ L1) w' ∧ ownScrR r L1 ∧ r.dat = s.dat := by
 refine enter 13 Tryz.func223 rfl Tryz.ntmps223 rfl rfl ?_
 have hs1 := St.takeP w b_s _ L_s hb_s h_s hd_
 refine WC.r1 hs1 [] rfl ?_
 refine WC.seq (fun K2 hK2 => ?_)
 refine WC.sr ?_
 refine WL.r 1 hs1 [] rfl ?_
 refine WL.val rfl rfl rfl (Run.nilCheck rfl rfl) ?_
 refine WL.r 2 hs1 [0] rfl ?_
 refine WL.nil ?_
 refine WC.cq rfl (fun h3 qh3 => ?_) (fun h3 qh3 => ?_)
 ·refine WC.sr ?_
  refine WL.r 1 hs1 [] rfl ?_
  refine WL.val rfl rfl rfl (Run.nilCheck rfl rfl) ?_
  refine WL.r 2 hs1 [] rfl ?_
  refine WL.nil ?_
  refine WC.ret ?_
  refine tkR ?_
  clear hK2
  refine retV1 rfl (resV.tmp rfl) ?_
  refine ⟨s, _, rfl, St.keepP (L1 := L_s) ((hs1.fr L_s).fb b_s), o_s, ?_⟩
  · rfl
 ·exfalso; have h9 := h3; rw [hx] at h9; revert h9; decide
end Go.Proofs.YtjmegoiclgancaaGreat
namespace Go.Proofs.YtjmegoiclgancaaGreat
open Go Go.RowKit
set_option linter.unusedVariables false
set_option linter.unusedSimpArgs false
theorem c_slices_Delete_impl_Row_impl_Row (v_s : Value) (s : List RowR) (L_s : Hp) (i : Int) (j : Int) (w : World) (o_s : OwnN encRowR ownRowR 98 v_s s L_s) (h_s : ∀ p, p ∈ L_s → w.heap[p.1]? = some p.2) (hd_ : ((L_s).map (·.1)).Nodup) (hi : i = 0) (hj : 0 < j ∧ j ≤ s.length) (hn : s.length ≤ 549755813888) :
    Calls Tryz.prog 260 #[v_s, i64 i, i64 j] w fun e w' => ∃ A c n xs L1, e = .returned (.slice A n c) ∧ St w (L_s.map (·.1)) L1 w' ∧ OwnN encRowR ownRowR 98 (.slice A n c) xs L1 ∧ xs = s.drop j.toNat := by
 obtain ⟨A_s, c_s, rfl⟩ := o_s.shape
 refine enter 33 Tryz.func260 rfl Tryz.ntmps260 rfl rfl ?_
 have hs1 := St.takes1 w L_s h_s hd_
 refine WC.r1 hs1 [] rfl ?_
 refine WC.sr ?_
 refine WL.r 5 hs1 [] rfl ?_
 have hc_ := OwnN.cap o_s
 refine WL.val rfl rfl rfl (Run.slice3 0 j.toNat s.length Tryz.runUnderlying31 Tryz.sizeOf98 rfl rfl rfl rfl rfl ?_ ?_ ?_ ?_) ?_
 · omega
 · omega
 · rfl
 · omega
 refine WL.nil ?_
 refine WC.seq (fun K2 hK2 => ?_)
 refine WC.r1 hs1 [] rfl ?_
 refine WC.cq rfl (fun h3 qh3 => ?_) (fun h3 qh3 => ?_)
 ·exfalso; omega
 ·refine WC.skip ?_
  refine hK2 _ _ ?_
  refine WC.sr ?_
  obtain ⟨L4, L5, hs8, ho6, ho7⟩ := OwnN.open_ hs1 o_s
  refine WL.r 3 hs8 [] rfl ?_
  refine WL.nil ?_
  refine WC.seq (fun K9 hK9 => ?_)
  refine WC.rH (hs8.rm L4) hs8 (fun _ hs10 => ?_)
  refine WH.rn [0, 1] (hs10.rm L4) [] rfl rfl ?_
  refine WH.take 2 rfl (by kernel_rfl) rfl rfl rfl (hs10.rm L4) (fun w_ hs_ => (Run.sliceH0 0 Tryz.runUnderlying31 Tryz.sizeOf98 rfl rfl rfl ?_ ?_)) ?_
  · exact hi
  · exact Nat.zero_le _
  refine WH.rn [3, 4] (hs10.rm L4) [] rfl rfl ?_
  have hc_ := OwnF.cap ho6
  refine WH.take 5 rfl (by kernel_rfl) rfl rfl rfl (hs10.rm L4) (fun w_ hs_ => (Run.sliceL (j.toNat) Tryz.runUnderlying31 Tryz.sizeOf98 rfl rfl rfl ?_ ?_)) ?_
  · first | rfl | (omega)
  · refine ⟨?_, ?_, ?_⟩ <;> (omega)
  refine WH.o1 6 rfl ?_
  refine WL.appendR hs10 (OwnF.take (k := 0) ho6 (Nat.zero_le _)) (SlF.src (SlF.cutL (j.toNat) (SlF.ofOwn ho6 (hs10.ow L4)) (by refine ⟨?_, ?_, ?_⟩ <;> (omega))) Tryz.underlying31) Tryz.underlying31 info_98 rfl rfl rfl rfl rfl rfl rfl ?_ ?_ (fun L11 whs12 hs12 ho13 => ?_)
  · rw [List.length_drop]; omega
  · omega
  have hdl : 0 + (s.drop j.toNat).length = s.length - j.toNat := by rw [List.length_drop]; omega
  rw [hdl, List.take_zero, List.nil_append] at ho13
  rw [hdl]
  refine WL.nil ⟨(hs12.rm L11), ?_⟩
  refine WH.rn [7] (hs12.rm L11) [] rfl rfl ?_
  refine WH.dn ?_
  refine hK9 _ _ ?_
  refine WC.sr ?_
  refine WL.r 4 hs12 [] rfl ?_
  refine WL.val rfl rfl rfl (Run.sliceT (s.length - j.toNat) s.length Tryz.runUnderlying31 Tryz.sizeOf98 rfl rfl rfl rfl ?_ ?_ ?_) ?_
  · omega
  · omega
  · omega
  refine WL.clearT hs12 ho13 Tryz.underlying31 Tryz.zeroValue98 rfl rfl rfl rfl rfl ?_ (fun L14 whs15 hs15 ho16 => ?_)
  · omega
  refine WL.nil ?_
  refine WC.r1 hs15 [] rfl ?_
  refine WC.ret ?_
  refine retV1 rfl (resV.tmp rfl) ?_
  obtain ⟨L17, hs18, ho19⟩ := OwnN.foldD ((hs15.fr L5).fr L14) ho16 ho7
  exact ⟨_, _, _, _, _, rfl, St.keep1 hs18, ho19, rfl⟩
end Go.Proofs.YtjmegoiclgancaaGreat
namespace Go.Proofs.YtjmegoiclgancaaGreat
open Go Go.RowKit
set_option linter.unusedVariables false
set_option linter.unusedSimpArgs false
theorem c_impl_Scr_keep (b_s : Nat) (s : ScrR) (L_s : Hp) (n : Nat) (w : World) (hb_s : w.heap[b_s]? = some (Obj.cells (List.toArray (cScr s)) 33 (0, 0))) (o_s : ownScrR s L_s) (h_s : ∀ p, p ∈ L_s → w.heap[p.1]? = some p.2) (hd_ : (b_s :: L_s.map (·.1)).Nodup) (hm : gridOk s.Main.dat = true) (hlim : 0 ≤ s.Limit ∧ s.Limit ≤ 1048576) (hb : (s.Back.xs.length : Int) ≤ s.Limit) (hn : (n : Int) ≤ s.Main.H) (hsm : smScr 1048576 s.dat) :
    Calls Tryz.prog 248 #[.pointer (some ⟨b_s, 0, none⟩), .int .i64 n] w fun e w' => ∃ r L1, e = .returned (.tuple #[]) ∧ St w (b_s :: L_s.map (·.1)) ([(b_s, Obj.cells (List.toArray (cScr r)) 33 (0, 0))] ++ L1) w' ∧ ownScrR r L1 ∧ r.dat = keepRows s.dat n := by
 have hsmB : smScr 549755813888 s.dat := smScr_mono hsm (by decide)
 have hgb : (1 ≤ s.Main.W ∧ s.Main.W ≤ 120) ∧ (1 ≤ s.Main.H ∧ s.Main.H ≤ 120) ∧ 1 ≤ s.Main.W * s.Main.H ∧ s.Main.W * s.Main.H ≤ 4000 := gridOk_bnd hm
 have hgl : (s.Main.Cells.xs.length : Int) = s.Main.W * s.Main.H := by have h_ := hm; unfold gridOk at h_; rw [Bool.and_eq_true, Bool.and_eq_true, decide_eq_true_eq] at h_; exact h_.1.2
 refine enter 49 Tryz.func248 rfl Tryz.ntmps248 rfl rfl ?_
 have hs1 := St.takeP w b_s _ L_s hb_s h_s hd_
 refine WC.seq (fun K2 hK2 => ?_)
 refine WC.r1 hs1 [] rfl ?_
 refine WC.block ?_
 have hM7 := (St.grp1 (L1 := L_s) [_] ((hs1.fr L_s).fb b_s))
 refine WC.lV [0, 6] rfl hM7 (fun k_ (a_ : Hp) f => ∃ (i : Nat) (r : ScrR) (L5 : Hp), k_ = n - i ∧ a_ = [(b_s, .cells (List.toArray (cScr r)) 33 (0, 0))] ++ L5 ∧ (i ≤ n) ∧ (r.dat = keepTo s.dat i) ∧ ownScrR r L5 ∧ Sub [(7, .int .i64 i)] f) (((fun (i : Nat) => n - i) (0))) ?_ ?_
 ·refine ⟨0, s, L_s, rfl, rfl, ?_, ?_, o_s, ⟨rfl, trivial⟩⟩
  · omega
  · exact keepTo_zero.symm
 ·rintro _ _ f w ⟨i, r, L5, rfl, rfl, p0, p1, ho6, hG⟩ hF hs8
  refine WC.sub _ (hG.app hF) ?_
  clear hG hF
  replace hs8 := St.ungrp1 [_] hs8
  have hsmr : smScr 549755813888 r.dat := by rw [p1]; exact keepTo_sm (smScr_mono hsm (by decide)) hm (by simp only [ScrR.dat, List.length_map]; omega) (by decide)
  have hrb : r.Back.xs.length = s.Back.xs.length + i := by have h9 := congrArg (fun d : ScrD => d.Back.length) p1; simpa [ScrR.dat, keepTo] using h9
  have hrm : r.Main.dat = s.Main.dat := congrArg ScrD.Main p1
  have hrW : r.Main.W = s.Main.W := congrArg GridD.W hrm
  have hrC : r.Main.Cells.xs = s.Main.Cells.xs := congrArg GridD.Cells hrm
  have hrL : r.Limit = s.Limit := congrArg ScrD.Limit p1
  obtain ⟨⟨hrn1, hrn2⟩, _, _, hrn3, hrn4⟩ := ownScrR.lens ‹ownScrR r _›
  refine WC.r1 hs8 [] rfl ?_
  refine WC.seq (fun K9 hK9 => ?_)
  refine WC.cD rfl (fun qh10 => ?_) (fun qh10 => ?_)
  ·have hv0 : 0 ≤ (i : Int) * r.Main.W := Int.mul_nonneg (by omega) (by omega)
   have hv1 : ((i : Int) + 1) * r.Main.W = (i : Int) * r.Main.W + r.Main.W := by rw [Int.add_mul, Int.one_mul]
   have hv2 : ((i : Int) + 1) * r.Main.W ≤ s.Main.H * s.Main.W := by rw [hrW]; exact Int.mul_le_mul_of_nonneg_right (by omega) (by omega)
   rw [Int.mul_comm s.Main.H] at hv2
   have hrl : r.Main.Cells.xs.length = s.Main.Cells.xs.length := congrArg List.length hrC
   have hrow : (RowD.mk ((r.Main.Cells.xs.drop ((i : Int) * r.Main.W).toNat).take ((((i : Int) + 1) * r.Main.W).toNat - ((i : Int) * r.Main.W).toNat))) = rowAt s.dat.Main i := by
     have e1 : ((i : Int) * r.Main.W).toNat = i * s.Main.W.toNat := by rw [hrW]; exact toNat_mul_nat (by omega)
     have e2 : (((i : Int) + 1) * r.Main.W).toNat - i * s.Main.W.toNat = s.Main.W.toNat := by rw [← e1]; omega
     rw [e1, e2, hrC]; rfl
   refine WC.skip ?_
   refine hK9 _ _ ?_
   refine WC.seq (fun K11 hK11 => ?_)
   refine WC.block ?_
   refine WC.r1 hs8 [] rfl ?_
   refine WC.rG 17 (hs8.d1.rm L5) (hs8.rm L5) hs8 (fun _ hs12 => ?_)
   refine WG.rn [0, 1] (hs12.rm L5) [] rfl rfl ?_
   refine WG.tk 2 rfl (by kernel_rfl) rfl rfl rfl (hs12.rm L5) (fun w_ hs_ => (Run.nilCheck rfl rfl)) ?_
   refine WG.rn [3, 4, 5] (hs12.rm L5) [0] rfl rfl ?_
   refine WG.tk 6 rfl (by kernel_rfl) rfl rfl rfl (hs12.rm L5) (fun w_ hs_ => (Run.nilCheck rfl rfl)) ?_
   refine WG.rn [7, 8, 9] (hs12.rm L5) [0] rfl rfl ?_
   refine WG.o1 10 rfl rfl ?_
   refine WL.cl Tryz.call224 rfl (c_impl_Grid_row r.Main _ _ (ownScrR.ok (B := 549755813888) ho6 (hs12.ow L5) hsmr).Main ?_ ?_ ?_ ?_) ?_
   · first | (first | assumption | rfl | omega) | (first | assumption | omega)
   · first | (first | assumption | rfl | omega) | (first | assumption | omega)
   · first | (first | assumption | rfl | omega) | (first | assumption | omega)
   · first | (first | assumption | rfl | omega) | (first | assumption | omega)
   rintro _ whs13 ⟨rfl, hs13⟩
   replace hs13 := hs12.call0 hs13
   refine ⟨_, rfl, ?_⟩
   refine WL.nil ⟨(hs13.rm L5), ?_⟩
   refine WG.o1 11 rfl rfl ?_
   refine WL.cl Tryz.call208 rfl (c_slices_Clone_impl_Cell_impl_Cell _ _ _ _ _ (SlF.cutC (lo := ((i : Int) * r.Main.W).toNat) (hi := (((i : Int) + 1) * r.Main.W).toNat) (ownScrR.ok (B := 549755813888) ho6 (hs13.ow L5) hsmr).Main.Cells (by refine ⟨?_, ?_, ?_⟩ <;> (omega))) ?_) ?_
   · first | (first | assumption | rfl | omega) | (first | assumption | omega)
   rintro _ whs14 ⟨A15, c16, L1_17, rfl, hs14, ho18⟩
   replace hs14 := hs13.callF hs14
   refine ⟨_, rfl, ?_⟩
   replace hs14 := St.back [_] hs14
   refine WL.nil ⟨((hs14.rm L1_17).rm L5), ?_⟩
   refine WG.tk 12 rfl (by kernel_rfl) rfl rfl rfl ((hs14.rm L1_17).rm L5) (fun w_ hs_ => (Run.build rfl rfl rfl rfl (built_98_0 _ _ _))) ?_
   refine WG.o1 13 rfl rfl ?_
   refine WL.buildSlice hs14 Tryz.runUnderlying31 Tryz.sizeOf98 Tryz.zeroValue98 rfl rfl rfl rfl rfl rfl rfl rfl rfl rfl (fun b19 whs20 hs20 => ?_)
   refine WL.nil ⟨((hs20.d1.rm L1_17).rm L5), ?_⟩
   refine WG.o1 14 rfl rfl ?_
   obtain ⟨L21, L22, L23, L24, hs29, ho25, ho26, ho27, ho28⟩ := ownScrR.open_ (hs20.fr L5) ho6
   have hs30 := ((hs29.fb b_s).fb b19)
   obtain ⟨L31, L32, hs35, ho33, ho34⟩ := OwnN.open_ (hs30.fr L24) ho28
   have hs36 := ((hs35.fb b_s).fb b19)
   refine WL.appendG (hs36.fr L31) ho33 (srcF (F := encRowR) (ys := [(⟨SlD.of ho18⟩ : RowR)]) Tryz.underlying31 rfl rfl (hs36.own _ (nthL_mem (i := 0) rfl)).1) Tryz.underlying31 info_98 rfl rfl rfl rfl rfl rfl rfl rfl rfl rfl ?_ (fun A40 c41 L37 whs38 hs38 ho39 => ?_)
   · simp; omega
   replace hs38 := St.back [_, _] hs38
   obtain ⟨L42, hs43, hb44⟩ := Bag.put (x := (⟨SlD.of ho18⟩ : RowR)) ((hs38.fr L1_17).fr L32) ho34 ho18
   have hs45 := ((hs43.fb b_s).fb b19)
   obtain ⟨L47, hs46, ho48⟩ := OwnN.fold ((hs45.fr L42).fr L37) ho39 hb44
   have hs49 := ((hs46.fb b_s).fb b19)
   refine WL.nil ⟨((((hs49.d1.rm L47).rm L21).rm L22).rm L23), ?_⟩
   refine WG.tk 15 rfl (by kernel_rfl) rfl rfl rfl ((((hs49.d1.rm L47).rm L21).rm L22).rm L23) (fun w_ hs_ => (Run.nilCheck rfl rfl)) ?_
   refine WG.rn [16] ((((hs49.d1.rm L47).rm L21).rm L22).rm L23) [] rfl rfl ?_
   refine WG.oK rfl ?_
   refine WL.st tbk hs49 1 rfl rfl (fun _ hs50 => ?_)
   refine WL.nil ⟨((((hs50.d1.d1.rm L47).rm L21).rm L22).rm L23), ?_⟩
   refine WH.dn ?_
   refine hK11 _ _ ?_
   refine WC.region ?_
   refine WL.r 2 hs50 [] rfl ?_
   refine WL.nil ?_
   refine tkN ?_
   obtain ⟨L52, hs51, ho53⟩ := ownScrR.fl ((((hs50.fr L47).fr L23).fr L22).fr L21) ho25 ho26 ho27 ho48
   have hs54 := ((hs51.fb b_s).fb b19)
   replace hs54 := hs54.d1
   have hF55 := (St.grp1 (L1 := L52) [_] ((hs54.fr L52).fb b_s))
   refine ⟨sbF rfl, _, hF55, _, ?_, i + 1, ⟨r.W, r.H, ⟨r.Main.W, r.Main.H, SlD.of ho25⟩, ⟨r.Alt.W, r.Alt.H, SlD.of ho26⟩, r.OnAlt, r.X, r.Y, r.Wrap, ⟨r.A.Fg, r.A.Bg, r.A.Bold, r.A.Under, r.A.Turn⟩, r.Top, r.Bot, r.NoWrap, r.Hide, r.SaveX, r.SaveY, ⟨r.SaveA.Fg, r.SaveA.Bg, r.SaveA.Bold, r.SaveA.Under, r.SaveA.Turn⟩, SlD.of ho27, r.Limit, SlD.ofN ho48⟩, L52, rfl, rfl, ?_, ?_, (by exact ho53), ⟨rfl, trivial⟩⟩
   · omega
   · omega
   · rw [keepTo_succ (r := ⟨_⟩) hrow, ← p1]; simp only [ScrR.dat, List.map_append, List.map_cons, List.map_nil]; rfl
  ·have hin : i = n := by omega
   rw [hin] at p1
   have hrd : r.dat.Back.length = r.Back.xs.length := List.length_map _
   refine WC.exit ?_
   refine hK2 _ _ ?_
   refine WC.sq1 hs8 ?_
   refine WQ.r 1 [] rfl ?_
   refine WQ.val rfl rfl rfl (fun w_ hs_ => (Run.nilCheck rfl rfl)) ?_
   refine WQ.r 4 [0] rfl ?_
   refine WQ.val rfl rfl rfl (fun w_ hs_ => (Run.nilCheck rfl rfl)) ?_
   refine WQ.r 4 [0] rfl ?_
   refine WQ.nil (fun _ (hs56 : St _ _ _ _) => ?_)
   refine WC.r1 hs56 [] rfl ?_
   refine WC.cD rfl (fun qh57 => ?_) (fun qh57 => ?_)
   ·refine WC.region ?_
    refine WL.r 2 hs56 [] rfl ?_
    refine WL.val rfl rfl rfl (Run.nilCheck rfl rfl) ?_
    refine WL.r 3 hs56 [0] rfl ?_
    obtain ⟨L59, L60, L61, L62, hs67, ho63, ho64, ho65, ho66⟩ := ownScrR.open_ (hs56.fr L5) ho6
    have hs68 := (hs67.fb b_s)
    refine WL.cl Tryz.call260 rfl (c_slices_Delete_impl_Row_impl_Row _ _ _ _ _ _ ho66 (hs68.ow L62) (St.nodupL (hs68.fr L62)) ?_ ?_ ?_) ?_
    · first | (first | assumption | rfl | omega) | (first | assumption | omega)
    · first | (first | assumption | rfl | omega) | (first | assumption | omega)
    · first | (first | assumption | rfl | omega) | (first | assumption | omega)
    rintro _ whs58 ⟨A69, c70, n71, xs72, L1_73, rfl, hs58, ho74, hd75⟩
    replace hs58 := St.lend (hs68.fr L62) hs58
    refine ⟨_, rfl, ?_⟩
    replace hs58 := St.back [_] hs58
    refine WL.val rfl rfl rfl (Run.nilCheck rfl rfl) ?_
    refine WL.r 1 hs58 [] rfl ?_
    refine WL.st tbk hs58 0 rfl rfl (fun _ hs76 => ?_)
    refine WL.nil ?_
    refine retK0 rfl ?_
    obtain ⟨L78, hs77, ho79⟩ := ownScrR.fl ((((hs76.fr L1_73).fr L61).fr L60).fr L59) ho63 ho64 ho65 ho74
    have hs80 := (hs77.fb b_s)
    refine ⟨⟨r.W, r.H, ⟨r.Main.W, r.Main.H, SlD.of ho63⟩, ⟨r.Alt.W, r.Alt.H, SlD.of ho64⟩, r.OnAlt, r.X, r.Y, r.Wrap, ⟨r.A.Fg, r.A.Bg, r.A.Bold, r.A.Under, r.A.Turn⟩, r.Top, r.Bot, r.NoWrap, r.Hide, r.SaveX, r.SaveY, ⟨r.SaveA.Fg, r.SaveA.Bg, r.SaveA.Bold, r.SaveA.Under, r.SaveA.Turn⟩, SlD.of ho65, r.Limit, SlD.ofN ho74⟩, _, rfl, St.keepP (L1 := L78) ((hs80.fr L78).fb b_s), (by exact ho79), ?_⟩
    · refine Eq.trans ?_ (keepTo_drop p1 (k := ((r.Back.n : Int) - r.Limit).toNat) (by show _ = _ - s.Limit.toNat; omega)); simp only [ScrR.dat, hd75, List.map_drop]
   ·refine WC.skip ?_
    refine retK0 rfl ?_
    refine ⟨r, _, rfl, St.keepP (L1 := L5) ((hs56.fr L5).fb b_s), ho6, ?_⟩
    · exact keepTo_all p1 (by show _ ≤ s.Limit.toNat; omega)
end Go.Proofs.YtjmegoiclgancaaGreat
namespace Go.Proofs.YtjmegoiclgancaaGreat
open Go Go.RowKit
set_option linter.unusedVariables false
set_option linter.unusedSimpArgs false
theorem c_impl_Scr_roll_main (b_s : Nat) (s : ScrR) (L_s : Hp) (top : Int) (bot : Int) (n : Int) (w : World) (hb_s : w.heap[b_s]? = some (Obj.cells (List.toArray (cScr s)) 33 (0, 0))) (o_s : ownScrR s L_s) (h_s : ∀ p, p ∈ L_s → w.heap[p.1]? = some p.2) (hd_ : (b_s :: L_s.map (·.1)).Nodup) (hg : gridOk (shownD s.dat) = true) (ht : 0 ≤ top ∧ top ≤ bot ∧ bot < (shownD s.dat).H) (hn : -100000 ≤ n ∧ n ≤ 100000) (hsmB : smScr 549755813888 s.dat) (hx : s.OnAlt = false) :
    Calls Tryz.prog 210 #[.pointer (some ⟨b_s, 0, none⟩), i64 top, i64 bot, i64 n] w fun e w' => ∃ r L1, e = .returned (.tuple #[]) ∧ St w (b_s :: L_s.map (·.1)) ([(b_s, Obj.cells (List.toArray (cScr r)) 33 (0, 0))] ++ L1) w' ∧ ownScrR r L1 ∧ r.dat = rollD s.dat top bot n := by
 refine enter 20 Tryz.func210 rfl Tryz.ntmps210 rfl rfl ?_
 have hs1 := St.takeP w b_s _ L_s hb_s h_s hd_
 refine WC.sr ?_
 refine WL.r 1 hs1 [] rfl ?_
 have hF2 : St _ _ ((_, _) :: (L_s ++ _)) _ := ((hs1.fr L_s).fb b_s)
 refine WL.cl Tryz.call223 rfl (c_impl_Scr_shown_main _ s _ _ (St.headP hF2) o_s (St.ownP hF2) (St.nodupP hF2) ?_) ?_
 · first | (first | assumption | rfl | omega) | (assumption)
 rintro _ whs3 ⟨r4, L5, rfl, hs3, ho6, hd7⟩
 replace hs3 := St.lendP hF2 hs3
 refine ⟨_, rfl, ?_⟩
 have hd2 := hd7
 have hM2 : r4.Main.dat = shownD s.dat := (congrArg ScrD.Main hd2).trans (by unfold shownD; rw [if_neg (show ¬ s.dat.OnAlt = true from by show ¬ s.OnAlt = true; first | exact hx | (rw [hx]; decide))])
 have hg2 : gridOk r4.Main.dat = true := by rw [hM2]; exact hg
 have ht2 : 0 ≤ top ∧ top ≤ bot ∧ bot < r4.Main.H := by have h9 := congrArg GridD.H hM2; simp only [GridR.dat] at h9; rw [h9]; exact ht
 refine WL.r 1 hs3 [] rfl ?_
 refine WL.nil ?_
 refine WC.region ?_
 refine WL.r 2 hs3 [] rfl ?_
 refine WL.val rfl rfl rfl (Run.nilCheck rfl rfl) ?_
 refine WL.r 4 hs3 [0] rfl ?_
 refine WL.cl Tryz.call249 rfl (c_impl_Grid_roll r4.Main _ _ _ _ (ownScrR.ok (B := 549755813888) ho6 (hs3.ow L5) (by rw [hd7]; assumption)).Main ?_ ?_ ?_) ?_
 · first | (first | assumption | rfl | omega) | (assumption)
 · first | (first | assumption | rfl | omega) | (assumption)
 · first | (first | assumption | rfl | omega) | (assumption)
 rintro _ whs8 ⟨r9, L1_10, rfl, hs8, ho11, hd12⟩
 replace hs8 := hs3.callF hs8
 refine ⟨_, rfl, ?_⟩
 replace hs8 := St.back [_] hs8
 have hd3 := hd12
 refine WL.val rfl rfl rfl (Run.nilCheck rfl rfl) ?_
 refine WL.st tbk hs8 0 rfl rfl (fun _ hs13 => ?_)
 refine WL.nil ?_
 refine retK0 rfl ?_
 obtain ⟨L14, L15, L16, L17, hs22, ho18, ho19, ho20, ho21⟩ := ownScrR.open_ (hs13.fr L5) ho6
 have hs23 := (hs22.fb b_s)
 obtain ⟨L25, hs24, ho26⟩ := ownScrR.fl ((((hs23.fr L17).fr L16).fr L15).fr L1_10) ho11 ho19 ho20 ho21
 have hs27 := (hs24.fb b_s)
 refine ⟨⟨r4.W, r4.H, ⟨r9.W, r9.H, SlD.of ho11⟩, ⟨r4.Alt.W, r4.Alt.H, SlD.of ho19⟩, r4.OnAlt, r4.X, r4.Y, r4.Wrap, ⟨r4.A.Fg, r4.A.Bg, r4.A.Bold, r4.A.Under, r4.A.Turn⟩, r4.Top, r4.Bot, r4.NoWrap, r4.Hide, r4.SaveX, r4.SaveY, ⟨r4.SaveA.Fg, r4.SaveA.Bg, r4.SaveA.Bold, r4.SaveA.Under, r4.SaveA.Turn⟩, SlD.of ho20, r4.Limit, SlD.ofN ho21⟩, _, rfl, St.keepP (L1 := L25) ((hs27.fr L25).fb b_s), (by exact ho26), ?_⟩
 · rw [show rollD s.dat top bot n = { s.dat with Main := gRoll (shownD s.dat) top bot n } from by unfold rollD putD; rw [if_neg (show ¬ s.dat.OnAlt = true from by show ¬ s.OnAlt = true; first | exact hx | (rw [hx]; decide))], ← hd2]; exact ScrD.ext' rfl rfl (hd3.trans (by rw [hM2, hd2])) rfl rfl rfl rfl rfl rfl rfl rfl rfl rfl rfl rfl rfl rfl rfl rfl
theorem c_impl_Scr_roll_alt (b_s : Nat) (s : ScrR) (L_s : Hp) (top : Int) (bot : Int) (n : Int) (w : World) (hb_s : w.heap[b_s]? = some (Obj.cells (List.toArray (cScr s)) 33 (0, 0))) (o_s : ownScrR s L_s) (h_s : ∀ p, p ∈ L_s → w.heap[p.1]? = some p.2) (hd_ : (b_s :: L_s.map (·.1)).Nodup) (hg : gridOk (shownD s.dat) = true) (ht : 0 ≤ top ∧ top ≤ bot ∧ bot < (shownD s.dat).H) (hn : -100000 ≤ n ∧ n ≤ 100000) (hsmB : smScr 549755813888 s.dat) (hx : s.OnAlt = true) :
    Calls Tryz.prog 210 #[.pointer (some ⟨b_s, 0, none⟩), i64 top, i64 bot, i64 n] w fun e w' => ∃ r L1, e = .returned (.tuple #[]) ∧ St w (b_s :: L_s.map (·.1)) ([(b_s, Obj.cells (List.toArray (cScr r)) 33 (0, 0))] ++ L1) w' ∧ ownScrR r L1 ∧ r.dat = rollD s.dat top bot n := by
 refine enter 20 Tryz.func210 rfl Tryz.ntmps210 rfl rfl ?_
 have hs1 := St.takeP w b_s _ L_s hb_s h_s hd_
 refine WC.sr ?_
 refine WL.r 1 hs1 [] rfl ?_
 have hF2 : St _ _ ((_, _) :: (L_s ++ _)) _ := ((hs1.fr L_s).fb b_s)
 refine WL.cl Tryz.call223 rfl (c_impl_Scr_shown_alt _ s _ _ (St.headP hF2) o_s (St.ownP hF2) (St.nodupP hF2) ?_) ?_
 · first | (first | assumption | rfl | omega) | (assumption)
 rintro _ whs3 ⟨r4, L5, rfl, hs3, ho6, hd7⟩
 replace hs3 := St.lendP hF2 hs3
 refine ⟨_, rfl, ?_⟩
 have hd2 := hd7
 have hM2 : r4.Alt.dat = shownD s.dat := (congrArg ScrD.Alt hd2).trans (by unfold shownD; rw [if_pos (show  s.dat.OnAlt = true from by show  s.OnAlt = true; first | exact hx | (rw [hx]; decide))])
 have hg2 : gridOk r4.Alt.dat = true := by rw [hM2]; exact hg
 have ht2 : 0 ≤ top ∧ top ≤ bot ∧ bot < r4.Alt.H := by have h9 := congrArg GridD.H hM2; simp only [GridR.dat] at h9; rw [h9]; exact ht
 refine WL.r 1 hs3 [] rfl ?_
 refine WL.nil ?_
 refine WC.region ?_
 refine WL.r 2 hs3 [] rfl ?_
 refine WL.val rfl rfl rfl (Run.nilCheck rfl rfl) ?_
 refine WL.r 4 hs3 [0] rfl ?_
 refine WL.cl Tryz.call249 rfl (c_impl_Grid_roll r4.Alt _ _ _ _ (ownScrR.ok (B := 549755813888) ho6 (hs3.ow L5) (by rw [hd7]; assumption)).Alt ?_ ?_ ?_) ?_
 · first | (first | assumption | rfl | omega) | (assumption)
 · first | (first | assumption | rfl | omega) | (assumption)
 · first | (first | assumption | rfl | omega) | (assumption)
 rintro _ whs8 ⟨r9, L1_10, rfl, hs8, ho11, hd12⟩
 replace hs8 := hs3.callF hs8
 refine ⟨_, rfl, ?_⟩
 replace hs8 := St.back [_] hs8
 have hd3 := hd12
 refine WL.val rfl rfl rfl (Run.nilCheck rfl rfl) ?_
 refine WL.st tbk hs8 0 rfl rfl (fun _ hs13 => ?_)
 refine WL.nil ?_
 refine retK0 rfl ?_
 obtain ⟨L14, L15, L16, L17, hs22, ho18, ho19, ho20, ho21⟩ := ownScrR.open_ (hs13.fr L5) ho6
 have hs23 := (hs22.fb b_s)
 obtain ⟨L25, hs24, ho26⟩ := ownScrR.fl ((((hs23.fr L17).fr L16).fr L1_10).fr L14) ho18 ho11 ho20 ho21
 have hs27 := (hs24.fb b_s)
 refine ⟨⟨r4.W, r4.H, ⟨r4.Main.W, r4.Main.H, SlD.of ho18⟩, ⟨r9.W, r9.H, SlD.of ho11⟩, r4.OnAlt, r4.X, r4.Y, r4.Wrap, ⟨r4.A.Fg, r4.A.Bg, r4.A.Bold, r4.A.Under, r4.A.Turn⟩, r4.Top, r4.Bot, r4.NoWrap, r4.Hide, r4.SaveX, r4.SaveY, ⟨r4.SaveA.Fg, r4.SaveA.Bg, r4.SaveA.Bold, r4.SaveA.Under, r4.SaveA.Turn⟩, SlD.of ho20, r4.Limit, SlD.ofN ho21⟩, _, rfl, St.keepP (L1 := L25) ((hs27.fr L25).fb b_s), (by exact ho26), ?_⟩
 · rw [show rollD s.dat top bot n = { s.dat with Alt := gRoll (shownD s.dat) top bot n } from by unfold rollD putD; rw [if_pos (show  s.dat.OnAlt = true from by show  s.OnAlt = true; first | exact hx | (rw [hx]; decide))], ← hd2]; exact ScrD.ext' rfl rfl rfl (hd3.trans (by rw [hM2, hd2])) rfl rfl rfl rfl rfl rfl rfl rfl rfl rfl rfl rfl rfl rfl rfl
theorem c_impl_Scr_roll (b_s : Nat) (s : ScrR) (L_s : Hp) (top : Int) (bot : Int) (n : Int) (w : World) (hb_s : w.heap[b_s]? = some (Obj.cells (List.toArray (cScr s)) 33 (0, 0))) (o_s : ownScrR s L_s) (h_s : ∀ p, p ∈ L_s → w.heap[p.1]? = some p.2) (hd_ : (b_s :: L_s.map (·.1)).Nodup) (hg : gridOk (shownD s.dat) = true) (ht : 0 ≤ top ∧ top ≤ bot ∧ bot < (shownD s.dat).H) (hn : -100000 ≤ n ∧ n ≤ 100000) (hsmB : smScr 549755813888 s.dat) :
    Calls Tryz.prog 210 #[.pointer (some ⟨b_s, 0, none⟩), i64 top, i64 bot, i64 n] w fun e w' => ∃ r L1, e = .returned (.tuple #[]) ∧ St w (b_s :: L_s.map (·.1)) ([(b_s, Obj.cells (List.toArray (cScr r)) 33 (0, 0))] ++ L1) w' ∧ ownScrR r L1 ∧ r.dat = rollD s.dat top bot n := by
 rcases Bool.eq_false_or_eq_true s.OnAlt with hx_ | hx_
 · exact c_impl_Scr_roll_alt b_s s L_s top bot n w hb_s o_s h_s hd_ hg ht hn hsmB hx_
 · exact c_impl_Scr_roll_main b_s s L_s top bot n w hb_s o_s h_s hd_ hg ht hn hsmB hx_
theorem c_impl_Scr_rollUp (b_s : Nat) (s : ScrR) (L_s : Hp) (n : Int) (w : World) (hb_s : w.heap[b_s]? = some (Obj.cells (List.toArray (cScr s)) 33 (0, 0))) (o_s : ownScrR s L_s) (h_s : ∀ p, p ∈ L_s → w.heap[p.1]? = some p.2) (hd_ : (b_s :: L_s.map (·.1)).Nodup) (hf : ScrFine s.dat) (hn : 0 ≤ n ∧ n ≤ 100000) (hsm : smScr 1048576 s.dat) :
    Calls Tryz.prog 209 #[.pointer (some ⟨b_s, 0, none⟩), i64 n] w fun e w' => ∃ r L1, e = .returned (.tuple #[]) ∧ St w (b_s :: L_s.map (·.1)) ([(b_s, Obj.cells (List.toArray (cScr r)) 33 (0, 0))] ++ L1) w' ∧ ownScrR r L1 ∧ r.dat = rollUpD s.dat n := by
 have hsmB : smScr 549755813888 s.dat := by first | assumption | exact smScr_mono hsm (by decide)
 have hok9 := hf.ok
 obtain ⟨hb1, hb2, hb3, hb4, hb5, hb6⟩ := scrOk_bnd hok9
 obtain ⟨hm, hma⟩ := scrOk_main hok9
 simp only [ScrR.dat, GridR.dat, List.length_map] at hb1 hb2 hb3 hb4 hb5 hb6
 have hgs0 : gridOk (shownD s.dat) = true := hf.shown.1
 have hts0 : 0 ≤ s.Top ∧ s.Top ≤ s.Bot ∧ s.Bot < (shownD s.dat).H := by rw [hf.shown.2.2]; exact ⟨hf.reg.1.1, hf.reg.1.2, hf.reg.2.1⟩
 refine enter 36 Tryz.func209 rfl Tryz.ntmps209 rfl rfl ?_
 have hs1 := St.takeP w b_s _ L_s hb_s h_s hd_
 refine WC.seq (fun K2 hK2 => ?_)
 refine WC.sr ?_
 refine WL.r 1 hs1 [] rfl ?_
 refine WL.val rfl rfl rfl (Run.nilCheck rfl rfl) ?_
 refine WL.r 4 hs1 [0] rfl ?_
 apply WL.gA 5 Acts.nil hs1 rfl
 ·intro g3 J4
  have qg3 := g3
  try simp only [bf, within_iff, within_not] at qg3
  refine WL.runA tbk 1 (Acts.nil.cons (j := 5) rfl g3) hs1 [] rfl trivial ?_
  refine WL.val (wantT rfl g3) rfl rfl (Run.nilCheck rfl rfl) ?_
  refine WL.runA tbk 3 (Acts.nil.cons (j := 5) rfl g3) hs1 [0] rfl ⟨rfl, trivial⟩ ?_
  exact WL.eA 5 Acts.nil J4 hs1 g3 rfl rfl
 ·intro _ hs5
  refine WL.nil ?_
  refine WC.cq rfl (fun h6 qh6 => ?_) (fun h6 qh6 => ?_)
  ·have hk : keepD s.dat n = keepRows s.dat (min n (s.Bot + 1)).toNat := by unfold keepD; rw [if_pos (by show s.OnAlt = false ∧ s.Top = 0; have h9 := h6; simpa using h9)]; rfl
   refine WC.region ?_
   refine WL.r 3 hs5 [] rfl ?_
   refine WL.val rfl rfl rfl (Run.nilCheck rfl rfl) ?_
   refine WL.r 3 hs5 [0] rfl ?_
   refine WL.val rfl rfl rfl (Run.asN ((min n (s.Bot + 1)).toNat) (Run.min rfl rfl rfl) ?_) ?_
   · omega
   have hF7 : St _ _ ((_, _) :: (L_s ++ _)) _ := ((hs5.fr L_s).fb b_s)
   refine WL.cl Tryz.call248 rfl (c_impl_Scr_keep _ s _ _ _ (St.headP hF7) o_s (St.ownP hF7) (St.nodupP hF7) ?_ ?_ ?_ ?_ ?_) ?_
   · first | (first | assumption | rfl | omega) | (first | assumption | omega)
   · first | (first | assumption | rfl | omega) | (first | assumption | omega)
   · first | (first | assumption | rfl | omega) | (first | assumption | omega)
   · first | (first | assumption | rfl | omega) | (first | assumption | omega)
   · first | (first | assumption | rfl | omega) | (first | assumption | omega)
   rintro _ whs8 ⟨r9, L10, rfl, hs8, ho11, hd12⟩
   replace hs8 := St.lendP hF7 hs8
   refine ⟨_, rfl, ?_⟩
   have hkr : r9.dat = keepD s.dat n := hd12.trans hk.symm
   have hfr : ScrFine r9.dat := by rw [hkr]; exact hf.keep
   have hsr : smScr 549755813888 r9.dat := by rw [hd12]; exact keepRows_sm hsmB hm (by decide) (by show s.Limit.toNat ≤ _; omega)
   have hgs : gridOk (shownD r9.dat) = true := hfr.shown.1
   have hts : 0 ≤ r9.Top ∧ r9.Top ≤ r9.Bot ∧ r9.Bot < (shownD r9.dat).H := by rw [hfr.shown.2.2]; exact ⟨hfr.reg.1.1, hfr.reg.1.2, hfr.reg.2.1⟩
   have hrT : r9.Top = s.Top := (congrArg ScrD.Top hkr).trans keepD_eqs.2.1
   have hrB : r9.Bot = s.Bot := (congrArg ScrD.Bot hkr).trans keepD_eqs.2.2.1
   refine WL.nil ?_
   refine hK2 _ _ ?_
   refine WC.rH (hs8.d1.rm L10) hs8 (fun _ hs13 => ?_)
   refine WH.rn [0, 1] (hs13.d1.rm L10) [] rfl rfl ?_
   refine WH.take 2 rfl (by kernel_rfl) rfl rfl rfl (hs13.d1.rm L10) (fun w_ hs_ => (Run.nilCheck rfl rfl)) ?_
   refine WH.rn [3, 5] (hs13.d1.rm L10) [] rfl rfl ?_
   refine WH.take 6 rfl (by kernel_rfl) rfl rfl rfl (hs13.d1.rm L10) (fun w_ hs_ => (Run.nilCheck rfl rfl)) ?_
   refine WH.rn [7, 9] (hs13.d1.rm L10) [] rfl rfl ?_
   refine WH.all [4, 8] (by kernel_rfl) rfl (WHs.cons (i := 4) rfl ?_ (WHs.cons (i := 8) rfl ?_ WHs.nil))
   ·refine WL.r 1 hs13 [0] rfl ?_
    refine WL.nil ⟨(hs13.d1.rm L10), ?_⟩
    refine WH.o1 8 rfl ?_
    refine WL.r 1 hs13 [0] rfl ?_
    refine WL.nil ⟨(hs13.d1.rm L10), ?_⟩
    refine WH.o1 10 rfl ?_
    have hF14 : St _ _ ((_, _) :: (L10 ++ _)) _ := ((hs13.fr L10).fb b_s)
    refine WL.cl Tryz.call210 rfl (c_impl_Scr_roll _ r9 _ _ _ _ _ (St.headP hF14) ho11 (St.ownP hF14) (St.nodupP hF14) ?_ ?_ ?_ ?_) ?_
    · first | (first | assumption | rfl | omega) | (first | assumption | omega)
    · first | (first | assumption | rfl | omega) | (first | assumption | omega)
    · first | (first | assumption | rfl | omega) | (first | assumption | omega)
    · first | (first | assumption | rfl | omega) | (first | assumption | omega)
    rintro _ whs15 ⟨r16, L17, rfl, hs15, ho18, hd19⟩
    replace hs15 := St.lendP hF14 hs15
    refine ⟨_, rfl, ?_⟩
    refine WL.nil ⟨(hs15.d1.rm L17), ?_⟩
    refine WH.dn ?_
    refine retK0 rfl ?_
    refine ⟨r16, _, rfl, St.keepP (L1 := L17) ((hs15.fr L17).fb b_s), ho18, ?_⟩
    · refine hd19.trans ?_; unfold rollUpD; first | (rw [hkr, hrT, hrB]; rfl) | (rw [hk]; rfl)
   ·refine WL.r 1 hs13 [0] rfl ?_
    refine WL.nil ⟨(hs13.d1.rm L10), ?_⟩
    refine WH.o1 4 rfl ?_
    refine WL.r 1 hs13 [0] rfl ?_
    refine WL.nil ⟨(hs13.d1.rm L10), ?_⟩
    refine WH.o1 10 rfl ?_
    have hF20 : St _ _ ((_, _) :: (L10 ++ _)) _ := ((hs13.fr L10).fb b_s)
    refine WL.cl Tryz.call210 rfl (c_impl_Scr_roll _ r9 _ _ _ _ _ (St.headP hF20) ho11 (St.ownP hF20) (St.nodupP hF20) ?_ ?_ ?_ ?_) ?_
    · first | (first | assumption | rfl | omega) | (first | assumption | omega)
    · first | (first | assumption | rfl | omega) | (first | assumption | omega)
    · first | (first | assumption | rfl | omega) | (first | assumption | omega)
    · first | (first | assumption | rfl | omega) | (first | assumption | omega)
    rintro _ whs21 ⟨r22, L23, rfl, hs21, ho24, hd25⟩
    replace hs21 := St.lendP hF20 hs21
    refine ⟨_, rfl, ?_⟩
    refine WL.nil ⟨(hs21.d1.rm L23), ?_⟩
    refine WH.dn ?_
    refine retK0 rfl ?_
    refine ⟨r22, _, rfl, St.keepP (L1 := L23) ((hs21.fr L23).fb b_s), ho24, ?_⟩
    · refine hd25.trans ?_; unfold rollUpD; first | (rw [hkr, hrT, hrB]; rfl) | (rw [hk]; rfl)
  ·have hk : keepD s.dat n = s.dat := by unfold keepD; rw [if_neg (by show ¬ (s.OnAlt = false ∧ s.Top = 0); have h9 := h6; simpa using h9)]
   refine WC.skip ?_
   refine hK2 _ _ ?_
   refine WC.rH (hs5.d1.rm L_s) hs5 (fun _ hs26 => ?_)
   refine WH.rn [0, 1] (hs26.d1.rm L_s) [] rfl rfl ?_
   refine WH.take 2 rfl (by kernel_rfl) rfl rfl rfl (hs26.d1.rm L_s) (fun w_ hs_ => (Run.nilCheck rfl rfl)) ?_
   refine WH.rn [3, 5] (hs26.d1.rm L_s) [] rfl rfl ?_
   refine WH.take 6 rfl (by kernel_rfl) rfl rfl rfl (hs26.d1.rm L_s) (fun w_ hs_ => (Run.nilCheck rfl rfl)) ?_
   refine WH.rn [7, 9] (hs26.d1.rm L_s) [] rfl rfl ?_
   refine WH.all [4, 8] (by kernel_rfl) rfl (WHs.cons (i := 4) rfl ?_ (WHs.cons (i := 8) rfl ?_ WHs.nil))
   ·refine WL.r 1 hs26 [0] rfl ?_
    refine WL.nil ⟨(hs26.d1.rm L_s), ?_⟩
    refine WH.o1 8 rfl ?_
    refine WL.r 1 hs26 [0] rfl ?_
    refine WL.nil ⟨(hs26.d1.rm L_s), ?_⟩
    refine WH.o1 10 rfl ?_
    have hF27 : St _ _ ((_, _) :: (L_s ++ _)) _ := ((hs26.fr L_s).fb b_s)
    refine WL.cl Tryz.call210 rfl (c_impl_Scr_roll _ s _ _ _ _ _ (St.headP hF27) o_s (St.ownP hF27) (St.nodupP hF27) ?_ ?_ ?_ ?_) ?_
    · first | (first | assumption | rfl | omega) | (first | assumption | omega)
    · first | (first | assumption | rfl | omega) | (first | assumption | omega)
    · first | (first | assumption | rfl | omega) | (first | assumption | omega)
    · first | (first | assumption | rfl | omega) | (first | assumption | omega)
    rintro _ whs28 ⟨r29, L30, rfl, hs28, ho31, hd32⟩
    replace hs28 := St.lendP hF27 hs28
    refine ⟨_, rfl, ?_⟩
    refine WL.nil ⟨(hs28.d1.rm L30), ?_⟩
    refine WH.dn ?_
    refine retK0 rfl ?_
    refine ⟨r29, _, rfl, St.keepP (L1 := L30) ((hs28.fr L30).fb b_s), ho31, ?_⟩
    · refine hd32.trans ?_; unfold rollUpD; first | (rw [hkr, hrT, hrB]; rfl) | (rw [hk]; rfl)
   ·refine WL.r 1 hs26 [0] rfl ?_
    refine WL.nil ⟨(hs26.d1.rm L_s), ?_⟩
    refine WH.o1 4 rfl ?_
    refine WL.r 1 hs26 [0] rfl ?_
    refine WL.nil ⟨(hs26.d1.rm L_s), ?_⟩
    refine WH.o1 10 rfl ?_
    have hF33 : St _ _ ((_, _) :: (L_s ++ _)) _ := ((hs26.fr L_s).fb b_s)
    refine WL.cl Tryz.call210 rfl (c_impl_Scr_roll _ s _ _ _ _ _ (St.headP hF33) o_s (St.ownP hF33) (St.nodupP hF33) ?_ ?_ ?_ ?_) ?_
    · first | (first | assumption | rfl | omega) | (first | assumption | omega)
    · first | (first | assumption | rfl | omega) | (first | assumption | omega)
    · first | (first | assumption | rfl | omega) | (first | assumption | omega)
    · first | (first | assumption | rfl | omega) | (first | assumption | omega)
    rintro _ whs34 ⟨r35, L36, rfl, hs34, ho37, hd38⟩
    replace hs34 := St.lendP hF33 hs34
    refine ⟨_, rfl, ?_⟩
    refine WL.nil ⟨(hs34.d1.rm L36), ?_⟩
    refine WH.dn ?_
    refine retK0 rfl ?_
    refine ⟨r35, _, rfl, St.keepP (L1 := L36) ((hs34.fr L36).fb b_s), ho37, ?_⟩
    · refine hd38.trans ?_; unfold rollUpD; first | (rw [hkr, hrT, hrB]; rfl) | (rw [hk]; rfl)
theorem c_impl_Scr_save (b_s : Nat) (s : ScrR) (L_s : Hp) (w : World) (hb_s : w.heap[b_s]? = some (Obj.cells (List.toArray (cScr s)) 33 (0, 0))) (o_s : ownScrR s L_s) (h_s : ∀ p, p ∈ L_s → w.heap[p.1]? = some p.2) (hd_ : (b_s :: L_s.map (·.1)).Nodup) (hsm : smScr 549755813888 s.dat) :
    Calls Tryz.prog 153 #[.pointer (some ⟨b_s, 0, none⟩)] w fun e w' => ∃ r L1, e = .returned (.tuple #[]) ∧ St w (b_s :: L_s.map (·.1)) ([(b_s, Obj.cells (List.toArray (cScr r)) 33 (0, 0))] ++ L1) w' ∧ ownScrR r L1 ∧ r.dat = saveD s.dat := by
 refine enter 23 Tryz.func153 rfl Tryz.ntmps153 rfl rfl ?_
 have hs1 := St.takeP w b_s _ L_s hb_s h_s hd_
 refine WC.rH hs1.d1 hs1 (fun _ hs2 => ?_)
 refine WH.rn [0, 1, 2, 3] hs2.d1 [] rfl rfl ?_
 refine WH.take 4 rfl (by kernel_rfl) rfl rfl rfl hs2.d1 (fun w_ hs_ => (Run.nilCheck rfl rfl)) ?_
 refine WH.rn [5, 7] hs2.d1 [] rfl rfl ?_
 refine WH.take 8 rfl (by kernel_rfl) rfl rfl rfl hs2.d1 (fun w_ hs_ => (Run.nilCheck rfl rfl)) ?_
 refine WH.rn [9, 11] hs2.d1 [] rfl rfl ?_
 refine WH.take 12 rfl (by kernel_rfl) rfl rfl rfl hs2.d1 (fun w_ hs_ => (Run.nilCheck rfl rfl)) ?_
 refine WH.rn [13] hs2.d1 [] rfl rfl ?_
 refine WH.all [6, 10, 14] (by kernel_rfl) rfl (WHs.cons (i := 6) rfl ?_ (WHs.cons (i := 10) rfl ?_ (WHs.cons (i := 14) rfl ?_ WHs.nil)))
 ·refine WL.r 1 hs2 [0] rfl ?_
  refine WL.nil ⟨hs2.d1, ?_⟩
  refine WH.all [10, 14] (by kernel_rfl) rfl (WHs.cons (i := 10) rfl ?_ (WHs.cons (i := 14) rfl ?_ WHs.nil))
  ·refine WL.r 1 hs2 [0] rfl ?_
   refine WL.nil ⟨hs2.d1, ?_⟩
   refine WH.o1 14 rfl ?_
   refine WL.r 1 hs2 [0] rfl ?_
   refine WL.nil ⟨hs2.d1, ?_⟩
   refine WH.take 15 rfl (by kernel_rfl) rfl rfl rfl hs2.d1 (fun w_ hs_ => (Run.nilCheck rfl rfl)) ?_
   refine WH.rn [16] hs2.d1 [] rfl rfl ?_
   refine WH.o1 17 rfl ?_
   refine WL.st tbk hs2 0 rfl rfl (fun _ hs3 => ?_)
   refine WL.nil ⟨hs3.d1, ?_⟩
   refine WH.take 18 rfl (by kernel_rfl) rfl rfl rfl hs3.d1 (fun w_ hs_ => (Run.nilCheck rfl rfl)) ?_
   refine WH.rn [19] hs3.d1 [] rfl rfl ?_
   refine WH.o1 20 rfl ?_
   refine WL.st tbk hs3 0 rfl rfl (fun _ hs4 => ?_)
   refine WL.nil ⟨hs4.d1, ?_⟩
   refine WH.take 21 rfl (by kernel_rfl) rfl rfl rfl hs4.d1 (fun w_ hs_ => (Run.nilCheck rfl rfl)) ?_
   refine WH.rn [22] hs4.d1 [] rfl rfl ?_
   refine WH.o1 23 rfl ?_
   refine WL.st tbk hs4 0 rfl rfl (fun _ hs5 => ?_)
   refine WL.nil ⟨hs5.d1, ?_⟩
   refine WH.dn ?_
   refine retK0 rfl ?_
   obtain ⟨L6, L7, L8, L9, hs14, ho10, ho11, ho12, ho13⟩ := ownScrR.open_ (hs5.fr L_s) o_s
   have hs15 := (hs14.fb b_s)
   obtain ⟨L17, hs16, ho18⟩ := ownScrR.fl ((((hs15.fr L9).fr L8).fr L7).fr L6) ho10 ho11 ho12 ho13
   have hs19 := (hs16.fb b_s)
   refine ⟨⟨s.W, s.H, ⟨s.Main.W, s.Main.H, SlD.of ho10⟩, ⟨s.Alt.W, s.Alt.H, SlD.of ho11⟩, s.OnAlt, s.X, s.Y, s.Wrap, ⟨s.A.Fg, s.A.Bg, s.A.Bold, s.A.Under, s.A.Turn⟩, s.Top, s.Bot, s.NoWrap, s.Hide, s.X, s.Y, ⟨s.A.Fg, s.A.Bg, s.A.Bold, s.A.Under, s.A.Turn⟩, SlD.of ho12, s.Limit, SlD.ofN ho13⟩, _, rfl, St.keepP (L1 := L17) ((hs19.fr L17).fb b_s), (by exact ho18), ?_⟩
   · rfl
  ·refine WL.r 1 hs2 [0] rfl ?_
   refine WL.nil ⟨hs2.d1, ?_⟩
   refine WH.o1 10 rfl ?_
   refine WL.r 1 hs2 [0] rfl ?_
   refine WL.nil ⟨hs2.d1, ?_⟩
   refine WH.take 15 rfl (by kernel_rfl) rfl rfl rfl hs2.d1 (fun w_ hs_ => (Run.nilCheck rfl rfl)) ?_
   refine WH.rn [16] hs2.d1 [] rfl rfl ?_
   refine WH.o1 17 rfl ?_
   refine WL.st tbk hs2 0 rfl rfl (fun _ hs20 => ?_)
   refine WL.nil ⟨hs20.d1, ?_⟩
   refine WH.take 18 rfl (by kernel_rfl) rfl rfl rfl hs20.d1 (fun w_ hs_ => (Run.nilCheck rfl rfl)) ?_
   refine WH.rn [19] hs20.d1 [] rfl rfl ?_
   refine WH.o1 20 rfl ?_
   refine WL.st tbk hs20 0 rfl rfl (fun _ hs21 => ?_)
   refine WL.nil ⟨hs21.d1, ?_⟩
   refine WH.take 21 rfl (by kernel_rfl) rfl rfl rfl hs21.d1 (fun w_ hs_ => (Run.nilCheck rfl rfl)) ?_
   refine WH.rn [22] hs21.d1 [] rfl rfl ?_
   refine WH.o1 23 rfl ?_
   refine WL.st tbk hs21 0 rfl rfl (fun _ hs22 => ?_)
   refine WL.nil ⟨hs22.d1, ?_⟩
   refine WH.dn ?_
   refine retK0 rfl ?_
   obtain ⟨L23, L24, L25, L26, hs31, ho27, ho28, ho29, ho30⟩ := ownScrR.open_ (hs22.fr L_s) o_s
   have hs32 := (hs31.fb b_s)
   obtain ⟨L34, hs33, ho35⟩ := ownScrR.fl ((((hs32.fr L26).fr L25).fr L24).fr L23) ho27 ho28 ho29 ho30
   have hs36 := (hs33.fb b_s)
   refine ⟨⟨s.W, s.H, ⟨s.Main.W, s.Main.H, SlD.of ho27⟩, ⟨s.Alt.W, s.Alt.H, SlD.of ho28⟩, s.OnAlt, s.X, s.Y, s.Wrap, ⟨s.A.Fg, s.A.Bg, s.A.Bold, s.A.Under, s.A.Turn⟩, s.Top, s.Bot, s.NoWrap, s.Hide, s.X, s.Y, ⟨s.A.Fg, s.A.Bg, s.A.Bold, s.A.Under, s.A.Turn⟩, SlD.of ho29, s.Limit, SlD.ofN ho30⟩, _, rfl, St.keepP (L1 := L34) ((hs36.fr L34).fb b_s), (by exact ho35), ?_⟩
   · rfl
 ·refine WL.r 1 hs2 [0] rfl ?_
  refine WL.nil ⟨hs2.d1, ?_⟩
  refine WH.all [6, 14] (by kernel_rfl) rfl (WHs.cons (i := 6) rfl ?_ (WHs.cons (i := 14) rfl ?_ WHs.nil))
  ·refine WL.r 1 hs2 [0] rfl ?_
   refine WL.nil ⟨hs2.d1, ?_⟩
   refine WH.o1 14 rfl ?_
   refine WL.r 1 hs2 [0] rfl ?_
   refine WL.nil ⟨hs2.d1, ?_⟩
   refine WH.take 15 rfl (by kernel_rfl) rfl rfl rfl hs2.d1 (fun w_ hs_ => (Run.nilCheck rfl rfl)) ?_
   refine WH.rn [16] hs2.d1 [] rfl rfl ?_
   refine WH.o1 17 rfl ?_
   refine WL.st tbk hs2 0 rfl rfl (fun _ hs37 => ?_)
   refine WL.nil ⟨hs37.d1, ?_⟩
   refine WH.take 18 rfl (by kernel_rfl) rfl rfl rfl hs37.d1 (fun w_ hs_ => (Run.nilCheck rfl rfl)) ?_
   refine WH.rn [19] hs37.d1 [] rfl rfl ?_
   refine WH.o1 20 rfl ?_
   refine WL.st tbk hs37 0 rfl rfl (fun _ hs38 => ?_)
   refine WL.nil ⟨hs38.d1, ?_⟩
   refine WH.take 21 rfl (by kernel_rfl) rfl rfl rfl hs38.d1 (fun w_ hs_ => (Run.nilCheck rfl rfl)) ?_
   refine WH.rn [22] hs38.d1 [] rfl rfl ?_
   refine WH.o1 23 rfl ?_
   refine WL.st tbk hs38 0 rfl rfl (fun _ hs39 => ?_)
   refine WL.nil ⟨hs39.d1, ?_⟩
   refine WH.dn ?_
   refine retK0 rfl ?_
   obtain ⟨L40, L41, L42, L43, hs48, ho44, ho45, ho46, ho47⟩ := ownScrR.open_ (hs39.fr L_s) o_s
   have hs49 := (hs48.fb b_s)
   obtain ⟨L51, hs50, ho52⟩ := ownScrR.fl ((((hs49.fr L43).fr L42).fr L41).fr L40) ho44 ho45 ho46 ho47
   have hs53 := (hs50.fb b_s)
   refine ⟨⟨s.W, s.H, ⟨s.Main.W, s.Main.H, SlD.of ho44⟩, ⟨s.Alt.W, s.Alt.H, SlD.of ho45⟩, s.OnAlt, s.X, s.Y, s.Wrap, ⟨s.A.Fg, s.A.Bg, s.A.Bold, s.A.Under, s.A.Turn⟩, s.Top, s.Bot, s.NoWrap, s.Hide, s.X, s.Y, ⟨s.A.Fg, s.A.Bg, s.A.Bold, s.A.Under, s.A.Turn⟩, SlD.of ho46, s.Limit, SlD.ofN ho47⟩, _, rfl, St.keepP (L1 := L51) ((hs53.fr L51).fb b_s), (by exact ho52), ?_⟩
   · rfl
  ·refine WL.r 1 hs2 [0] rfl ?_
   refine WL.nil ⟨hs2.d1, ?_⟩
   refine WH.o1 6 rfl ?_
   refine WL.r 1 hs2 [0] rfl ?_
   refine WL.nil ⟨hs2.d1, ?_⟩
   refine WH.take 15 rfl (by kernel_rfl) rfl rfl rfl hs2.d1 (fun w_ hs_ => (Run.nilCheck rfl rfl)) ?_
   refine WH.rn [16] hs2.d1 [] rfl rfl ?_
   refine WH.o1 17 rfl ?_
   refine WL.st tbk hs2 0 rfl rfl (fun _ hs54 => ?_)
   refine WL.nil ⟨hs54.d1, ?_⟩
   refine WH.take 18 rfl (by kernel_rfl) rfl rfl rfl hs54.d1 (fun w_ hs_ => (Run.nilCheck rfl rfl)) ?_
   refine WH.rn [19] hs54.d1 [] rfl rfl ?_
   refine WH.o1 20 rfl ?_
   refine WL.st tbk hs54 0 rfl rfl (fun _ hs55 => ?_)
   refine WL.nil ⟨hs55.d1, ?_⟩
   refine WH.take 21 rfl (by kernel_rfl) rfl rfl rfl hs55.d1 (fun w_ hs_ => (Run.nilCheck rfl rfl)) ?_
   refine WH.rn [22] hs55.d1 [] rfl rfl ?_
   refine WH.o1 23 rfl ?_
   refine WL.st tbk hs55 0 rfl rfl (fun _ hs56 => ?_)
   refine WL.nil ⟨hs56.d1, ?_⟩
   refine WH.dn ?_
   refine retK0 rfl ?_
   obtain ⟨L57, L58, L59, L60, hs65, ho61, ho62, ho63, ho64⟩ := ownScrR.open_ (hs56.fr L_s) o_s
   have hs66 := (hs65.fb b_s)
   obtain ⟨L68, hs67, ho69⟩ := ownScrR.fl ((((hs66.fr L60).fr L59).fr L58).fr L57) ho61 ho62 ho63 ho64
   have hs70 := (hs67.fb b_s)
   refine ⟨⟨s.W, s.H, ⟨s.Main.W, s.Main.H, SlD.of ho61⟩, ⟨s.Alt.W, s.Alt.H, SlD.of ho62⟩, s.OnAlt, s.X, s.Y, s.Wrap, ⟨s.A.Fg, s.A.Bg, s.A.Bold, s.A.Under, s.A.Turn⟩, s.Top, s.Bot, s.NoWrap, s.Hide, s.X, s.Y, ⟨s.A.Fg, s.A.Bg, s.A.Bold, s.A.Under, s.A.Turn⟩, SlD.of ho63, s.Limit, SlD.ofN ho64⟩, _, rfl, St.keepP (L1 := L68) ((hs70.fr L68).fb b_s), (by exact ho69), ?_⟩
   · rfl
 ·refine WL.r 1 hs2 [0] rfl ?_
  refine WL.nil ⟨hs2.d1, ?_⟩
  refine WH.all [6, 10] (by kernel_rfl) rfl (WHs.cons (i := 6) rfl ?_ (WHs.cons (i := 10) rfl ?_ WHs.nil))
  ·refine WL.r 1 hs2 [0] rfl ?_
   refine WL.nil ⟨hs2.d1, ?_⟩
   refine WH.o1 10 rfl ?_
   refine WL.r 1 hs2 [0] rfl ?_
   refine WL.nil ⟨hs2.d1, ?_⟩
   refine WH.take 15 rfl (by kernel_rfl) rfl rfl rfl hs2.d1 (fun w_ hs_ => (Run.nilCheck rfl rfl)) ?_
   refine WH.rn [16] hs2.d1 [] rfl rfl ?_
   refine WH.o1 17 rfl ?_
   refine WL.st tbk hs2 0 rfl rfl (fun _ hs71 => ?_)
   refine WL.nil ⟨hs71.d1, ?_⟩
   refine WH.take 18 rfl (by kernel_rfl) rfl rfl rfl hs71.d1 (fun w_ hs_ => (Run.nilCheck rfl rfl)) ?_
   refine WH.rn [19] hs71.d1 [] rfl rfl ?_
   refine WH.o1 20 rfl ?_
   refine WL.st tbk hs71 0 rfl rfl (fun _ hs72 => ?_)
   refine WL.nil ⟨hs72.d1, ?_⟩
   refine WH.take 21 rfl (by kernel_rfl) rfl rfl rfl hs72.d1 (fun w_ hs_ => (Run.nilCheck rfl rfl)) ?_
   refine WH.rn [22] hs72.d1 [] rfl rfl ?_
   refine WH.o1 23 rfl ?_
   refine WL.st tbk hs72 0 rfl rfl (fun _ hs73 => ?_)
   refine WL.nil ⟨hs73.d1, ?_⟩
   refine WH.dn ?_
   refine retK0 rfl ?_
   obtain ⟨L74, L75, L76, L77, hs82, ho78, ho79, ho80, ho81⟩ := ownScrR.open_ (hs73.fr L_s) o_s
   have hs83 := (hs82.fb b_s)
   obtain ⟨L85, hs84, ho86⟩ := ownScrR.fl ((((hs83.fr L77).fr L76).fr L75).fr L74) ho78 ho79 ho80 ho81
   have hs87 := (hs84.fb b_s)
   refine ⟨⟨s.W, s.H, ⟨s.Main.W, s.Main.H, SlD.of ho78⟩, ⟨s.Alt.W, s.Alt.H, SlD.of ho79⟩, s.OnAlt, s.X, s.Y, s.Wrap, ⟨s.A.Fg, s.A.Bg, s.A.Bold, s.A.Under, s.A.Turn⟩, s.Top, s.Bot, s.NoWrap, s.Hide, s.X, s.Y, ⟨s.A.Fg, s.A.Bg, s.A.Bold, s.A.Under, s.A.Turn⟩, SlD.of ho80, s.Limit, SlD.ofN ho81⟩, _, rfl, St.keepP (L1 := L85) ((hs87.fr L85).fb b_s), (by exact ho86), ?_⟩
   · rfl
  ·refine WL.r 1 hs2 [0] rfl ?_
   refine WL.nil ⟨hs2.d1, ?_⟩
   refine WH.o1 6 rfl ?_
   refine WL.r 1 hs2 [0] rfl ?_
   refine WL.nil ⟨hs2.d1, ?_⟩
   refine WH.take 15 rfl (by kernel_rfl) rfl rfl rfl hs2.d1 (fun w_ hs_ => (Run.nilCheck rfl rfl)) ?_
   refine WH.rn [16] hs2.d1 [] rfl rfl ?_
   refine WH.o1 17 rfl ?_
   refine WL.st tbk hs2 0 rfl rfl (fun _ hs88 => ?_)
   refine WL.nil ⟨hs88.d1, ?_⟩
   refine WH.take 18 rfl (by kernel_rfl) rfl rfl rfl hs88.d1 (fun w_ hs_ => (Run.nilCheck rfl rfl)) ?_
   refine WH.rn [19] hs88.d1 [] rfl rfl ?_
   refine WH.o1 20 rfl ?_
   refine WL.st tbk hs88 0 rfl rfl (fun _ hs89 => ?_)
   refine WL.nil ⟨hs89.d1, ?_⟩
   refine WH.take 21 rfl (by kernel_rfl) rfl rfl rfl hs89.d1 (fun w_ hs_ => (Run.nilCheck rfl rfl)) ?_
   refine WH.rn [22] hs89.d1 [] rfl rfl ?_
   refine WH.o1 23 rfl ?_
   refine WL.st tbk hs89 0 rfl rfl (fun _ hs90 => ?_)
   refine WL.nil ⟨hs90.d1, ?_⟩
   refine WH.dn ?_
   refine retK0 rfl ?_
   obtain ⟨L91, L92, L93, L94, hs99, ho95, ho96, ho97, ho98⟩ := ownScrR.open_ (hs90.fr L_s) o_s
   have hs100 := (hs99.fb b_s)
   obtain ⟨L102, hs101, ho103⟩ := ownScrR.fl ((((hs100.fr L94).fr L93).fr L92).fr L91) ho95 ho96 ho97 ho98
   have hs104 := (hs101.fb b_s)
   refine ⟨⟨s.W, s.H, ⟨s.Main.W, s.Main.H, SlD.of ho95⟩, ⟨s.Alt.W, s.Alt.H, SlD.of ho96⟩, s.OnAlt, s.X, s.Y, s.Wrap, ⟨s.A.Fg, s.A.Bg, s.A.Bold, s.A.Under, s.A.Turn⟩, s.Top, s.Bot, s.NoWrap, s.Hide, s.X, s.Y, ⟨s.A.Fg, s.A.Bg, s.A.Bold, s.A.Under, s.A.Turn⟩, SlD.of ho97, s.Limit, SlD.ofN ho98⟩, _, rfl, St.keepP (L1 := L102) ((hs104.fr L102).fb b_s), (by exact ho103), ?_⟩
   · rfl
theorem c_impl_Scr_restore (b_s : Nat) (s : ScrR) (L_s : Hp) (w : World) (hb_s : w.heap[b_s]? = some (Obj.cells (List.toArray (cScr s)) 33 (0, 0))) (o_s : ownScrR s L_s) (h_s : ∀ p, p ∈ L_s → w.heap[p.1]? = some p.2) (hd_ : (b_s :: L_s.map (·.1)).Nodup) (hsm : smScr 549755813888 s.dat) :
    Calls Tryz.prog 154 #[.pointer (some ⟨b_s, 0, none⟩)] w fun e w' => ∃ r L1, e = .returned (.tuple #[]) ∧ St w (b_s :: L_s.map (·.1)) ([(b_s, Obj.cells (List.toArray (cScr r)) 33 (0, 0))] ++ L1) w' ∧ ownScrR r L1 ∧ r.dat = backD s.dat := by
 refine enter 26 Tryz.func154 rfl Tryz.ntmps154 rfl rfl ?_
 have hs1 := St.takeP w b_s _ L_s hb_s h_s hd_
 refine WC.rH hs1.d1 hs1 (fun _ hs2 => ?_)
 refine WH.rn [0, 1, 2, 3, 4] hs2.d1 [] rfl rfl ?_
 refine WH.take 5 rfl (by kernel_rfl) rfl rfl rfl hs2.d1 (fun w_ hs_ => (Run.nilCheck rfl rfl)) ?_
 refine WH.rn [6, 8] hs2.d1 [] rfl rfl ?_
 refine WH.take 9 rfl (by kernel_rfl) rfl rfl rfl hs2.d1 (fun w_ hs_ => (Run.nilCheck rfl rfl)) ?_
 refine WH.rn [10, 12] hs2.d1 [] rfl rfl ?_
 refine WH.take 13 rfl (by kernel_rfl) rfl rfl rfl hs2.d1 (fun w_ hs_ => (Run.nilCheck rfl rfl)) ?_
 refine WH.rn [14] hs2.d1 [] rfl rfl ?_
 refine WH.all [7, 11, 15] (by kernel_rfl) rfl (WHs.cons (i := 7) rfl ?_ (WHs.cons (i := 11) rfl ?_ (WHs.cons (i := 15) rfl ?_ WHs.nil)))
 ·refine WL.r 1 hs2 [0] rfl ?_
  refine WL.nil ⟨hs2.d1, ?_⟩
  refine WH.all [11, 15] (by kernel_rfl) rfl (WHs.cons (i := 11) rfl ?_ (WHs.cons (i := 15) rfl ?_ WHs.nil))
  ·refine WL.r 1 hs2 [0] rfl ?_
   refine WL.nil ⟨hs2.d1, ?_⟩
   refine WH.o1 15 rfl ?_
   refine WL.r 1 hs2 [0] rfl ?_
   refine WL.nil ⟨hs2.d1, ?_⟩
   refine WH.take 16 rfl (by kernel_rfl) rfl rfl rfl hs2.d1 (fun w_ hs_ => (Run.nilCheck rfl rfl)) ?_
   refine WH.rn [17] hs2.d1 [] rfl rfl ?_
   refine WH.o1 18 rfl ?_
   refine WL.st tbk hs2 0 rfl rfl (fun _ hs3 => ?_)
   refine WL.nil ⟨hs3.d1, ?_⟩
   refine WH.take 19 rfl (by kernel_rfl) rfl rfl rfl hs3.d1 (fun w_ hs_ => (Run.nilCheck rfl rfl)) ?_
   refine WH.rn [20] hs3.d1 [] rfl rfl ?_
   refine WH.o1 21 rfl ?_
   refine WL.st tbk hs3 0 rfl rfl (fun _ hs4 => ?_)
   refine WL.nil ⟨hs4.d1, ?_⟩
   refine WH.take 22 rfl (by kernel_rfl) rfl rfl rfl hs4.d1 (fun w_ hs_ => (Run.nilCheck rfl rfl)) ?_
   refine WH.rn [23] hs4.d1 [] rfl rfl ?_
   refine WH.o1 24 rfl ?_
   refine WL.st tbk hs4 0 rfl rfl (fun _ hs5 => ?_)
   refine WL.nil ⟨hs5.d1, ?_⟩
   refine WH.take 25 rfl (by kernel_rfl) rfl rfl rfl hs5.d1 (fun w_ hs_ => (Run.nilCheck rfl rfl)) ?_
   refine WH.rn [26] hs5.d1 [] rfl rfl ?_
   refine WH.o1 27 rfl ?_
   refine WL.st tbk hs5 0 rfl rfl (fun _ hs6 => ?_)
   refine WL.nil ⟨hs6.d1, ?_⟩
   refine WH.dn ?_
   refine retK0 rfl ?_
   obtain ⟨L7, L8, L9, L10, hs15, ho11, ho12, ho13, ho14⟩ := ownScrR.open_ (hs6.fr L_s) o_s
   have hs16 := (hs15.fb b_s)
   obtain ⟨L18, hs17, ho19⟩ := ownScrR.fl ((((hs16.fr L10).fr L9).fr L8).fr L7) ho11 ho12 ho13 ho14
   have hs20 := (hs17.fb b_s)
   refine ⟨⟨s.W, s.H, ⟨s.Main.W, s.Main.H, SlD.of ho11⟩, ⟨s.Alt.W, s.Alt.H, SlD.of ho12⟩, s.OnAlt, s.SaveX, s.SaveY, false, ⟨s.SaveA.Fg, s.SaveA.Bg, s.SaveA.Bold, s.SaveA.Under, s.SaveA.Turn⟩, s.Top, s.Bot, s.NoWrap, s.Hide, s.SaveX, s.SaveY, ⟨s.SaveA.Fg, s.SaveA.Bg, s.SaveA.Bold, s.SaveA.Under, s.SaveA.Turn⟩, SlD.of ho13, s.Limit, SlD.ofN ho14⟩, _, rfl, St.keepP (L1 := L18) ((hs20.fr L18).fb b_s), (by exact ho19), ?_⟩
   · rfl
  ·refine WL.r 1 hs2 [0] rfl ?_
   refine WL.nil ⟨hs2.d1, ?_⟩
   refine WH.o1 11 rfl ?_
   refine WL.r 1 hs2 [0] rfl ?_
   refine WL.nil ⟨hs2.d1, ?_⟩
   refine WH.take 16 rfl (by kernel_rfl) rfl rfl rfl hs2.d1 (fun w_ hs_ => (Run.nilCheck rfl rfl)) ?_
   refine WH.rn [17] hs2.d1 [] rfl rfl ?_
   refine WH.o1 18 rfl ?_
   refine WL.st tbk hs2 0 rfl rfl (fun _ hs21 => ?_)
   refine WL.nil ⟨hs21.d1, ?_⟩
   refine WH.take 19 rfl (by kernel_rfl) rfl rfl rfl hs21.d1 (fun w_ hs_ => (Run.nilCheck rfl rfl)) ?_
   refine WH.rn [20] hs21.d1 [] rfl rfl ?_
   refine WH.o1 21 rfl ?_
   refine WL.st tbk hs21 0 rfl rfl (fun _ hs22 => ?_)
   refine WL.nil ⟨hs22.d1, ?_⟩
   refine WH.take 22 rfl (by kernel_rfl) rfl rfl rfl hs22.d1 (fun w_ hs_ => (Run.nilCheck rfl rfl)) ?_
   refine WH.rn [23] hs22.d1 [] rfl rfl ?_
   refine WH.o1 24 rfl ?_
   refine WL.st tbk hs22 0 rfl rfl (fun _ hs23 => ?_)
   refine WL.nil ⟨hs23.d1, ?_⟩
   refine WH.take 25 rfl (by kernel_rfl) rfl rfl rfl hs23.d1 (fun w_ hs_ => (Run.nilCheck rfl rfl)) ?_
   refine WH.rn [26] hs23.d1 [] rfl rfl ?_
   refine WH.o1 27 rfl ?_
   refine WL.st tbk hs23 0 rfl rfl (fun _ hs24 => ?_)
   refine WL.nil ⟨hs24.d1, ?_⟩
   refine WH.dn ?_
   refine retK0 rfl ?_
   obtain ⟨L25, L26, L27, L28, hs33, ho29, ho30, ho31, ho32⟩ := ownScrR.open_ (hs24.fr L_s) o_s
   have hs34 := (hs33.fb b_s)
   obtain ⟨L36, hs35, ho37⟩ := ownScrR.fl ((((hs34.fr L28).fr L27).fr L26).fr L25) ho29 ho30 ho31 ho32
   have hs38 := (hs35.fb b_s)
   refine ⟨⟨s.W, s.H, ⟨s.Main.W, s.Main.H, SlD.of ho29⟩, ⟨s.Alt.W, s.Alt.H, SlD.of ho30⟩, s.OnAlt, s.SaveX, s.SaveY, false, ⟨s.SaveA.Fg, s.SaveA.Bg, s.SaveA.Bold, s.SaveA.Under, s.SaveA.Turn⟩, s.Top, s.Bot, s.NoWrap, s.Hide, s.SaveX, s.SaveY, ⟨s.SaveA.Fg, s.SaveA.Bg, s.SaveA.Bold, s.SaveA.Under, s.SaveA.Turn⟩, SlD.of ho31, s.Limit, SlD.ofN ho32⟩, _, rfl, St.keepP (L1 := L36) ((hs38.fr L36).fb b_s), (by exact ho37), ?_⟩
   · rfl
 ·refine WL.r 1 hs2 [0] rfl ?_
  refine WL.nil ⟨hs2.d1, ?_⟩
  refine WH.all [7, 15] (by kernel_rfl) rfl (WHs.cons (i := 7) rfl ?_ (WHs.cons (i := 15) rfl ?_ WHs.nil))
  ·refine WL.r 1 hs2 [0] rfl ?_
   refine WL.nil ⟨hs2.d1, ?_⟩
   refine WH.o1 15 rfl ?_
   refine WL.r 1 hs2 [0] rfl ?_
   refine WL.nil ⟨hs2.d1, ?_⟩
   refine WH.take 16 rfl (by kernel_rfl) rfl rfl rfl hs2.d1 (fun w_ hs_ => (Run.nilCheck rfl rfl)) ?_
   refine WH.rn [17] hs2.d1 [] rfl rfl ?_
   refine WH.o1 18 rfl ?_
   refine WL.st tbk hs2 0 rfl rfl (fun _ hs39 => ?_)
   refine WL.nil ⟨hs39.d1, ?_⟩
   refine WH.take 19 rfl (by kernel_rfl) rfl rfl rfl hs39.d1 (fun w_ hs_ => (Run.nilCheck rfl rfl)) ?_
   refine WH.rn [20] hs39.d1 [] rfl rfl ?_
   refine WH.o1 21 rfl ?_
   refine WL.st tbk hs39 0 rfl rfl (fun _ hs40 => ?_)
   refine WL.nil ⟨hs40.d1, ?_⟩
   refine WH.take 22 rfl (by kernel_rfl) rfl rfl rfl hs40.d1 (fun w_ hs_ => (Run.nilCheck rfl rfl)) ?_
   refine WH.rn [23] hs40.d1 [] rfl rfl ?_
   refine WH.o1 24 rfl ?_
   refine WL.st tbk hs40 0 rfl rfl (fun _ hs41 => ?_)
   refine WL.nil ⟨hs41.d1, ?_⟩
   refine WH.take 25 rfl (by kernel_rfl) rfl rfl rfl hs41.d1 (fun w_ hs_ => (Run.nilCheck rfl rfl)) ?_
   refine WH.rn [26] hs41.d1 [] rfl rfl ?_
   refine WH.o1 27 rfl ?_
   refine WL.st tbk hs41 0 rfl rfl (fun _ hs42 => ?_)
   refine WL.nil ⟨hs42.d1, ?_⟩
   refine WH.dn ?_
   refine retK0 rfl ?_
   obtain ⟨L43, L44, L45, L46, hs51, ho47, ho48, ho49, ho50⟩ := ownScrR.open_ (hs42.fr L_s) o_s
   have hs52 := (hs51.fb b_s)
   obtain ⟨L54, hs53, ho55⟩ := ownScrR.fl ((((hs52.fr L46).fr L45).fr L44).fr L43) ho47 ho48 ho49 ho50
   have hs56 := (hs53.fb b_s)
   refine ⟨⟨s.W, s.H, ⟨s.Main.W, s.Main.H, SlD.of ho47⟩, ⟨s.Alt.W, s.Alt.H, SlD.of ho48⟩, s.OnAlt, s.SaveX, s.SaveY, false, ⟨s.SaveA.Fg, s.SaveA.Bg, s.SaveA.Bold, s.SaveA.Under, s.SaveA.Turn⟩, s.Top, s.Bot, s.NoWrap, s.Hide, s.SaveX, s.SaveY, ⟨s.SaveA.Fg, s.SaveA.Bg, s.SaveA.Bold, s.SaveA.Under, s.SaveA.Turn⟩, SlD.of ho49, s.Limit, SlD.ofN ho50⟩, _, rfl, St.keepP (L1 := L54) ((hs56.fr L54).fb b_s), (by exact ho55), ?_⟩
   · rfl
  ·refine WL.r 1 hs2 [0] rfl ?_
   refine WL.nil ⟨hs2.d1, ?_⟩
   refine WH.o1 7 rfl ?_
   refine WL.r 1 hs2 [0] rfl ?_
   refine WL.nil ⟨hs2.d1, ?_⟩
   refine WH.take 16 rfl (by kernel_rfl) rfl rfl rfl hs2.d1 (fun w_ hs_ => (Run.nilCheck rfl rfl)) ?_
   refine WH.rn [17] hs2.d1 [] rfl rfl ?_
   refine WH.o1 18 rfl ?_
   refine WL.st tbk hs2 0 rfl rfl (fun _ hs57 => ?_)
   refine WL.nil ⟨hs57.d1, ?_⟩
   refine WH.take 19 rfl (by kernel_rfl) rfl rfl rfl hs57.d1 (fun w_ hs_ => (Run.nilCheck rfl rfl)) ?_
   refine WH.rn [20] hs57.d1 [] rfl rfl ?_
   refine WH.o1 21 rfl ?_
   refine WL.st tbk hs57 0 rfl rfl (fun _ hs58 => ?_)
   refine WL.nil ⟨hs58.d1, ?_⟩
   refine WH.take 22 rfl (by kernel_rfl) rfl rfl rfl hs58.d1 (fun w_ hs_ => (Run.nilCheck rfl rfl)) ?_
   refine WH.rn [23] hs58.d1 [] rfl rfl ?_
   refine WH.o1 24 rfl ?_
   refine WL.st tbk hs58 0 rfl rfl (fun _ hs59 => ?_)
   refine WL.nil ⟨hs59.d1, ?_⟩
   refine WH.take 25 rfl (by kernel_rfl) rfl rfl rfl hs59.d1 (fun w_ hs_ => (Run.nilCheck rfl rfl)) ?_
   refine WH.rn [26] hs59.d1 [] rfl rfl ?_
   refine WH.o1 27 rfl ?_
   refine WL.st tbk hs59 0 rfl rfl (fun _ hs60 => ?_)
   refine WL.nil ⟨hs60.d1, ?_⟩
   refine WH.dn ?_
   refine retK0 rfl ?_
   obtain ⟨L61, L62, L63, L64, hs69, ho65, ho66, ho67, ho68⟩ := ownScrR.open_ (hs60.fr L_s) o_s
   have hs70 := (hs69.fb b_s)
   obtain ⟨L72, hs71, ho73⟩ := ownScrR.fl ((((hs70.fr L64).fr L63).fr L62).fr L61) ho65 ho66 ho67 ho68
   have hs74 := (hs71.fb b_s)
   refine ⟨⟨s.W, s.H, ⟨s.Main.W, s.Main.H, SlD.of ho65⟩, ⟨s.Alt.W, s.Alt.H, SlD.of ho66⟩, s.OnAlt, s.SaveX, s.SaveY, false, ⟨s.SaveA.Fg, s.SaveA.Bg, s.SaveA.Bold, s.SaveA.Under, s.SaveA.Turn⟩, s.Top, s.Bot, s.NoWrap, s.Hide, s.SaveX, s.SaveY, ⟨s.SaveA.Fg, s.SaveA.Bg, s.SaveA.Bold, s.SaveA.Under, s.SaveA.Turn⟩, SlD.of ho67, s.Limit, SlD.ofN ho68⟩, _, rfl, St.keepP (L1 := L72) ((hs74.fr L72).fb b_s), (by exact ho73), ?_⟩
   · rfl
 ·refine WL.r 1 hs2 [0] rfl ?_
  refine WL.nil ⟨hs2.d1, ?_⟩
  refine WH.all [7, 11] (by kernel_rfl) rfl (WHs.cons (i := 7) rfl ?_ (WHs.cons (i := 11) rfl ?_ WHs.nil))
  ·refine WL.r 1 hs2 [0] rfl ?_
   refine WL.nil ⟨hs2.d1, ?_⟩
   refine WH.o1 11 rfl ?_
   refine WL.r 1 hs2 [0] rfl ?_
   refine WL.nil ⟨hs2.d1, ?_⟩
   refine WH.take 16 rfl (by kernel_rfl) rfl rfl rfl hs2.d1 (fun w_ hs_ => (Run.nilCheck rfl rfl)) ?_
   refine WH.rn [17] hs2.d1 [] rfl rfl ?_
   refine WH.o1 18 rfl ?_
   refine WL.st tbk hs2 0 rfl rfl (fun _ hs75 => ?_)
   refine WL.nil ⟨hs75.d1, ?_⟩
   refine WH.take 19 rfl (by kernel_rfl) rfl rfl rfl hs75.d1 (fun w_ hs_ => (Run.nilCheck rfl rfl)) ?_
   refine WH.rn [20] hs75.d1 [] rfl rfl ?_
   refine WH.o1 21 rfl ?_
   refine WL.st tbk hs75 0 rfl rfl (fun _ hs76 => ?_)
   refine WL.nil ⟨hs76.d1, ?_⟩
   refine WH.take 22 rfl (by kernel_rfl) rfl rfl rfl hs76.d1 (fun w_ hs_ => (Run.nilCheck rfl rfl)) ?_
   refine WH.rn [23] hs76.d1 [] rfl rfl ?_
   refine WH.o1 24 rfl ?_
   refine WL.st tbk hs76 0 rfl rfl (fun _ hs77 => ?_)
   refine WL.nil ⟨hs77.d1, ?_⟩
   refine WH.take 25 rfl (by kernel_rfl) rfl rfl rfl hs77.d1 (fun w_ hs_ => (Run.nilCheck rfl rfl)) ?_
   refine WH.rn [26] hs77.d1 [] rfl rfl ?_
   refine WH.o1 27 rfl ?_
   refine WL.st tbk hs77 0 rfl rfl (fun _ hs78 => ?_)
   refine WL.nil ⟨hs78.d1, ?_⟩
   refine WH.dn ?_
   refine retK0 rfl ?_
   obtain ⟨L79, L80, L81, L82, hs87, ho83, ho84, ho85, ho86⟩ := ownScrR.open_ (hs78.fr L_s) o_s
   have hs88 := (hs87.fb b_s)
   obtain ⟨L90, hs89, ho91⟩ := ownScrR.fl ((((hs88.fr L82).fr L81).fr L80).fr L79) ho83 ho84 ho85 ho86
   have hs92 := (hs89.fb b_s)
   refine ⟨⟨s.W, s.H, ⟨s.Main.W, s.Main.H, SlD.of ho83⟩, ⟨s.Alt.W, s.Alt.H, SlD.of ho84⟩, s.OnAlt, s.SaveX, s.SaveY, false, ⟨s.SaveA.Fg, s.SaveA.Bg, s.SaveA.Bold, s.SaveA.Under, s.SaveA.Turn⟩, s.Top, s.Bot, s.NoWrap, s.Hide, s.SaveX, s.SaveY, ⟨s.SaveA.Fg, s.SaveA.Bg, s.SaveA.Bold, s.SaveA.Under, s.SaveA.Turn⟩, SlD.of ho85, s.Limit, SlD.ofN ho86⟩, _, rfl, St.keepP (L1 := L90) ((hs92.fr L90).fb b_s), (by exact ho91), ?_⟩
   · rfl
  ·refine WL.r 1 hs2 [0] rfl ?_
   refine WL.nil ⟨hs2.d1, ?_⟩
   refine WH.o1 7 rfl ?_
   refine WL.r 1 hs2 [0] rfl ?_
   refine WL.nil ⟨hs2.d1, ?_⟩
   refine WH.take 16 rfl (by kernel_rfl) rfl rfl rfl hs2.d1 (fun w_ hs_ => (Run.nilCheck rfl rfl)) ?_
   refine WH.rn [17] hs2.d1 [] rfl rfl ?_
   refine WH.o1 18 rfl ?_
   refine WL.st tbk hs2 0 rfl rfl (fun _ hs93 => ?_)
   refine WL.nil ⟨hs93.d1, ?_⟩
   refine WH.take 19 rfl (by kernel_rfl) rfl rfl rfl hs93.d1 (fun w_ hs_ => (Run.nilCheck rfl rfl)) ?_
   refine WH.rn [20] hs93.d1 [] rfl rfl ?_
   refine WH.o1 21 rfl ?_
   refine WL.st tbk hs93 0 rfl rfl (fun _ hs94 => ?_)
   refine WL.nil ⟨hs94.d1, ?_⟩
   refine WH.take 22 rfl (by kernel_rfl) rfl rfl rfl hs94.d1 (fun w_ hs_ => (Run.nilCheck rfl rfl)) ?_
   refine WH.rn [23] hs94.d1 [] rfl rfl ?_
   refine WH.o1 24 rfl ?_
   refine WL.st tbk hs94 0 rfl rfl (fun _ hs95 => ?_)
   refine WL.nil ⟨hs95.d1, ?_⟩
   refine WH.take 25 rfl (by kernel_rfl) rfl rfl rfl hs95.d1 (fun w_ hs_ => (Run.nilCheck rfl rfl)) ?_
   refine WH.rn [26] hs95.d1 [] rfl rfl ?_
   refine WH.o1 27 rfl ?_
   refine WL.st tbk hs95 0 rfl rfl (fun _ hs96 => ?_)
   refine WL.nil ⟨hs96.d1, ?_⟩
   refine WH.dn ?_
   refine retK0 rfl ?_
   obtain ⟨L97, L98, L99, L100, hs105, ho101, ho102, ho103, ho104⟩ := ownScrR.open_ (hs96.fr L_s) o_s
   have hs106 := (hs105.fb b_s)
   obtain ⟨L108, hs107, ho109⟩ := ownScrR.fl ((((hs106.fr L100).fr L99).fr L98).fr L97) ho101 ho102 ho103 ho104
   have hs110 := (hs107.fb b_s)
   refine ⟨⟨s.W, s.H, ⟨s.Main.W, s.Main.H, SlD.of ho101⟩, ⟨s.Alt.W, s.Alt.H, SlD.of ho102⟩, s.OnAlt, s.SaveX, s.SaveY, false, ⟨s.SaveA.Fg, s.SaveA.Bg, s.SaveA.Bold, s.SaveA.Under, s.SaveA.Turn⟩, s.Top, s.Bot, s.NoWrap, s.Hide, s.SaveX, s.SaveY, ⟨s.SaveA.Fg, s.SaveA.Bg, s.SaveA.Bold, s.SaveA.Under, s.SaveA.Turn⟩, SlD.of ho103, s.Limit, SlD.ofN ho104⟩, _, rfl, St.keepP (L1 := L108) ((hs110.fr L108).fb b_s), (by exact ho109), ?_⟩
   · rfl
end Go.Proofs.YtjmegoiclgancaaGreat
namespace Go.Proofs.YtjmegoiclgancaaGreat
open Go Go.RowKit
set_option linter.unusedVariables false
set_option linter.unusedSimpArgs false
theorem part_next {g : GridD} {f : Nat → CellD} {lo a j k : Nat} {xs : List CellD} {v : CellD} (hj : j = lo + a) (hl : j < xs.length) (hv : v = f (lo + a)) (hq : cat xs k = partF g f lo a k) : cat (xs.set j v) k = partF g f lo (a + 1) k := by
  subst hj
  rw [partF_one]
  show gat encCell (xs.set (lo + a) v) k = _
  rw [gat_set2 hl]
  split
  · rename_i hk; subst hk; exact hv
  · exact hq
theorem part_skip {g : GridD} {f : Nat → CellD} {a k : Nat} {xs : List CellD} (hf : f a = cat g.Cells a) (hq : cat xs k = partF g f 0 a k) : cat xs k = partF g f 0 (a + 1) k := by
  rw [partF_one, hq]
  split
  · rename_i hk
    rw [Nat.zero_add] at hk
    subst hk
    unfold partF
    rw [if_neg (by omega)]; exact hf.symm
  · rfl
theorem part_done {g : GridD} {f : Nat → CellD} {lo a : Nat} {w h : Int} {xs : List CellD} (hw : w = g.W) (hh : h = g.H) (hl : xs.length = g.Cells.length) (ho : ∀ k, k < g.Cells.length → ¬ (lo ≤ k ∧ k < lo + a) → f k = cat g.Cells k)
    (hp : ∀ k, k < g.Cells.length → cat xs k = partF g f lo a k) : (⟨w, h, xs⟩ : GridD) = gmap g f := by
  subst hw hh
  unfold gmap
  congr 1
  refine ext_gat (F := encCell) hl fun k hk => ?_
  have h1 := hp k hk
  unfold partF at h1
  by_cases h2 : lo ≤ k ∧ k < lo + a
  · rw [if_pos h2] at h1; exact h1
  · rw [if_neg h2] at h1; rw [ho k hk h2]; exact h1
theorem dm_eq {w k : Nat} : k = k / w * w + k % w := by
  have := Nat.div_add_mod k w
  rw [Nat.mul_comm] at this
  exact this.symm
theorem shiftF_at {g : GridD} {x y n : Int} {a : Nat} (h0 : 0 ≤ x) (h1 : 0 ≤ y) (h2 : x + a < g.W) : shiftF g x y n (y.toNat * g.W.toNat + x.toNat + a) = if x ≤ x + a - n ∧ x + a - n < g.W then cat g.Cells (y.toNat * g.W.toNat + (x + a - n).toNat) else blankC := by
  obtain ⟨e1, e2⟩ := at_div (w := g.W.toNat) (y := y.toNat) (x := x.toNat + a) (by omega)
  unfold shiftF
  rw [Nat.add_assoc, e1, e2, if_pos ⟨by omega, by omega⟩, show ((x.toNat + a : Nat) : Int) = x + a by omega]
theorem shiftF_out {g : GridD} {x y n : Int} {k : Nat} (hw : 0 < g.W.toNat) (h0 : 0 ≤ x) (h1 : 0 ≤ y) (hx : x < g.W) (h : ¬ (y.toNat * g.W.toNat + x.toNat ≤ k ∧ k < y.toNat * g.W.toNat + x.toNat + (g.W - x).toNat)) : shiftF g x y n k = cat g.Cells k := by
  unfold shiftF
  rw [if_neg]
  rintro ⟨h2, h3⟩
  apply h
  have h4 := dm_eq (w := g.W.toNat) (k := k)
  have h5 := Nat.mod_lt k hw
  have h6 : k / g.W.toNat = y.toNat := by omega
  rw [h6] at h4
  omega
theorem shift_big {g : GridD} {x y n m : Int} (h0 : 0 ≤ x) (hn : n = m ∨ (g.W ≤ n ∧ g.W ≤ m ∨ n ≤ -g.W ∧ m ≤ -g.W)) : gShift g x y n = gShift g x y m := by
  rcases hn with rfl | hn
  · rfl
  · unfold gShift
    congr 1
    funext k
    unfold shiftF
    split
    · rename_i h
      have h5 : ((k % g.W.toNat : Nat) : Int) < g.W ∨ g.W ≤ 0 := by
        rcases Nat.eq_zero_or_pos g.W.toNat with h6 | h6
        · omega
        · have := Nat.mod_lt k h6; omega
      rw [if_neg (by omega), if_neg (by omega)]
    · rfl
theorem shift_done {g : GridD} {x y n m w h : Int} {a : Nat} {xs : List CellD} (h0 : 0 ≤ x ∧ x < g.W) (h1 : 0 ≤ y) (ha : (a : Int) = g.W - x) (hw : w = g.W) (hh : h = g.H) (hl : xs.length = g.Cells.length) (hm : n = m ∨ (g.W ≤ n ∧ g.W ≤ m ∨ n ≤ -g.W ∧ m ≤ -g.W))
    (hp : ∀ k, k < g.Cells.length → cat xs k = partF g (shiftF g x y m) (y.toNat * g.W.toNat + x.toNat) a k) : (⟨w, h, xs⟩ : GridD) = gShift g x y n := by
  rw [shift_big h0.1 hm]
  exact part_done hw hh hl (fun k _ hk => shiftF_out (by omega) h0.1 h1 h0.2 (by rw [show (g.W - x).toNat = a by omega]; exact hk)) hp
theorem fill_clear {g : GridD} {x y n : Int} (h0 : 0 ≤ x ∧ x < g.W) (h1 : 0 ≤ y) : gFill g x y n 1 blankC = gmap g (clearF g (y * g.W + x) (min (y * g.W + x + n) ((y + 1) * g.W))) := by
  unfold gFill
  congr 1
  funext k
  unfold fillFn clearF
  have hw : 0 < g.W.toNat := by omega
  have h4 := dm_eq (w := g.W.toNat) (k := k)
  have h5 := Nat.mod_lt k hw
  generalize hq : k / g.W.toNat = q at h4 ⊢
  generalize hr : k % g.W.toNat = r at h4 h5 ⊢
  have e1 : (k : Int) = q * g.W + r := by
    rw [h4, Int.natCast_add, Int.natCast_mul, Int.toNat_of_nonneg (by omega)]
  have e2 : (y + 1) * g.W = y * g.W + g.W := by rw [Int.add_mul, Int.one_mul]
  have hiff : ((x ≤ (r : Int) ∧ (r : Int) < x + n) ∧ y ≤ (q : Int) ∧ (q : Int) < y + 1) ↔ y * g.W + x ≤ (k : Int) ∧ (k : Int) < min (y * g.W + x + n) ((y + 1) * g.W) := by
    constructor
    · rintro ⟨h6, h7⟩
      have h8 : (q : Int) = y := by omega
      rw [e1, h8, e2]
      omega
    · rintro ⟨h6, h7⟩
      have h8 : (q : Int) = y := by
        rcases Int.lt_or_le (q : Int) y with h9 | h9
        · have := Int.mul_le_mul_of_nonneg_right (show (q : Int) + 1 ≤ y by omega) (show 0 ≤ g.W by omega)
          rw [Int.add_mul, Int.one_mul] at this
          omega
        · rcases Int.lt_or_le y (q : Int) with h10 | h10
          · have := Int.mul_le_mul_of_nonneg_right (show y + 1 ≤ (q : Int) by omega) (show 0 ≤ g.W by omega)
            rw [e2] at this
            omega
          · omega
      rw [e1, h8, e2] at h7
      rw [e1, h8] at h6
      omega
  by_cases h : y * g.W + x ≤ (k : Int) ∧ (k : Int) < min (y * g.W + x + n) ((y + 1) * g.W)
  · rw [if_pos h, if_pos (hiff.2 h)]
  · rw [if_neg h, if_neg (fun h9 => h (hiff.1 h9))]
theorem clearF_out {g : GridD} {a b : Int} {k : Nat} (h : ¬ (a ≤ (k : Int) ∧ (k : Int) < b)) : clearF g a b k = cat g.Cells k := by unfold clearF; rw [if_neg h]
theorem clearF_in {g : GridD} {a b : Int} {k : Nat} (h : a ≤ (k : Int) ∧ (k : Int) < b) : clearF g a b k = blankC := by unfold clearF; rw [if_pos h]
end Go.Proofs.YtjmegoiclgancaaGreat
namespace Go.Proofs.YtjmegoiclgancaaGreat
open Go Go.RowKit
set_option linter.unusedVariables false
set_option linter.unusedSimpArgs false
def isMove (b : Int) : Bool := decide (b = 65 ∨ b = 66 ∨ b = 67 ∨ b = 68 ∨ b = 71 ∨ b = 100 ∨ b = 72 ∨ b = 102)
def moveByD (s : ScrD) (n m b : Int) : ScrD :=
  if b = 65 then moveD s s.X (s.Y - n) else if b = 66 then moveD s s.X (s.Y + n) else if b = 67 then moveD s (s.X + n) s.Y else if b = 68 then moveD s (s.X - n) s.Y
  else if b = 71 then moveD s (n - 1) s.Y else if b = 100 then moveD s s.X (n - 1) else if b = 72 ∨ b = 102 then moveD s (m - 1) (n - 1) else s
theorem csiD_move {s : ScrD} {l : List Int} {b : Int} (h : isMove b = true) : csiD s l b = moveByD s (argI l 0 1) (argI l 1 1) b := by
  unfold isMove at h
  rw [decide_eq_true_eq] at h
  rcases h with rfl | rfl | rfl | rfl | rfl | rfl | rfl | rfl <;> rfl
theorem findI_bnd {p : Int → Bool} {s : List Int} (h : ¬ findI p s = -1) : 0 ≤ findI p s ∧ findI p s < s.length := by
  rcases findI_cases (p := p) (xs := s) with ⟨h1, _⟩ | ⟨i, hi, h1, _⟩
  · exact absurd h1 h
  · rw [h1]; omega
structure DelTo (p : Int → Bool) (s : List Int) (j m : Nat) (zs : List Int) : Prop where
  len : zs.length = s.length
  pre : zs.take m = (s.take j).filter (fun x => !p x)
  rest : ∀ k, j ≤ k → k < s.length → iat zs k = iat s k
theorem delTo_start {p : Int → Bool} {s : List Int} (h : ¬ findI p s = -1) : DelTo p s ((findI p s).toNat + 1) (findI p s).toNat s := by
  rcases findI_cases (p := p) (xs := s) with ⟨h1, _⟩ | ⟨i, hi, h1, h2, h3⟩
  · exact absurd h1 h
  · rw [h1, Int.toNat_natCast]
    refine ⟨rfl, ?_, fun _ _ _ => rfl⟩
    rw [List.take_add_one, List.getElem?_eq_getElem hi, List.filter_append]
    have e1 : (s.take i).filter (fun x => !p x) = s.take i := by
      rw [List.filter_eq_self]
      intro x hx
      obtain ⟨k, hk, rfl⟩ := List.mem_iff_getElem.1 hx
      rw [List.length_take] at hk
      rw [List.getElem_take, h3 k (by omega)]; rfl
    rw [e1]
    show _ = s.take i ++ List.filter _ [s[i]]
    rw [List.filter_cons, if_neg (by rw [h2]; decide)]
    exact (List.append_nil _).symm
theorem DelTo.keep {p : Int → Bool} {s zs : List Int} {j m : Nat} (h : DelTo p s j m zs) (hj : j < s.length) (hm : m < j) (hp : p (iat zs j) = false) : DelTo p s (j + 1) (m + 1) (zs.set m (iat zs j)) := by
  have hl := h.len
  refine ⟨by rw [List.length_set]; exact hl, ?_, fun k h1 h2 => ?_⟩
  · rw [List.take_add_one, List.take_set_of_le (Nat.le_refl _), List.getElem?_set_self (by omega), h.pre, List.take_add_one (l := s), gat_get (F := encI) hj, List.filter_append]
    congr 1
    show _ = List.filter _ [iat s j]
    rw [← h.rest j (Nat.le_refl _) hj, List.filter_cons, if_pos (by rw [hp]; decide)]
    rfl
  · show gat encI (zs.set m _) k = _
    rw [gat_set2 (by omega), if_neg (by omega)]
    exact h.rest k (by omega) h2
theorem DelTo.skip {p : Int → Bool} {s zs : List Int} {j m : Nat} (h : DelTo p s j m zs) (hj : j < s.length) (hp : p (iat zs j) = true) : DelTo p s (j + 1) m zs := by
  refine ⟨h.len, ?_, fun k h1 h2 => h.rest k (by omega) h2⟩
  rw [h.pre, List.take_add_one (l := s), gat_get (F := encI) hj, List.filter_append]
  show _ = _ ++ List.filter _ [iat s j]
  rw [← h.rest j (Nat.le_refl _) hj, List.filter_cons, if_neg (by rw [hp]; decide)]
  exact (List.append_nil _).symm
theorem DelTo.all {p : Int → Bool} {s zs : List Int} {j m : Nat} (h : DelTo p s j m zs) (hj : s.length ≤ j) : zs.take m = s.filter (fun x => !p x) := by
  rw [h.pre, List.take_of_length_le hj]
theorem del_none {p : Int → Bool} {s : List Int} (h : findI p s = -1) : s.filter (fun x => !p x) = s := by
  rcases findI_cases (p := p) (xs := s) with ⟨_, h1⟩ | ⟨i, hi, h1, _⟩
  · rw [List.filter_eq_self]; intro x hx; rw [h1 x hx]; rfl
  · rw [h1] at h; omega
theorem tabsD_0 {s : ScrD} : tabsD s 0 = { s with Tabs := s.Tabs.filter fun x => !decide (x = s.X) } := by
  unfold tabsD
  congr 1
  exact List.filter_congr (fun x _ => by simp)
theorem tabsD_3 {s : ScrD} : tabsD s 3 = { s with Tabs := [] } := by
  unfold tabsD
  congr 1
  rw [List.filter_eq_nil_iff]
  intro x _; simp
theorem tabsD_o {s : ScrD} {k : Int} (h0 : ¬ k = 0) (h3 : ¬ k = 3) : tabsD s k = s := by
  unfold tabsD
  rw [show s.Tabs.filter _ = s.Tabs from List.filter_eq_self.2 (fun x _ => by simp [h0, h3])]
theorem moveByD_no {s : ScrD} {n m b : Int} (h : isMove b = false) : moveByD s n m b = s := by
  unfold isMove at h
  rw [decide_eq_false_iff_not] at h
  unfold moveByD
  rw [if_neg (by omega), if_neg (by omega), if_neg (by omega), if_neg (by omega), if_neg (by omega), if_neg (by omega), if_neg (by omega)]
theorem isMove_no {b : Int} (h : isMove b = false) : ¬ b = 65 ∧ ¬ b = 66 ∧ ¬ b = 67 ∧ ¬ b = 68 ∧ ¬ b = 71 ∧ ¬ b = 100 ∧ ¬ (b = 72 ∨ b = 102) := by
  unfold isMove at h
  rw [decide_eq_false_iff_not] at h
  omega
def encV : Enc (SlD Int) := ⟨1, fun d => [.slice d.A d.n d.c], ⟨none, 0, 0, []⟩, fun _ => rfl, fun x v h => by simp at h; subst h; rfl, by decide⟩
theorem fine_smB {s : ScrD} {B : Nat} (h : ScrFine s) (hB : 20220 ≤ B) : smScr B s := totScr_sm (Nat.le_trans (scr_tot h.ok) hB)
def scrSeqRes (s : ScrD) (mark : Bool) (l : List Int) (b : Int) : ScrD := if scrOk s = true then seqD s mark l b else scr0
theorem scrCsi_no {s : ScrD} {mark : Bool} {l : List Int} {b : Int} (h : areArgs l = false) : scrCsiRes s mark l b = scr0 := by
  unfold scrCsiRes csiOk; rw [h]; rfl
theorem scrCsi_yes {s : ScrD} {mark : Bool} {l : List Int} {b : Int} (h : areArgs l = true) : scrCsiRes s mark l b = scrSeqRes s mark l b := by
  unfold scrCsiRes csiOk scrSeqRes; rw [h, Bool.true_and]
end Go.Proofs.YtjmegoiclgancaaGreat
namespace Go.Proofs.YtjmegoiclgancaaGreat
open Go Go.RowKit
set_option linter.unusedVariables false
set_option linter.unusedSimpArgs false
theorem nthL_eq : ∀ (L : Hp) (i : Nat), nthL L i = L[i]?
  | [], _ => rfl
  | _ :: _, 0 => rfl
  | _ :: L, i + 1 => (nthL_eq L i).trans (by simp)
section
variable {P : Program} {w0 w : World} {T : List Nat} {L : Hp} {n : Nat} {ol : List Oper} {o : Oper} {rest : List Oper} {f : Fr} {d : Nat} {K : Fr → World → Prop}
theorem St.setObj (h : St w0 T L w) {i b : Nat} {o1 : Obj} (hi : nthL L i = some (b, o1)) (o2 : Obj) : St w0 T (setL L i o2) { w with heap := w.heap.setIfInBounds b o2 } := by
  have hb := (h.own _ (nthL_mem hi))
  have hlt := lt_of_heap hb.1
  have hother : ∀ k, k ≠ b → (w.heap.setIfInBounds b o2)[k]? = w.heap[k]? := fun k hk => by
    rw [Array.getElem?_setIfInBounds]; rw [if_neg (fun h => hk h.symm)]
  refine ⟨h.os, h.tape, h.output, by simpa using h.size, fun k hk hT => ?_, fun p hp => ?_, by rw [setL_keys]; exact h.nodup⟩
  · refine (hother k ?_).trans (h.keep k hk hT)
    rintro rfl
    rcases hb.2 with h1 | h1
    · simp at h1; omega
    · exact hT h1
  · rcases setL_mem hi h.nodup hp with rfl | ⟨hm, hne⟩
    · refine ⟨?_, hb.2⟩
      show (w.heap.setIfInBounds b o2)[b]? = some o2
      rw [Array.getElem?_setIfInBounds, if_pos rfl]
      simp only at hlt
      rw [if_pos hlt]
    · exact ⟨(hother p.1 hne).trans (h.own p hm).1, (h.own p hm).2⟩
theorem WL.makeMap {t : TypeId} (hst : St w0 T L w) (ho : o.op = .makeMap t none) (hw : want ol o f = some true) (hd : o.dst = some d) (hn : Nat.blt d n = true)
    (k : ∀ b w', St w0 T ((b, .map #[] 0) :: L) w' → WL P n ol rest K ((d, .map (some b)) :: f) w') : WL P n ol (o :: rest) K f w := by
  refine WL.val (w' := w.alloc (.map #[] 0)) hw hd hn (fun ρ hρ => ?_) (k _ _ (hst.alloc _))
  simp [execOp, ho, Instr.makeMap]
theorem WL.mapPut {L' : Hp} {t kt et : TypeId} {kd : TypeDesc} {x y z : Operand} {b clock : Nat} {es : Array MapEntry} {key v : Value} (hst : St w0 T L w) (i : Nat) (hi : nthL L i = some (b, .map es clock)) (hm : P.underlying t = some (.map kt et)) (hkd : P.underlying kt = some kd)
    (ho : o.op = .insert t x y z) (hw : want ol o f = some true) (hd : o.dst = none) (hx : ev f x = some (.map (some b))) (hy : ev f y = some key) (hz : ev f z = some v) (hL : setLK L i (.map (es.push { key := key, val := v, born := clock }) (clock + 1)) some = some L') (hk : MapKept.IsKey kd key) (hf : Instr.findNow kd key es.toList 0 = some none)
    (k : ∀ w', St w0 T L' w' → WL P n ol rest K f w') : WL P n ol (o :: rest) K f w := by
  have hb := (hst.own _ (nthL_mem hi)).1
  refine WL.unit (w' := { w with heap := w.heap.setIfInBounds b (.map (es.push { key := key, val := v, born := clock }) (clock + 1)) }) hw hd (fun ρ hρ => ?_) (k _ (Option.some.inj (setLK_some hL) ▸ hst.setObj hi _))
  simp [execOp, ho, hρ _ _ hx, hρ _ _ hy, hρ _ _ hz, Instr.mapUpdate, run_underlying hm, MapKept.run_getObj_map hb, MapKept.run_checkKey hkd hk, MapKept.run_findKey hkd hf, MapKept.run_setObj_map _ hb, Result.andThen]
theorem Run.mapGet {t kt et : TypeId} {kd : TypeDesc} {x y : Operand} {b clock : Nat} {es : Array MapEntry} {key v : Value} (hm : P.underlying t = some (.map kt et)) (hkd : P.underlying kt = some kd) (ho : o.op = .lookup t x y false) (hx : ev f x = some (.map (some b))) (hy : ev f y = some key)
    (hb : w.heap[b]? = some (.map es clock)) (hk : MapKept.IsKey kd key) (hf : ∃ j, Instr.findNow kd key es.toList 0 = some (some (j, v))) : Run P o f w (.value v) w := fun ρ hρ => by
  obtain ⟨j, hf⟩ := hf
  simp [execOp, ho, hρ _ _ hx, hρ _ _ hy, Instr.lookup, run_underlying hm, MapKept.run_getObj_map hb, MapKept.run_checkKey hkd hk, MapKept.run_findKey hkd hf, Result.andThen]
theorem St.neq (h : St w0 T L w) {i j : Nat} {p q : Nat × Obj} (hi : nthL L i = some p) (hj : nthL L j = some q) (hij : i ≠ j) : p.1 ≠ q.1 := by
  intro he
  rw [nthL_eq] at hi hj
  have h1 : (L.map (·.1))[i]? = some p.1 := by rw [List.getElem?_map, hi]; rfl
  have h2 : (L.map (·.1))[j]? = some q.1 := by rw [List.getElem?_map, hj]; rfl
  exact hij ((List.getElem?_inj (List.getElem?_eq_some_iff.1 h1).1 h.nodup).1 (h1.trans (he ▸ h2.symm)))
theorem St.untouch {w' : World} (h : St w T L w') (hT : ∀ k, k ∈ T → ∃ q, (k, q) ∈ L) (hL : ∀ p, p ∈ L → w.heap[p.1]? = some p.2) : St w [] [] w' := by
  refine ⟨h.os, h.tape, h.output, h.size, fun k hk _ => ?_, fun _ hp => (by cases hp), List.nodup_nil⟩
  by_cases hm : k ∈ T
  · obtain ⟨q, hq⟩ := hT k hm
    exact (h.own _ hq).1.trans (hL _ hq).symm
  · exact h.keep k hk hm
end
end Go.Proofs.YtjmegoiclgancaaGreat
namespace Go.Proofs.YtjmegoiclgancaaGreat
open Go Go.RowKit
set_option linter.unusedVariables false
set_option linter.unusedSimpArgs false
theorem c_slices_IndexFunc_int_int_csi (A_s : Option Addr) (n_s c_s : Nat) (s : List Int) (p : Int → Bool) (cv : Value) (w : World) (f_s : SlF encI w A_s n_s s) (hcl : ∀ w1 : World, St w [] [] w1 → ∀ m : Int, Calls Tryz.prog 241 #[i64 m, cv] w1 fun e w2 => e = .returned (.bool (p m)) ∧ St w1 [] [] w2) (hn : n_s ≤ 1048576) :
    Calls Tryz.prog 226 #[.slice A_s n_s c_s, .func (.func 241) #[] #[cv]] w fun e w' => e = .returned (i64 (findI p s)) ∧ St w [] [] w' := by
 refine enter 19 Tryz.func226 rfl Tryz.ntmps226 rfl rfl ?_
 have hs1 := St.init w
 refine WC.r1 hs1 [] rfl ?_
 refine WC.seq (fun K2 hK2 => ?_)
 refine WC.r1 hs1 [] rfl ?_
 refine WC.block ?_
 refine WC.lS [0, 1, 7] rfl hs1 (fun k_ f w' => ∃ (i : Nat), k_ = n_s - i ∧ (i ≤ n_s) ∧ (∀ j, j < i → p (iat s j) = false) ∧ Sub [(8, .int .i64 i)] f) ((fun (i : Nat) => n_s - i) (0)) ?_ ?_
 ·refine ⟨0, rfl, ?_, ?_, ⟨rfl, trivial⟩⟩
  · exact Nat.zero_le _
  · exact fun j hj => absurd hj (by omega)
 ·clear hs1
  rintro _ f w ⟨i, rfl, p0, p1, hG⟩ hF hs3
  refine WC.sub _ (hG.app hF) ?_
  clear hG hF
  refine WC.r1 hs3 [] rfl ?_
  refine WC.seq (fun K4 hK4 => ?_)
  refine WC.cond rfl (fun h5 => ?_) (fun h5 => ?_)
  ·have qh5 := h5
   try simp only [decide_eq_true_eq, decide_eq_false_iff_not] at qh5
   refine WC.skip ?_
   refine hK4 _ _ ?_
   refine WC.seq (fun K6 hK6 => ?_)
   refine WC.block ?_
   refine WC.r1 hs3 [] rfl ?_
   refine WC.sr ?_
   refine WL.r 3 hs3 [] rfl ?_
   refine WL.val rfl rfl rfl (Run.idxN Tryz.runUnderlying23 Tryz.sizeOf3 rfl rfl rfl ?_ ?_ ?_) ?_
   · exact SlF.some_ (SlF.st0 f_s hs3)
   · omega
   · omega
   refine WL.val rfl rfl rfl (Run.load Tryz.isAgg3 rfl rfl (SlF.one1 (SlF.st0 f_s hs3) ?_ rfl)) ?_
   · omega
   refine WL.call rfl rfl rfl (Run.callC Tryz.call241 rfl rfl rfl) (hcl _ hs3 _) ?_
   rintro _ whs7 ⟨rfl, hs7⟩
   replace hs7 := hs3.call0 hs7
   refine ⟨_, rfl, ?_⟩
   refine WL.nil ?_
   refine WC.cond rfl (fun h8 => ?_) (fun h8 => ?_)
   ·have qh8 := h8
    try simp only [decide_eq_true_eq, decide_eq_false_iff_not] at qh8
    refine WC.r1 hs7 [] rfl ?_
    refine WC.ret ?_
    refine ibR (tkR (tkR (ibR (tkR ?_))))
    clear hK6 hK2
    refine retV1 rfl (resV.tmp rfl) ?_
    refine ⟨congrArg Ending.returned ?_, hs7.nil⟩
    rw [findI_some (F := encI) (by rw [f_s.len]; omega) p1 h8]
   ·have qh8 := h8
    try simp only [decide_eq_true_eq, decide_eq_false_iff_not] at qh8
    refine WC.skip ?_
    refine hK6 _ _ ?_
    refine WC.region ?_
    refine WL.r 2 hs7 [] rfl ?_
    refine WL.nil ?_
    refine tkN ?_
    refine ⟨sbF rfl, hs7, _, ?_, i + 1, rfl, ?_, ?_, ⟨rfl, trivial⟩⟩
    · omega
    · omega
    · intro j hj; rcases Nat.lt_or_ge j i with h_ | h_
      · exact p1 j h_
      · obtain rfl : j = i := by omega
        exact h8
  ·have qh5 := h5
   try simp only [decide_eq_true_eq, decide_eq_false_iff_not] at qh5
   refine WC.exit ?_
   refine hK2 _ _ ?_
   refine WC.r1 hs3 [] rfl ?_
   refine WC.ret ?_
   refine retV1 rfl (resV.tmp rfl) ?_
   refine ⟨congrArg Ending.returned ?_, hs3.nil⟩
   rw [findI_none (F := encI) (fun j hj => p1 j (by rw [f_s.len] at hj; omega))]
theorem c_slices_DeleteFunc_int_int (v_s : Value) (s : List Int) (L_s : Hp) (p : Int → Bool) (cv : Value) (w : World) (o_s : OwnF encI 3 v_s s L_s) (h_s : ∀ p, p ∈ L_s → w.heap[p.1]? = some p.2) (hcl : ∀ (w1 : World) (Lx : Hp), St w (L_s.map (·.1)) Lx w1 → ∀ m : Int, Calls Tryz.prog 241 #[i64 m, cv] w1 fun e w2 => e = .returned (.bool (p m)) ∧ St w1 [] [] w2) (hn : s.length ≤ 1048576) :
    Calls Tryz.prog 240 #[v_s, .func (.func 241) #[] #[cv]] w fun e w' => ∃ A c n xs L1, e = .returned (.slice A n c) ∧ St w (L_s.map (·.1)) L1 w' ∧ OwnF encI 3 (.slice A n c) xs L1 ∧ xs = s.filter (fun x => !p x) := by
 obtain ⟨A_s, c_s, rfl⟩ := o_s.shape
 refine enter 42 Tryz.func240 rfl Tryz.ntmps240 rfl rfl ?_
 have hs1 := St.lent1 w L_s o_s h_s
 refine WC.r1 hs1 [] rfl ?_
 refine WC.sr ?_
 refine WL.r 2 hs1 [] rfl ?_
 refine WL.cl Tryz.call226 rfl (c_slices_IndexFunc_int_int_csi _ _ _ _ _ _ _ (SlF.ofOwn o_s (hs1.ow L_s)) (fun w_ hx_ => hcl _ _ (St.call0 hs1 hx_)) ?_) ?_
 · first | assumption | rfl | omega
 rintro _ whs2 ⟨rfl, hs2⟩
 replace hs2 := hs1.call0 hs2
 refine ⟨_, rfl, ?_⟩
 refine WL.r 1 hs2 [] rfl ?_
 refine WL.nil ?_
 refine WC.seq (fun K3 hK3 => ?_)
 refine WC.r1 hs2 [] rfl ?_
 refine WC.cq rfl (fun h4 qh4 => ?_) (fun h4 qh4 => ?_)
 ·have hfi : findI p s = -1 := by have h9 := h4; simpa using h9
  refine WC.r1 hs2 [] rfl ?_
  refine WC.ret ?_
  refine tkR ?_
  clear hK3
  refine retV1 rfl (resV.tmp rfl) ?_
  exact ⟨_, _, _, _, _, rfl, (St.keep1 hs2), o_s, (del_none hfi).symm⟩
 ·have hfi : ¬ findI p s = -1 := by have h9 := h4; simpa using h9
  obtain ⟨hf0, hf1⟩ := findI_bnd hfi
  refine WC.skip ?_
  refine hK3 _ _ ?_
  refine WC.seq (fun K5 hK5 => ?_)
  refine WC.r1 hs2 [] rfl ?_
  refine WC.block ?_
  refine WC.lO [1, 4, 12] rfl hs2 (fun k_ f L_ => ∃ (j m : Nat) (zs : List Int), k_ = s.length - j ∧ (j ≤ s.length) ∧ (m < j) ∧ (DelTo p s j m zs) ∧ OwnF encI 3 (.slice A_s (s.length) c_s) (zs) L_ ∧ Sub [(0, .slice A_s (s.length) c_s), (6, .int .i64 j), (5, .int .i64 m)] f) (((fun (j m : Nat) (zs : List Int) => s.length - j) ((findI p s).toNat + 1) ((findI p s).toNat) (s))) ?_ ?_
  ·refine ⟨(findI p s).toNat + 1, (findI p s).toNat, s, rfl, ?_, ?_, ?_, o_s, ⟨rfl, ?_, ?_, trivial⟩⟩
   · omega
   · omega
   · exact delTo_start hfi
   · (refine congrArg some (congrArg (Value.int _) ?_); omega)
   · (refine congrArg some (congrArg (Value.int _) ?_); omega)
  ·clear hs2
   rintro _ f w L8 ⟨j, m, zs, rfl, p0, p1, p2, ho9, hG⟩ hF hs10
   refine WC.sub _ (hG.app hF) ?_
   clear hG hF
   have hzl := p2.len
   refine WC.seq (fun K11 hK11 => ?_)
   refine WC.r1 hs10 [] rfl ?_
   refine WC.cq rfl (fun h12 qh12 => ?_) (fun h12 qh12 => ?_)
   ·refine WC.skip ?_
    refine hK11 _ _ ?_
    refine WC.seq (fun K13 hK13 => ?_)
    refine WC.block ?_
    refine WC.sr ?_
    refine WL.r 2 hs10 [] rfl ?_
    refine WL.val rfl rfl rfl (Run.idxN Tryz.runUnderlying23 Tryz.sizeOf3 rfl rfl rfl ?_ ?_ ?_) ?_
    · exact SlF.some_ (SlF.ofOwn ho9 (hs10.ow L8))
    · first | omega | (simp only [List.length_set]; omega)
    · first | omega | (simp only [List.length_set]; omega)
    refine WL.val rfl rfl rfl (Run.load Tryz.isAgg3 rfl rfl (SlF.one1 (SlF.ofOwn ho9 (hs10.ow L8)) ?_ rfl)) ?_
    · first | omega | (simp only [List.length_set]; omega)
    refine WL.r 1 hs10 [] rfl ?_
    refine WL.nil ?_
    refine WC.sr ?_
    refine WL.r 2 hs10 [] rfl ?_
    refine WL.call rfl rfl rfl (Run.callC Tryz.call241 rfl rfl rfl) (hcl _ _ hs10 _) ?_
    rintro _ whs14 ⟨rfl, hs14⟩
    replace hs14 := hs10.call0 hs14
    refine ⟨_, rfl, ?_⟩
    refine WL.r 1 hs14 [] rfl ?_
    refine WL.nil ?_
    refine WC.cq rfl (fun h15 qh15 => ?_) (fun h15 qh15 => ?_)
    ·refine WC.sr ?_
     refine WL.r 3 hs14 [] rfl ?_
     refine WL.val rfl rfl rfl (Run.idxN Tryz.runUnderlying23 Tryz.sizeOf3 rfl rfl rfl ?_ ?_ ?_) ?_
     · exact SlF.some_ (SlF.ofOwn ho9 (hs14.ow L8))
     · first | omega | (simp only [List.length_set]; omega)
     · first | omega | (simp only [List.length_set]; omega)
     refine WL.storeF1 (x' := _) hs14 ho9 Tryz.sizeOf3 rfl rfl rfl rfl rfl rfl rfl rfl rfl ?_ rfl (fun L16 whs17 hs17 ho18 _ => ?_)
     · first | omega | (simp only [List.length_set]; omega)
     refine WL.nil ?_
     refine WC.region ?_
     refine WL.r 3 hs17 [] rfl ?_
     refine WL.nil ?_
     refine hK13 _ _ ?_
     refine WC.region ?_
     refine WL.r 3 hs17 [] rfl ?_
     refine WL.nil ?_
     refine tkN ?_
     refine ⟨sbF rfl, _, hs17, _, ?_, j + 1, (m + 1), _, rfl, ?_, ?_, ?_, ho18, ⟨rfl, ?_, ?_, trivial⟩⟩
     · omega
     · omega
     · omega
     · first | exact p2.keep (by omega) (by omega) (by have h9 := h15; simpa using h9) | exact p2.skip (by omega) (by have h9 := h15; simpa using h9)
     · (refine congrArg some (congrArg (Value.int _) ?_); omega)
     · (refine congrArg some (congrArg (Value.int _) ?_); omega)
    ·refine WC.skip ?_
     refine hK13 _ _ ?_
     refine WC.region ?_
     refine WL.r 3 hs14 [] rfl ?_
     refine WL.nil ?_
     refine tkN ?_
     refine ⟨sbF rfl, _, hs14, _, ?_, j + 1, m, _, rfl, ?_, ?_, ?_, ho9, ⟨rfl, ?_, ?_, trivial⟩⟩
     · omega
     · omega
     · omega
     · first | exact p2.keep (by omega) (by omega) (by have h9 := h15; simpa using h9) | exact p2.skip (by omega) (by have h9 := h15; simpa using h9)
     · (refine congrArg some (congrArg (Value.int _) ?_); omega)
     · (refine congrArg some (congrArg (Value.int _) ?_); omega)
   ·refine WC.exit ?_
    refine hK5 _ _ ?_
    refine WC.sr ?_
    refine WL.r 2 hs10 [] rfl ?_
    have hc_ := OwnF.cap ho9
    refine WL.val rfl rfl rfl (Run.sliceL (m) Tryz.runUnderlying23 Tryz.sizeOf3 rfl rfl rfl ?_ ?_) ?_
    · first | rfl | (omega)
    · refine ⟨?_, ?_, ?_⟩ <;> (omega)
    have hmt : (zs.take m).length = m := by rw [List.length_take]; omega
    have hcz := OwnF.cap ho9
    refine WL.clearT (m := m) (q := s.length - m) hs10 (OwnF.take (k := m) ho9 (by omega)) Tryz.underlying23 Tryz.zeroValue3 rfl rfl rfl rfl rfl ?_ (fun L19 whs20 hs20 ho21 => ?_)
    · omega
    refine WL.nil ?_
    refine WC.sr ?_
    refine WL.r 2 hs20 [] rfl ?_
    refine WL.val rfl rfl rfl (Run.sliceH0 m Tryz.runUnderlying23 Tryz.sizeOf3 rfl rfl rfl ?_ ?_) ?_
    · omega
    · omega
    refine WL.r 1 hs20 [] rfl ?_
    refine WL.nil ?_
    refine WC.ret ?_
    refine retV1 rfl (resV.tmp rfl) ?_
    exact ⟨_, _, _, _, _, rfl, (St.keep1 hs20), ho21, p2.all (by omega)⟩
end Go.Proofs.YtjmegoiclgancaaGreat
namespace Go.Proofs.YtjmegoiclgancaaGreat
open Go Go.RowKit
set_option linter.unusedVariables false
set_option linter.unusedSimpArgs false
theorem c_impl_areArgs_1 (n : Int) (w : World) :
    Calls Tryz.prog 188 #[i64 n] w fun e w' => e = .returned (.bool (!within n 0 9999)) ∧ St w [] [] w' := by
 refine enter 6 Tryz.func188 rfl Tryz.ntmps188 rfl rfl ?_
 have hs1 := St.init w
 refine WC.r1 hs1 [] rfl ?_
 refine WC.sr ?_
 refine WL.r 1 hs1 [] rfl ?_
 refine WL.cl Tryz.call97 rfl (c_impl_within _ _ _ _) ?_
 rintro _ whs2 ⟨rfl, hs2⟩
 replace hs2 := hs1.call0 hs2
 refine ⟨_, rfl, ?_⟩
 refine WL.r 2 hs2 [] rfl ?_
 refine WL.nil ?_
 refine WC.ret ?_
 refine retV1 rfl (resV.tmp rfl) ?_
 refine ⟨congrArg Ending.returned ?_, hs2.nil⟩
 rfl
theorem c_slices_IndexFunc_int_int (A_s : Option Addr) (n_s c_s : Nat) (s : List Int) (w : World) (f_s : SlF encI w A_s n_s s) (hn : n_s ≤ 1099511627776) :
    Calls Tryz.prog 226 #[.slice A_s n_s c_s, .func (.func 188) #[] #[]] w fun e w' => e = .returned (.int .i64 (findI (fun n => !within n 0 9999) s)) ∧ St w [] [] w' := by
 refine enter 19 Tryz.func226 rfl Tryz.ntmps226 rfl rfl ?_
 have hs1 := St.init w
 refine WC.r1 hs1 [] rfl ?_
 refine WC.seq (fun K2 hK2 => ?_)
 refine WC.r1 hs1 [] rfl ?_
 refine WC.block ?_
 refine WC.lS [0, 1, 7] rfl hs1 (fun k_ f w' => ∃ (i : Nat), k_ = n_s - i ∧ (i ≤ n_s) ∧ (∀ j, j < i → (fun n => !within n 0 9999) (gat encI s j) = false) ∧ Sub [(8, .int .i64 i)] f) ((fun (i : Nat) => n_s - i) (0)) ?_ ?_
 ·refine ⟨0, rfl, ?_, ?_, ⟨rfl, trivial⟩⟩
  · exact Nat.zero_le _
  · exact fun j hj => absurd hj (by omega)
 ·clear hs1
  rintro _ f w ⟨i, rfl, p0, p1, hG⟩ hF hs3
  refine WC.sub _ (hG.app hF) ?_
  clear hG hF
  refine WC.r1 hs3 [] rfl ?_
  refine WC.seq (fun K4 hK4 => ?_)
  refine WC.cond rfl (fun h5 => ?_) (fun h5 => ?_)
  ·have qh5 := h5
   try simp only [decide_eq_true_eq, decide_eq_false_iff_not] at qh5
   refine WC.skip ?_
   refine hK4 _ _ ?_
   refine WC.seq (fun K6 hK6 => ?_)
   refine WC.block ?_
   refine WC.r1 hs3 [] rfl ?_
   refine WC.sr ?_
   refine WL.r 3 hs3 [] rfl ?_
   refine WL.val rfl rfl rfl (Run.idxN Tryz.runUnderlying23 Tryz.sizeOf3 rfl rfl rfl ?_ ?_ ?_) ?_
   · exact SlF.some_ (SlF.st0 f_s hs3)
   · omega
   · omega
   refine WL.val rfl rfl rfl (Run.load Tryz.isAgg3 rfl rfl (SlF.one1 (SlF.st0 f_s hs3) ?_ rfl)) ?_
   · omega
   refine WL.cl Tryz.call188 rfl (c_impl_areArgs_1 _ _) ?_
   rintro _ whs7 ⟨rfl, hs7⟩
   replace hs7 := hs3.call0 hs7
   refine ⟨_, rfl, ?_⟩
   refine WL.nil ?_
   refine WC.cond rfl (fun h8 => ?_) (fun h8 => ?_)
   ·have qh8 := h8
    try simp only [decide_eq_true_eq, decide_eq_false_iff_not] at qh8
    refine WC.r1 hs7 [] rfl ?_
    refine WC.ret ?_
    refine ibR (tkR (tkR (ibR (tkR ?_))))
    clear hK6 hK2
    refine retV1 rfl (resV.tmp rfl) ?_
    refine ⟨congrArg Ending.returned ?_, hs7.nil⟩
    rw [findI_some (F := encI) (by rw [f_s.len]; omega) p1 h8]
   ·have qh8 := h8
    try simp only [decide_eq_true_eq, decide_eq_false_iff_not] at qh8
    refine WC.skip ?_
    refine hK6 _ _ ?_
    refine WC.region ?_
    refine WL.r 2 hs7 [] rfl ?_
    refine WL.nil ?_
    refine tkN ?_
    refine ⟨sbF rfl, hs7, _, ?_, i + 1, rfl, ?_, ?_, ⟨rfl, trivial⟩⟩
    · omega
    · omega
    · intro j hj; rcases Nat.lt_or_ge j i with h_ | h_
      · exact p1 j h_
      · obtain rfl : j = i := by omega
        exact h8
  ·have qh5 := h5
   try simp only [decide_eq_true_eq, decide_eq_false_iff_not] at qh5
   refine WC.exit ?_
   refine hK2 _ _ ?_
   refine WC.r1 hs3 [] rfl ?_
   refine WC.ret ?_
   refine retV1 rfl (resV.tmp rfl) ?_
   refine ⟨congrArg Ending.returned ?_, hs3.nil⟩
   rw [findI_none (F := encI) (fun j hj => p1 j (by rw [f_s.len] at hj; omega))]
theorem c_slices_ContainsFunc_int_int (A_s : Option Addr) (n_s c_s : Nat) (s : List Int) (w : World) (f_s : SlF encI w A_s n_s s) (hn : n_s ≤ 549755813888) :
    Calls Tryz.prog 187 #[.slice A_s n_s c_s, .func (.func 188) #[] #[]] w fun e w' => e = .returned (.bool (decide (0 ≤ findI (fun n => !within n 0 9999) s))) ∧ St w [] [] w' := by
 refine enter 9 Tryz.func187 rfl Tryz.ntmps187 rfl rfl ?_
 have hs1 := St.init w
 refine WC.r1 hs1 [] rfl ?_
 refine WC.sr ?_
 refine WL.r 2 hs1 [] rfl ?_
 refine WL.cl Tryz.call226 rfl (c_slices_IndexFunc_int_int _ _ _ _ _ (SlF.st0 f_s hs1) ?_) ?_
 · first | assumption | rfl | omega
 rintro _ whs2 ⟨rfl, hs2⟩
 replace hs2 := hs1.call0 hs2
 refine ⟨_, rfl, ?_⟩
 refine WL.r 2 hs2 [] rfl ?_
 refine WL.nil ?_
 refine WC.ret ?_
 refine retV1 rfl (resV.tmp rfl) ?_
 refine ⟨congrArg Ending.returned ?_, hs2.nil⟩
 rfl
theorem c_impl_areArgs (A_l : Option Addr) (n_l c_l : Nat) (l : List Int) (w : World) (f_l : SlF encI w A_l n_l l) (hn : n_l ≤ 549755813888) :
    Calls Tryz.prog 101 #[.slice A_l n_l c_l] w fun e w' => e = .returned (.bool (areArgs l)) ∧ St w [] [] w' := by
 refine enter 11 Tryz.func101 rfl Tryz.ntmps101 rfl rfl ?_
 have hs1 := St.init w
 refine WC.r1 hs1 [] rfl ?_
 refine WC.sr ?_
 refine WL.r 4 hs1 [] rfl ?_
 apply WL.gA 3 Acts.nil hs1 rfl
 ·intro g2 J3
  have qg2 := g2
  try simp only [bf, within_iff, within_not] at qg2
  refine WL.runA tbk 1 (Acts.nil.cons (j := 3) rfl g2) hs1 [] rfl trivial ?_
  refine WL.call (wantT rfl g2) rfl rfl (Run.call Tryz.call187 rfl rfl rfl) (c_slices_ContainsFunc_int_int _ _ _ _ _ (SlF.st0 f_l hs1) ?_) ?_
  · first | assumption | rfl | omega
  rintro _ whs4 ⟨rfl, hs4⟩
  replace hs4 := hs1.call0 hs4
  refine ⟨_, rfl, ?_⟩
  refine WL.runA tbk 1 (Acts.nil.cons (j := 3) rfl g2) hs4 [] rfl trivial ?_
  exact WL.eA 3 Acts.nil J3 hs4 g2 rfl rfl
 ·intro _ hs5
  refine WL.r 1 hs5 [] rfl ?_
  refine WL.nil ?_
  refine WC.ret ?_
  refine retV1 rfl (resV.tmp rfl) ?_
  refine ⟨congrArg Ending.returned ?_, hs5.nil⟩
  rw [all_find, ← f_l.len]; unfold areArgs; rw [show decide ((l.length : Int) ≤ 8) = decide (l.length ≤ 8) from by rw [decide_eq_decide]; omega]
end Go.Proofs.YtjmegoiclgancaaGreat
namespace Go.Proofs.YtjmegoiclgancaaGreat
open Go Go.RowKit
set_option linter.unusedVariables false
set_option linter.unusedSimpArgs false
theorem c_impl_argOf_0 (A_l : Option Addr) (n_l c_l : Nat) (l : List Int) (d : Int) (w : World) (f_l : SlF encI w A_l n_l l) (hn : n_l ≤ 549755813888) :
    Calls Tryz.prog 233 #[.slice A_l n_l c_l, i64 0, i64 d] w fun e w' => e = .returned (i64 (argI l 0 d)) ∧ St w [] [] w' := by
 have hl := f_l.len
 refine enter 23 Tryz.func233 rfl Tryz.ntmps233 rfl rfl ?_
 have hs1 := St.init w
 refine WC.r1 hs1 [] rfl ?_
 refine WC.seq (fun K2 hK2 => ?_)
 refine WC.sr ?_
 refine WL.r 5 hs1 [] rfl ?_
 apply WL.gA 5 Acts.nil hs1 rfl
 ·intro g3 J4
  have qg3 := g3
  try simp only [bf, within_iff, within_not] at qg3
  refine WL.runA tbk 2 (Acts.nil.cons (j := 4) rfl g3) hs1 [] rfl trivial ?_
  refine WL.val (wantT rfl g3) rfl rfl (Run.idx Tryz.runUnderlying23 Tryz.sizeOf3 rfl rfl rfl ?_ ?_ ?_) ?_
  · exact SlF.some_ (SlF.st0 f_l hs1)
  · omega
  · omega
  refine WL.val (wantT rfl g3) rfl rfl (Run.load Tryz.isAgg3 rfl rfl (SlF.one1 (SlF.st0 f_l hs1) ?_ rfl)) ?_
  · omega
  refine WL.runA tbk 1 (Acts.nil.cons (j := 4) rfl g3) hs1 [] rfl trivial ?_
  exact WL.eA 5 Acts.nil J4 hs1 g3 rfl rfl
 ·intro _ hs5
  refine WL.nil ?_
  refine WC.cq rfl (fun h6 qh6 => ?_) (fun h6 qh6 => ?_)
  ·have hp : 0 < l.length ∧ iat l 0 ≠ 0 := by have h9 := h6; simp at h9; exact ⟨by omega, h9.2⟩
   refine WC.sr ?_
   refine WL.r 2 hs5 [] rfl ?_
   refine WL.val rfl rfl rfl (Run.idx Tryz.runUnderlying23 Tryz.sizeOf3 rfl rfl rfl ?_ ?_ ?_) ?_
   · exact SlF.some_ (SlF.st0 f_l hs5)
   · omega
   · omega
   refine WL.val rfl rfl rfl (Run.load Tryz.isAgg3 rfl rfl (SlF.one1 (SlF.st0 f_l hs5) ?_ rfl)) ?_
   · omega
   refine WL.r 1 hs5 [] rfl ?_
   refine WL.nil ?_
   refine WC.ret ?_
   refine tkR ?_
   clear hK2
   refine retV1 rfl (resV.tmp rfl) ?_
   refine ⟨congrArg Ending.returned ?_, hs5.nil⟩
   rw [show argI l 0 d = iat l 0 from by unfold argI; rw [if_pos hp]]; rfl
  ·have hp : ¬ (0 < l.length ∧ iat l 0 ≠ 0) := by rintro ⟨h7, h8⟩; have h9 := h6; simp at h9; exact h8 (h9 (by omega))
   refine WC.skip ?_
   refine hK2 _ _ ?_
   refine WC.r1 hs5 [] rfl ?_
   refine WC.ret ?_
   refine retV1 rfl (resV.tmp rfl) ?_
   refine ⟨congrArg Ending.returned ?_, hs5.nil⟩
   rw [show argI l 0 d = d from by unfold argI; rw [if_neg hp]]
theorem c_impl_argOf_1 (A_l : Option Addr) (n_l c_l : Nat) (l : List Int) (d : Int) (w : World) (f_l : SlF encI w A_l n_l l) (hn : n_l ≤ 549755813888) :
    Calls Tryz.prog 233 #[.slice A_l n_l c_l, i64 1, i64 d] w fun e w' => e = .returned (i64 (argI l 1 d)) ∧ St w [] [] w' := by
 have hl := f_l.len
 refine enter 23 Tryz.func233 rfl Tryz.ntmps233 rfl rfl ?_
 have hs1 := St.init w
 refine WC.r1 hs1 [] rfl ?_
 refine WC.seq (fun K2 hK2 => ?_)
 refine WC.sr ?_
 refine WL.r 5 hs1 [] rfl ?_
 apply WL.gA 5 Acts.nil hs1 rfl
 ·intro g3 J4
  have qg3 := g3
  try simp only [bf, within_iff, within_not] at qg3
  refine WL.runA tbk 2 (Acts.nil.cons (j := 4) rfl g3) hs1 [] rfl trivial ?_
  refine WL.val (wantT rfl g3) rfl rfl (Run.idx Tryz.runUnderlying23 Tryz.sizeOf3 rfl rfl rfl ?_ ?_ ?_) ?_
  · exact SlF.some_ (SlF.st0 f_l hs1)
  · omega
  · omega
  refine WL.val (wantT rfl g3) rfl rfl (Run.load Tryz.isAgg3 rfl rfl (SlF.one1 (SlF.st0 f_l hs1) ?_ rfl)) ?_
  · omega
  refine WL.runA tbk 1 (Acts.nil.cons (j := 4) rfl g3) hs1 [] rfl trivial ?_
  exact WL.eA 5 Acts.nil J4 hs1 g3 rfl rfl
 ·intro _ hs5
  refine WL.nil ?_
  refine WC.cq rfl (fun h6 qh6 => ?_) (fun h6 qh6 => ?_)
  ·have hp : 1 < l.length ∧ iat l 1 ≠ 0 := by have h9 := h6; simp at h9; exact ⟨by omega, h9.2⟩
   refine WC.sr ?_
   refine WL.r 2 hs5 [] rfl ?_
   refine WL.val rfl rfl rfl (Run.idx Tryz.runUnderlying23 Tryz.sizeOf3 rfl rfl rfl ?_ ?_ ?_) ?_
   · exact SlF.some_ (SlF.st0 f_l hs5)
   · omega
   · omega
   refine WL.val rfl rfl rfl (Run.load Tryz.isAgg3 rfl rfl (SlF.one1 (SlF.st0 f_l hs5) ?_ rfl)) ?_
   · omega
   refine WL.r 1 hs5 [] rfl ?_
   refine WL.nil ?_
   refine WC.ret ?_
   refine tkR ?_
   clear hK2
   refine retV1 rfl (resV.tmp rfl) ?_
   refine ⟨congrArg Ending.returned ?_, hs5.nil⟩
   rw [show argI l 1 d = iat l 1 from by unfold argI; rw [if_pos hp]]; rfl
  ·have hp : ¬ (1 < l.length ∧ iat l 1 ≠ 0) := by rintro ⟨h7, h8⟩; have h9 := h6; simp at h9; exact h8 (h9 (by omega))
   refine WC.skip ?_
   refine hK2 _ _ ?_
   refine WC.r1 hs5 [] rfl ?_
   refine WC.ret ?_
   refine retV1 rfl (resV.tmp rfl) ?_
   refine ⟨congrArg Ending.returned ?_, hs5.nil⟩
   rw [show argI l 1 d = d from by unfold argI; rw [if_neg hp]]
theorem c_impl_Scr_move (b_s : Nat) (s : ScrR) (L_s : Hp) (x : Int) (y : Int) (w : World) (hb_s : w.heap[b_s]? = some (Obj.cells (List.toArray (cScr s)) 33 (0, 0))) (o_s : ownScrR s L_s) (h_s : ∀ p, p ∈ L_s → w.heap[p.1]? = some p.2) (hd_ : (b_s :: L_s.map (·.1)).Nodup) (hwh : (1 ≤ s.W ∧ s.W ≤ 120) ∧ 1 ≤ s.H ∧ s.H ≤ 120) :
    Calls Tryz.prog 225 #[.pointer (some ⟨b_s, 0, none⟩), i64 x, i64 y] w fun e w' => ∃ r L1, e = .returned (.tuple #[]) ∧ St w (b_s :: L_s.map (·.1)) ([(b_s, Obj.cells (List.toArray (cScr r)) 33 (0, 0))] ++ L1) w' ∧ ownScrR r L1 ∧ r.dat = moveD s.dat x y := by
 refine enter 31 Tryz.func225 rfl Tryz.ntmps225 rfl rfl ?_
 have hs1 := St.takeP w b_s _ L_s hb_s h_s hd_
 refine WC.rG 21 hs1.d1 hs1 hs1 (fun _ hs2 => ?_)
 refine WG.rn [0, 1, 2, 3, 4] hs2 [] rfl rfl ?_
 refine WG.tk 5 rfl (by kernel_rfl) rfl rfl rfl hs2 (fun w_ hs_ => (Run.nilCheck rfl rfl)) ?_
 refine WG.rn [6, 7, 8, 9, 10, 11, 12] hs2 [0] rfl rfl ?_
 refine WG.tk 13 rfl (by kernel_rfl) rfl rfl rfl hs2 (fun w_ hs_ => (Run.nilCheck rfl rfl)) ?_
 refine WG.rn [14, 15, 16, 17, 18] hs2 [0] rfl rfl ?_
 refine WG.tk 19 rfl (by kernel_rfl) rfl rfl rfl hs2 (fun w_ hs_ => (Run.nilCheck rfl rfl)) ?_
 refine WG.rn [20] hs2 [] rfl rfl ?_
 refine WG.oK rfl ?_
 refine WL.st tbk hs2 0 rfl rfl (fun _ hs3 => ?_)
 refine WL.nil ⟨hs3.d1, ?_⟩
 refine WH.take 22 rfl (by kernel_rfl) rfl rfl rfl hs3.d1 (fun w_ hs_ => (Run.nilCheck rfl rfl)) ?_
 refine WH.rn [23] hs3.d1 [] rfl rfl ?_
 refine WH.o1 24 rfl ?_
 refine WL.st tbk hs3 0 rfl rfl (fun _ hs4 => ?_)
 refine WL.nil ⟨hs4.d1, ?_⟩
 refine WH.take 25 rfl (by kernel_rfl) rfl rfl rfl hs4.d1 (fun w_ hs_ => (Run.nilCheck rfl rfl)) ?_
 refine WH.rn [26] hs4.d1 [] rfl rfl ?_
 refine WH.o1 27 rfl ?_
 refine WL.st tbk hs4 0 rfl rfl (fun _ hs5 => ?_)
 refine WL.nil ⟨hs5.d1, ?_⟩
 refine WH.dn ?_
 refine retK0 rfl ?_
 obtain ⟨L6, L7, L8, L9, hs14, ho10, ho11, ho12, ho13⟩ := ownScrR.open_ (hs5.fr L_s) o_s
 have hs15 := (hs14.fb b_s)
 obtain ⟨L17, hs16, ho18⟩ := ownScrR.fl ((((hs15.fr L9).fr L8).fr L7).fr L6) ho10 ho11 ho12 ho13
 have hs19 := (hs16.fb b_s)
 refine ⟨⟨s.W, s.H, ⟨s.Main.W, s.Main.H, SlD.of ho10⟩, ⟨s.Alt.W, s.Alt.H, SlD.of ho11⟩, s.OnAlt, (max (0) (min x (s.W - (1)))), (max (0) (min y (s.H - (1)))), false, ⟨s.A.Fg, s.A.Bg, s.A.Bold, s.A.Under, s.A.Turn⟩, s.Top, s.Bot, s.NoWrap, s.Hide, s.SaveX, s.SaveY, ⟨s.SaveA.Fg, s.SaveA.Bg, s.SaveA.Bold, s.SaveA.Under, s.SaveA.Turn⟩, SlD.of ho12, s.Limit, SlD.ofN ho13⟩, _, rfl, St.keepP (L1 := L17) ((hs19.fr L17).fb b_s), (by exact ho18), ?_⟩
 · rfl
theorem c_impl_Scr_moveBy (b_s : Nat) (s : ScrR) (L_s : Hp) (n : Int) (m : Int) (b : Int) (w : World) (hb_s : w.heap[b_s]? = some (Obj.cells (List.toArray (cScr s)) 33 (0, 0))) (o_s : ownScrR s L_s) (h_s : ∀ p, p ∈ L_s → w.heap[p.1]? = some p.2) (hd_ : (b_s :: L_s.map (·.1)).Nodup) (hf : ScrFine s.dat) (hn : 0 ≤ n ∧ n ≤ 9999) (hm : 0 ≤ m ∧ m ≤ 9999) :
    Calls Tryz.prog 234 #[.pointer (some ⟨b_s, 0, none⟩), i64 n, i64 m, i64 b] w fun e w' => ∃ r L1, e = .returned (.bool (isMove b)) ∧ St w (b_s :: L_s.map (·.1)) ([(b_s, Obj.cells (List.toArray (cScr r)) 33 (0, 0))] ++ L1) w' ∧ ownScrR r L1 ∧ r.dat = moveByD s.dat n m b := by
 have hwh : (1 ≤ s.W ∧ s.W ≤ 120) ∧ 1 ≤ s.H ∧ s.H ≤ 120 := ⟨(isSize_bnd hf.size).1, (isSize_bnd hf.size).2.1⟩
 have hxy := hf.pos
 simp only [ScrR.dat, GridR.dat] at hxy
 refine enter 95 Tryz.func234 rfl Tryz.ntmps234 rfl rfl ?_
 have hs1 := St.takeP w b_s _ L_s hb_s h_s hd_
 refine WC.r1 hs1 [] rfl ?_
 refine WC.seq (fun K2 hK2 => ?_)
 refine WC.r1 hs1 [] rfl ?_
 refine WC.block ?_
 refine WC.r1 hs1 [] rfl ?_
 refine WC.cq rfl (fun h3 qh3 => ?_) (fun h3 qh3 => ?_)
 ·have e65 : b = 65 := by have h9 := h3; simpa using h9
  refine WC.rG 11 (hs1.d1.rm L_s) hs1 hs1 (fun _ hs4 => ?_)
  refine WG.rn [0, 1] hs4 [] rfl rfl ?_
  refine WG.tk 2 rfl (by kernel_rfl) rfl rfl rfl hs4 (fun w_ hs_ => (Run.nilCheck rfl rfl)) ?_
  refine WG.rn [3, 4, 5] hs4 [0] rfl rfl ?_
  refine WG.tk 6 rfl (by kernel_rfl) rfl rfl rfl hs4 (fun w_ hs_ => (Run.nilCheck rfl rfl)) ?_
  refine WG.rn [7, 8, 9, 10] hs4 [0] rfl rfl ?_
  refine WG.oK rfl ?_
  have hF5 : St _ _ ((_, _) :: (L_s ++ _)) _ := ((hs4.fr L_s).fb b_s)
  refine WL.cl Tryz.call225 rfl (c_impl_Scr_move _ s _ _ _ _ (St.headP hF5) o_s (St.ownP hF5) (St.nodupP hF5) ?_) ?_
  · first | (first | assumption | rfl | omega) | (first | assumption | omega)
  rintro _ whs6 ⟨r7, L8, rfl, hs6, ho9, hd10⟩
  replace hs6 := St.lendP hF5 hs6
  refine ⟨_, rfl, ?_⟩
  refine WL.nil ⟨(hs6.d1.rm L8), ?_⟩
  refine WH.dn ?_
  refine hK2 _ _ ?_
  refine WC.r1 hs6 [] rfl ?_
  refine WC.ret ?_
  refine retV1 rfl (resV.tmp rfl) ?_
  have hmv : isMove b = true := by unfold isMove; rw [decide_eq_true_eq]; omega
  refine ⟨r7, _, (by rw [hmv]), St.keepP (L1 := L8) ((hs6.fr L8).fb b_s), ho9, ?_⟩
  · unfold moveByD; rw [if_pos e65]; exact hd10
 ·have e65 : ¬ b = 65 := by have h9 := h3; simpa using h9
  refine WC.r1 hs1 [] rfl ?_
  refine WC.cq rfl (fun h11 qh11 => ?_) (fun h11 qh11 => ?_)
  ·have e66 : b = 66 := by have h9 := h11; simpa using h9
   refine WC.rG 11 (hs1.d1.rm L_s) hs1 hs1 (fun _ hs12 => ?_)
   refine WG.rn [0, 1] hs12 [] rfl rfl ?_
   refine WG.tk 2 rfl (by kernel_rfl) rfl rfl rfl hs12 (fun w_ hs_ => (Run.nilCheck rfl rfl)) ?_
   refine WG.rn [3, 4, 5] hs12 [0] rfl rfl ?_
   refine WG.tk 6 rfl (by kernel_rfl) rfl rfl rfl hs12 (fun w_ hs_ => (Run.nilCheck rfl rfl)) ?_
   refine WG.rn [7, 8, 9, 10] hs12 [0] rfl rfl ?_
   refine WG.oK rfl ?_
   have hF13 : St _ _ ((_, _) :: (L_s ++ _)) _ := ((hs12.fr L_s).fb b_s)
   refine WL.cl Tryz.call225 rfl (c_impl_Scr_move _ s _ _ _ _ (St.headP hF13) o_s (St.ownP hF13) (St.nodupP hF13) ?_) ?_
   · first | (first | assumption | rfl | omega) | (first | assumption | omega)
   rintro _ whs14 ⟨r15, L16, rfl, hs14, ho17, hd18⟩
   replace hs14 := St.lendP hF13 hs14
   refine ⟨_, rfl, ?_⟩
   refine WL.nil ⟨(hs14.d1.rm L16), ?_⟩
   refine WH.dn ?_
   refine hK2 _ _ ?_
   refine WC.r1 hs14 [] rfl ?_
   refine WC.ret ?_
   refine retV1 rfl (resV.tmp rfl) ?_
   have hmv : isMove b = true := by unfold isMove; rw [decide_eq_true_eq]; omega
   refine ⟨r15, _, (by rw [hmv]), St.keepP (L1 := L16) ((hs14.fr L16).fb b_s), ho17, ?_⟩
   · unfold moveByD; rw [if_neg e65, if_pos e66]; exact hd18
  ·have e66 : ¬ b = 66 := by have h9 := h11; simpa using h9
   refine WC.r1 hs1 [] rfl ?_
   refine WC.cq rfl (fun h19 qh19 => ?_) (fun h19 qh19 => ?_)
   ·have e67 : b = 67 := by have h9 := h19; simpa using h9
    refine WC.rG 11 (hs1.d1.rm L_s) hs1 hs1 (fun _ hs20 => ?_)
    refine WG.rn [0, 1] hs20 [] rfl rfl ?_
    refine WG.tk 2 rfl (by kernel_rfl) rfl rfl rfl hs20 (fun w_ hs_ => (Run.nilCheck rfl rfl)) ?_
    refine WG.rn [3, 4, 5, 6, 7] hs20 [0] rfl rfl ?_
    refine WG.tk 8 rfl (by kernel_rfl) rfl rfl rfl hs20 (fun w_ hs_ => (Run.nilCheck rfl rfl)) ?_
    refine WG.rn [9, 10] hs20 [0] rfl rfl ?_
    refine WG.oK rfl ?_
    have hF21 : St _ _ ((_, _) :: (L_s ++ _)) _ := ((hs20.fr L_s).fb b_s)
    refine WL.cl Tryz.call225 rfl (c_impl_Scr_move _ s _ _ _ _ (St.headP hF21) o_s (St.ownP hF21) (St.nodupP hF21) ?_) ?_
    · first | (first | assumption | rfl | omega) | (first | assumption | omega)
    rintro _ whs22 ⟨r23, L24, rfl, hs22, ho25, hd26⟩
    replace hs22 := St.lendP hF21 hs22
    refine ⟨_, rfl, ?_⟩
    refine WL.nil ⟨(hs22.d1.rm L24), ?_⟩
    refine WH.dn ?_
    refine hK2 _ _ ?_
    refine WC.r1 hs22 [] rfl ?_
    refine WC.ret ?_
    refine retV1 rfl (resV.tmp rfl) ?_
    have hmv : isMove b = true := by unfold isMove; rw [decide_eq_true_eq]; omega
    refine ⟨r23, _, (by rw [hmv]), St.keepP (L1 := L24) ((hs22.fr L24).fb b_s), ho25, ?_⟩
    · unfold moveByD; rw [if_neg e65, if_neg e66, if_pos e67]; exact hd26
   ·have e67 : ¬ b = 67 := by have h9 := h19; simpa using h9
    refine WC.r1 hs1 [] rfl ?_
    refine WC.cq rfl (fun h27 qh27 => ?_) (fun h27 qh27 => ?_)
    ·have e68 : b = 68 := by have h9 := h27; simpa using h9
     refine WC.rG 11 (hs1.d1.rm L_s) hs1 hs1 (fun _ hs28 => ?_)
     refine WG.rn [0, 1] hs28 [] rfl rfl ?_
     refine WG.tk 2 rfl (by kernel_rfl) rfl rfl rfl hs28 (fun w_ hs_ => (Run.nilCheck rfl rfl)) ?_
     refine WG.rn [3, 4, 5, 6, 7] hs28 [0] rfl rfl ?_
     refine WG.tk 8 rfl (by kernel_rfl) rfl rfl rfl hs28 (fun w_ hs_ => (Run.nilCheck rfl rfl)) ?_
     refine WG.rn [9, 10] hs28 [0] rfl rfl ?_
     refine WG.oK rfl ?_
     have hF29 : St _ _ ((_, _) :: (L_s ++ _)) _ := ((hs28.fr L_s).fb b_s)
     refine WL.cl Tryz.call225 rfl (c_impl_Scr_move _ s _ _ _ _ (St.headP hF29) o_s (St.ownP hF29) (St.nodupP hF29) ?_) ?_
     · first | (first | assumption | rfl | omega) | (first | assumption | omega)
     rintro _ whs30 ⟨r31, L32, rfl, hs30, ho33, hd34⟩
     replace hs30 := St.lendP hF29 hs30
     refine ⟨_, rfl, ?_⟩
     refine WL.nil ⟨(hs30.d1.rm L32), ?_⟩
     refine WH.dn ?_
     refine hK2 _ _ ?_
     refine WC.r1 hs30 [] rfl ?_
     refine WC.ret ?_
     refine retV1 rfl (resV.tmp rfl) ?_
     have hmv : isMove b = true := by unfold isMove; rw [decide_eq_true_eq]; omega
     refine ⟨r31, _, (by rw [hmv]), St.keepP (L1 := L32) ((hs30.fr L32).fb b_s), ho33, ?_⟩
     · unfold moveByD; rw [if_neg e65, if_neg e66, if_neg e67, if_pos e68]; exact hd34
    ·have e68 : ¬ b = 68 := by have h9 := h27; simpa using h9
     refine WC.r1 hs1 [] rfl ?_
     refine WC.cq rfl (fun h35 qh35 => ?_) (fun h35 qh35 => ?_)
     ·have e71 : b = 71 := by have h9 := h35; simpa using h9
      refine WC.region ?_
      refine WL.r 4 hs1 [] rfl ?_
      refine WL.val rfl rfl rfl (Run.nilCheck rfl rfl) ?_
      refine WL.r 2 hs1 [0] rfl ?_
      have hF36 : St _ _ ((_, _) :: (L_s ++ _)) _ := ((hs1.fr L_s).fb b_s)
      refine WL.cl Tryz.call225 rfl (c_impl_Scr_move _ s _ _ _ _ (St.headP hF36) o_s (St.ownP hF36) (St.nodupP hF36) ?_) ?_
      · first | (first | assumption | rfl | omega) | (first | assumption | omega)
      rintro _ whs37 ⟨r38, L39, rfl, hs37, ho40, hd41⟩
      replace hs37 := St.lendP hF36 hs37
      refine ⟨_, rfl, ?_⟩
      refine WL.nil ?_
      refine hK2 _ _ ?_
      refine WC.r1 hs37 [] rfl ?_
      refine WC.ret ?_
      refine retV1 rfl (resV.tmp rfl) ?_
      have hmv : isMove b = true := by unfold isMove; rw [decide_eq_true_eq]; omega
      refine ⟨r38, _, (by rw [hmv]), St.keepP (L1 := L39) ((hs37.fr L39).fb b_s), ho40, ?_⟩
      · unfold moveByD; rw [if_neg e65, if_neg e66, if_neg e67, if_neg e68, if_pos e71]; exact hd41
     ·have e71 : ¬ b = 71 := by have h9 := h35; simpa using h9
      refine WC.r1 hs1 [] rfl ?_
      refine WC.cq rfl (fun h42 qh42 => ?_) (fun h42 qh42 => ?_)
      ·have e100 : b = 100 := by have h9 := h42; simpa using h9
       refine WC.region ?_
       refine WL.r 2 hs1 [] rfl ?_
       refine WL.val rfl rfl rfl (Run.nilCheck rfl rfl) ?_
       refine WL.r 4 hs1 [0] rfl ?_
       have hF43 : St _ _ ((_, _) :: (L_s ++ _)) _ := ((hs1.fr L_s).fb b_s)
       refine WL.cl Tryz.call225 rfl (c_impl_Scr_move _ s _ _ _ _ (St.headP hF43) o_s (St.ownP hF43) (St.nodupP hF43) ?_) ?_
       · first | (first | assumption | rfl | omega) | (first | assumption | omega)
       rintro _ whs44 ⟨r45, L46, rfl, hs44, ho47, hd48⟩
       replace hs44 := St.lendP hF43 hs44
       refine ⟨_, rfl, ?_⟩
       refine WL.nil ?_
       refine hK2 _ _ ?_
       refine WC.r1 hs44 [] rfl ?_
       refine WC.ret ?_
       refine retV1 rfl (resV.tmp rfl) ?_
       have hmv : isMove b = true := by unfold isMove; rw [decide_eq_true_eq]; omega
       refine ⟨r45, _, (by rw [hmv]), St.keepP (L1 := L46) ((hs44.fr L46).fb b_s), ho47, ?_⟩
       · unfold moveByD; rw [if_neg e65, if_neg e66, if_neg e67, if_neg e68, if_neg e71, if_pos e100]; exact hd48
      ·have e100 : ¬ b = 100 := by have h9 := h42; simpa using h9
       refine WC.seq (fun K49 hK49 => ?_)
       refine WC.r1 hs1 [] rfl ?_
       refine WC.cq rfl (fun h50 qh50 => ?_) (fun h50 qh50 => ?_)
       ·have e72 : b = 72 := by have h9 := h50; simpa using h9
        refine WC.skip ?_
        refine hK49 _ _ ?_
        refine WC.condT rfl h50 ?_
        refine WC.region ?_
        refine WL.r 5 hs1 [] rfl ?_
        have hF52 : St _ _ ((_, _) :: (L_s ++ _)) _ := ((hs1.fr L_s).fb b_s)
        refine WL.cl Tryz.call225 rfl (c_impl_Scr_move _ s _ _ _ _ (St.headP hF52) o_s (St.ownP hF52) (St.nodupP hF52) ?_) ?_
        · first | (first | assumption | rfl | omega) | (first | assumption | omega)
        rintro _ whs53 ⟨r54, L55, rfl, hs53, ho56, hd57⟩
        replace hs53 := St.lendP hF52 hs53
        refine ⟨_, rfl, ?_⟩
        refine WL.nil ?_
        refine hK2 _ _ ?_
        refine WC.r1 hs53 [] rfl ?_
        refine WC.ret ?_
        refine retV1 rfl (resV.tmp rfl) ?_
        have hmv : isMove b = true := by unfold isMove; rw [decide_eq_true_eq]; omega
        refine ⟨r54, _, (by rw [hmv]), St.keepP (L1 := L55) ((hs53.fr L55).fb b_s), ho56, ?_⟩
        · unfold moveByD; rw [if_neg e65, if_neg e66, if_neg e67, if_neg e68, if_neg e71, if_neg e100, if_pos (show b = 72 ∨ b = 102 by omega)]; exact hd57
       ·have e72 : ¬ b = 72 := by have h9 := h50; simpa using h9
        refine WC.region ?_
        refine WL.r 2 hs1 [] rfl ?_
        refine WL.nil ?_
        refine hK49 _ _ ?_
        refine WC.cq rfl (fun h58 qh58 => ?_) (fun h58 qh58 => ?_)
        ·have e102 : b = 102 := by have h9 := h58; simpa using h9
         refine WC.region ?_
         refine WL.r 5 hs1 [] rfl ?_
         have hF59 : St _ _ ((_, _) :: (L_s ++ _)) _ := ((hs1.fr L_s).fb b_s)
         refine WL.cl Tryz.call225 rfl (c_impl_Scr_move _ s _ _ _ _ (St.headP hF59) o_s (St.ownP hF59) (St.nodupP hF59) ?_) ?_
         · first | (first | assumption | rfl | omega) | (first | assumption | omega)
         rintro _ whs60 ⟨r61, L62, rfl, hs60, ho63, hd64⟩
         replace hs60 := St.lendP hF59 hs60
         refine ⟨_, rfl, ?_⟩
         refine WL.nil ?_
         refine hK2 _ _ ?_
         refine WC.r1 hs60 [] rfl ?_
         refine WC.ret ?_
         refine retV1 rfl (resV.tmp rfl) ?_
         have hmv : isMove b = true := by unfold isMove; rw [decide_eq_true_eq]; omega
         refine ⟨r61, _, (by rw [hmv]), St.keepP (L1 := L62) ((hs60.fr L62).fb b_s), ho63, ?_⟩
         · unfold moveByD; rw [if_neg e65, if_neg e66, if_neg e67, if_neg e68, if_neg e71, if_neg e100, if_pos (show b = 72 ∨ b = 102 by omega)]; exact hd64
        ·have e102 : ¬ b = 102 := by have h9 := h58; simpa using h9
         refine WC.r1 hs1 [] rfl ?_
         refine WC.ret ?_
         refine ibR (tkR ?_)
         clear hK2
         refine retV1 rfl (resV.tmp rfl) ?_
         have hmv : isMove b = false := by unfold isMove; rw [decide_eq_false_iff_not]; omega
         refine ⟨s, _, (by rw [hmv]), St.keepP (L1 := L_s) ((hs1.fr L_s).fb b_s), o_s, ?_⟩
         · unfold moveByD; rw [if_neg e65, if_neg e66, if_neg e67, if_neg e68, if_neg e71, if_neg e100, if_neg (show ¬ (b = 72 ∨ b = 102) by omega)]
theorem c_impl_Scr_region (b_s : Nat) (s : ScrR) (L_s : Hp) (A_l : Option Addr) (n_l c_l : Nat) (l : List Int) (n : Int) (w : World) (hb_s : w.heap[b_s]? = some (Obj.cells (List.toArray (cScr s)) 33 (0, 0))) (o_s : ownScrR s L_s) (h_s : ∀ p, p ∈ L_s → w.heap[p.1]? = some p.2) (f_l : SlF encI w A_l n_l l) (hd_ : (b_s :: L_s.map (·.1)).Nodup) (s_l : 0 < n_l → (adr A_l).block ∉ (b_s :: L_s.map (·.1))) (hf : ScrFine s.dat) (hna : n = argI l 0 1) (hl : areArgs l = true) (hll : n_l ≤ 549755813888) :
    Calls Tryz.prog 239 #[.pointer (some ⟨b_s, 0, none⟩), .slice A_l n_l c_l, i64 n] w fun e w' => ∃ r L1, e = .returned (.tuple #[]) ∧ St w (b_s :: L_s.map (·.1)) ([(b_s, Obj.cells (List.toArray (cScr r)) 33 (0, 0))] ++ L1) w' ∧ ownScrR r L1 ∧ r.dat = regionD s.dat l := by
 have hwh : (1 ≤ s.W ∧ s.W ≤ 120) ∧ 1 ≤ s.H ∧ s.H ≤ 120 := ⟨(isSize_bnd hf.size).1, (isSize_bnd hf.size).2.1⟩
 have hxy := hf.pos
 simp only [ScrR.dat, GridR.dat] at hxy
 have ha0 := argI_bnd (k := 0) (d := 1) hl (by omega)
 have ha1 : 0 ≤ argI l 1 s.H ∧ argI l 1 s.H ≤ 9999 := argI_bnd hl (by omega)
 refine enter 38 Tryz.func239 rfl Tryz.ntmps239 rfl rfl ?_
 have hs1 := St.takeP w b_s _ L_s hb_s h_s hd_
 refine WC.sr ?_
 refine WL.r 4 hs1 [] rfl ?_
 refine WL.val rfl rfl rfl (Run.nilCheck rfl rfl) ?_
 refine WL.r 2 hs1 [0] rfl ?_
 refine WL.cl Tryz.call233 rfl (c_impl_argOf_1 _ _ _ _ _ _ (SlF.st f_l hs1 s_l) ?_) ?_
 · first | (first | assumption | rfl | omega) | (first | assumption | omega)
 rintro _ whs2 ⟨rfl, hs2⟩
 replace hs2 := hs1.call0 hs2
 refine ⟨_, rfl, ?_⟩
 refine WL.r 3 hs2 [] rfl ?_
 refine WL.nil ?_
 refine WC.sr ?_
 refine WL.r 4 hs2 [] rfl ?_
 apply WL.gA 6 Acts.nil hs2 rfl
 ·intro g3 J4
  have qg3 := g3
  try simp only [bf, within_iff, within_not] at qg3
  refine WL.runA tbk 2 (Acts.nil.cons (j := 3) rfl g3) hs2 [] rfl trivial ?_
  refine WL.val (wantT rfl g3) rfl rfl (Run.nilCheck rfl rfl) ?_
  refine WL.runA tbk 3 (Acts.nil.cons (j := 3) rfl g3) hs2 [0] rfl ⟨rfl, trivial⟩ ?_
  exact WL.eA 6 Acts.nil J4 hs2 g3 rfl rfl
 ·intro _ hs5
  refine WL.nil ?_
  refine WC.cq rfl (fun h6 qh6 => ?_) (fun h6 qh6 => ?_)
  ·have hr : n - 1 < argI l 1 s.H - 1 ∧ argI l 1 s.H - 1 < s.H := by have h9 := h6; simp at h9; omega
   refine WC.sr ?_
   refine WL.r 4 hs5 [] rfl ?_
   refine WL.val rfl rfl rfl (Run.nilCheck rfl rfl) ?_
   refine WL.r 1 hs5 [] rfl ?_
   refine WL.st tbk hs5 0 rfl rfl (fun _ hs7 => ?_)
   refine WL.val rfl rfl rfl (Run.nilCheck rfl rfl) ?_
   refine WL.r 1 hs7 [] rfl ?_
   refine WL.st tbk hs7 0 rfl rfl (fun _ hs8 => ?_)
   refine WL.nil ?_
   refine WC.region ?_
   refine WL.r 1 hs8 [] rfl ?_
   obtain ⟨L9, L10, L11, L12, hs17, ho13, ho14, ho15, ho16⟩ := ownScrR.open_ (hs8.fr L_s) o_s
   have hs18 := (hs17.fb b_s)
   obtain ⟨L20, hs19, ho21⟩ := ownScrR.fl ((((hs18.fr L12).fr L11).fr L10).fr L9) ho13 ho14 ho15 ho16
   have hs22 := (hs19.fb b_s)
   have hF23 : St _ _ ((_, _) :: (L20 ++ _)) _ := ((hs22.fr L20).fb b_s)
   refine WL.cl Tryz.call225 rfl (c_impl_Scr_move _ ⟨s.W, s.H, ⟨s.Main.W, s.Main.H, SlD.of ho13⟩, ⟨s.Alt.W, s.Alt.H, SlD.of ho14⟩, s.OnAlt, s.X, s.Y, s.Wrap, ⟨s.A.Fg, s.A.Bg, s.A.Bold, s.A.Under, s.A.Turn⟩, (n - (1)), _, s.NoWrap, s.Hide, s.SaveX, s.SaveY, ⟨s.SaveA.Fg, s.SaveA.Bg, s.SaveA.Bold, s.SaveA.Under, s.SaveA.Turn⟩, SlD.of ho15, s.Limit, SlD.ofN ho16⟩ _ _ _ _ (St.headP hF23) (by exact ho21) (St.ownP hF23) (St.nodupP hF23) ?_) ?_
   · first | (first | assumption | rfl | omega) | (first | assumption | omega)
   rintro _ whs24 ⟨r25, L26, rfl, hs24, ho27, hd28⟩
   replace hs24 := St.lendP hF23 hs24
   refine ⟨_, rfl, ?_⟩
   refine WL.nil ?_
   refine retK0 rfl ?_
   refine ⟨r25, _, rfl, St.keepP (L1 := L26) ((hs24.fr L26).fb b_s), ho27, ?_⟩
   · unfold regionD; rw [if_pos (show argI l 0 1 - 1 < argI l 1 s.dat.H - 1 ∧ argI l 1 s.dat.H - 1 < s.dat.H from hna ▸ hr), ← hna]; exact hd28
  ·have hr : ¬ (n - 1 < argI l 1 s.H - 1 ∧ argI l 1 s.H - 1 < s.H) := by rintro ⟨h7, h8⟩; have h9 := h6; simp at h9; have := h9 (by omega); omega
   refine WC.skip ?_
   refine retK0 rfl ?_
   refine ⟨s, _, rfl, St.keepP (L1 := L_s) ((hs5.fr L_s).fb b_s), o_s, ?_⟩
   · unfold regionD; rw [if_neg (show ¬ (argI l 0 1 - 1 < argI l 1 s.dat.H - 1 ∧ argI l 1 s.dat.H - 1 < s.dat.H) from hna ▸ hr)]
theorem c_impl_Scr_mode (b_s : Nat) (s : ScrR) (L_s : Hp) (n : Int) (on : Bool) (w : World) (hb_s : w.heap[b_s]? = some (Obj.cells (List.toArray (cScr s)) 33 (0, 0))) (o_s : ownScrR s L_s) (h_s : ∀ p, p ∈ L_s → w.heap[p.1]? = some p.2) (hd_ : (b_s :: L_s.map (·.1)).Nodup) (hf : ScrFine s.dat) (hsmB : smScr 549755813888 s.dat) :
    Calls Tryz.prog 190 #[.pointer (some ⟨b_s, 0, none⟩), i64 n, .bool on] w fun e w' => ∃ r L1, e = .returned (.tuple #[]) ∧ St w (b_s :: L_s.map (·.1)) ([(b_s, Obj.cells (List.toArray (cScr r)) 33 (0, 0))] ++ L1) w' ∧ ownScrR r L1 ∧ r.dat = modeD s.dat n on := by
 have hwh : (1 ≤ s.W ∧ s.W ≤ 120) ∧ 1 ≤ s.H ∧ s.H ≤ 120 := ⟨(isSize_bnd hf.size).1, (isSize_bnd hf.size).2.1⟩
 have hxy := hf.pos
 simp only [ScrR.dat, GridR.dat] at hxy
 have hsz : isSize s.W s.H = true := hf.size
 refine enter 80 Tryz.func190 rfl Tryz.ntmps190 rfl rfl ?_
 have hs1 := St.takeP w b_s _ L_s hb_s h_s hd_
 refine WC.block ?_
 refine WC.r1 hs1 [] rfl ?_
 refine WC.cq rfl (fun h2 qh2 => ?_) (fun h2 qh2 => ?_)
 ·have e7 : n = 7 := by have h9 := h2; simpa using h9
  refine WC.region ?_
  refine WL.r 5 hs1 [] rfl ?_
  refine WL.val rfl rfl rfl (Run.nilCheck rfl rfl) ?_
  refine WL.r 3 hs1 [0] rfl ?_
  refine WL.pA tbk 1 Acts.nil hs1 [] rfl rfl rfl rfl (fun g_ => trivial) ?_
  refine WL.val rfl rfl rfl (Run.nilCheck rfl rfl) ?_
  refine WL.r 1 hs1 [] rfl ?_
  refine WL.st tbk hs1 0 rfl rfl (fun _ hs3 => ?_)
  refine WL.val rfl rfl rfl (Run.nilCheck rfl rfl) ?_
  refine WL.r 1 hs3 [] rfl ?_
  refine WL.st tbk hs3 0 rfl rfl (fun _ hs4 => ?_)
  refine WL.nil ?_
  refine ibN ?_
  refine retK0 rfl ?_
  obtain ⟨L5, L6, L7, L8, hs13, ho9, ho10, ho11, ho12⟩ := ownScrR.open_ (hs4.fr L_s) o_s
  have hs14 := (hs13.fb b_s)
  obtain ⟨L16, hs15, ho17⟩ := ownScrR.fl ((((hs14.fr L8).fr L7).fr L6).fr L5) ho9 ho10 ho11 ho12
  have hs18 := (hs15.fb b_s)
  refine ⟨⟨s.W, s.H, ⟨s.Main.W, s.Main.H, SlD.of ho9⟩, ⟨s.Alt.W, s.Alt.H, SlD.of ho10⟩, s.OnAlt, s.X, s.Y, _, ⟨s.A.Fg, s.A.Bg, s.A.Bold, s.A.Under, s.A.Turn⟩, s.Top, s.Bot, (!on), s.Hide, s.SaveX, s.SaveY, ⟨s.SaveA.Fg, s.SaveA.Bg, s.SaveA.Bold, s.SaveA.Under, s.SaveA.Turn⟩, SlD.of ho11, s.Limit, SlD.ofN ho12⟩, _, rfl, St.keepP (L1 := L16) ((hs18.fr L16).fb b_s), (by exact ho17), ?_⟩
  · unfold modeD; rw [if_pos e7]; rfl
 ·have e7 : ¬ n = 7 := by have h9 := h2; simpa using h9
  refine WC.r1 hs1 [] rfl ?_
  refine WC.cq rfl (fun h19 qh19 => ?_) (fun h19 qh19 => ?_)
  ·have e25 : n = 25 := by have h9 := h19; simpa using h9
   refine WC.region ?_
   refine WL.r 3 hs1 [] rfl ?_
   refine WL.val rfl rfl rfl (Run.nilCheck rfl rfl) ?_
   refine WL.r 1 hs1 [] rfl ?_
   refine WL.st tbk hs1 0 rfl rfl (fun _ hs20 => ?_)
   refine WL.nil ?_
   refine ibN ?_
   refine retK0 rfl ?_
   obtain ⟨L21, L22, L23, L24, hs29, ho25, ho26, ho27, ho28⟩ := ownScrR.open_ (hs20.fr L_s) o_s
   have hs30 := (hs29.fb b_s)
   obtain ⟨L32, hs31, ho33⟩ := ownScrR.fl ((((hs30.fr L24).fr L23).fr L22).fr L21) ho25 ho26 ho27 ho28
   have hs34 := (hs31.fb b_s)
   refine ⟨⟨s.W, s.H, ⟨s.Main.W, s.Main.H, SlD.of ho25⟩, ⟨s.Alt.W, s.Alt.H, SlD.of ho26⟩, s.OnAlt, s.X, s.Y, s.Wrap, ⟨s.A.Fg, s.A.Bg, s.A.Bold, s.A.Under, s.A.Turn⟩, s.Top, s.Bot, s.NoWrap, (!on), s.SaveX, s.SaveY, ⟨s.SaveA.Fg, s.SaveA.Bg, s.SaveA.Bold, s.SaveA.Under, s.SaveA.Turn⟩, SlD.of ho27, s.Limit, SlD.ofN ho28⟩, _, rfl, St.keepP (L1 := L32) ((hs34.fr L32).fb b_s), (by exact ho33), ?_⟩
   · unfold modeD; rw [if_neg e7, if_pos e25]; rfl
  ·have e25 : ¬ n = 25 := by have h9 := h19; simpa using h9
   refine WC.sr ?_
   refine WL.r 3 hs1 [] rfl ?_
   refine WL.pA tbk 1 Acts.nil hs1 [] rfl rfl rfl rfl (fun g_ => trivial) ?_
   refine WL.r 1 hs1 [] rfl ?_
   apply WL.gA 5 Acts.nil hs1 rfl
   ·intro g35 J36
    have qg35 := g35
    try simp only [bf, within_iff, within_not] at qg35
    refine WL.runA tbk 1 (Acts.nil.cons (j := 5) rfl g35) hs1 [] rfl trivial ?_
    refine WL.val (wantT rfl g35) rfl rfl (Run.nilCheck rfl rfl) ?_
    refine WL.runA tbk 3 (Acts.nil.cons (j := 5) rfl g35) hs1 [0] rfl ⟨rfl, trivial⟩ ?_
    exact WL.eA 5 Acts.nil J36 hs1 g35 rfl rfl
   ·intro _ hs37
    refine WL.r 1 hs37 [] rfl ?_
    refine WL.nil ?_
    refine WC.cq rfl (fun h38 qh38 => ?_) (fun h38 qh38 => ?_)
    ·have a1 : (n = 1049 ∧ on = true) ∧ s.dat.OnAlt = false := by show (n = 1049 ∧ on = true) ∧ s.OnAlt = false; have h9 := h38; simp at h9; first | exact h9 | exact ⟨⟨h9.1.1, h9.1.2⟩, h9.2⟩ | exact ⟨⟨h9.1, h9.2.1⟩, h9.2.2⟩
     refine WC.sr ?_
     refine WL.r 1 hs37 [] rfl ?_
     have hF39 : St _ _ ((_, _) :: (L_s ++ _)) _ := ((hs37.fr L_s).fb b_s)
     refine WL.cl Tryz.call153 rfl (c_impl_Scr_save _ s _ _ (St.headP hF39) o_s (St.ownP hF39) (St.nodupP hF39) ?_) ?_
     · first | (first | assumption | rfl | omega) | (first | assumption | omega)
     rintro _ whs40 ⟨r41, L42, rfl, hs40, ho43, hd44⟩
     replace hs40 := St.lendP hF39 hs40
     refine ⟨_, rfl, ?_⟩
     have hrW : r41.W = s.W := congrArg ScrD.W hd44
     have hrH : r41.H = s.H := congrArg ScrD.H hd44
     have hszr : isSize r41.W r41.H = true := by rw [hrW, hrH]; exact hsz
     refine WL.nil ?_
     refine WC.rG 13 hs40.d1 hs40 hs40 (fun _ hs45 => ?_)
     refine WG.rn [0, 1, 2] hs45 [] rfl rfl ?_
     refine WG.tk 3 rfl (by kernel_rfl) rfl rfl rfl hs45 (fun w_ hs_ => (Run.nilCheck rfl rfl)) ?_
     refine WG.rn [4, 5, 6] hs45 [0] rfl rfl ?_
     refine WG.tk 7 rfl (by kernel_rfl) rfl rfl rfl hs45 (fun w_ hs_ => (Run.nilCheck rfl rfl)) ?_
     refine WG.rn [8, 9] hs45 [0] rfl rfl ?_
     refine WG.o1 10 rfl rfl ?_
     refine WL.cl Tryz.call215 rfl (c_impl_gridOf _ _ _ ?_) ?_
     · first | (first | assumption | rfl | omega) | (first | assumption | omega)
     rintro _ whs46 ⟨r47, L1_48, rfl, hs46, ho49, hd50⟩
     replace hs46 := hs45.callF hs46
     refine ⟨_, rfl, ?_⟩
     replace hs46 := St.back [_] hs46
     refine WL.nil ⟨(hs46.rm L1_48), ?_⟩
     refine WG.tk 11 rfl (by kernel_rfl) rfl rfl rfl (hs46.rm L1_48) (fun w_ hs_ => (Run.nilCheck rfl rfl)) ?_
     refine WG.rn [12] (hs46.rm L1_48) [] rfl rfl ?_
     refine WG.oK rfl ?_
     refine WL.st tbk hs46 0 rfl rfl (fun _ hs51 => ?_)
     refine WL.nil ⟨(hs51.d1.rm L1_48), ?_⟩
     refine WH.take 14 rfl (by kernel_rfl) rfl rfl rfl (hs51.d1.rm L1_48) (fun w_ hs_ => (Run.nilCheck rfl rfl)) ?_
     refine WH.rn [15] (hs51.d1.rm L1_48) [] rfl rfl ?_
     refine WH.o1 16 rfl ?_
     refine WL.st tbk hs51 0 rfl rfl (fun _ hs52 => ?_)
     refine WL.nil ⟨(hs52.d1.rm L1_48), ?_⟩
     refine WH.dn ?_
     refine ibN ?_
     refine retK0 rfl ?_
     obtain ⟨L53, L54, L55, L56, hs61, ho57, ho58, ho59, ho60⟩ := ownScrR.open_ (hs52.fr L42) ho43
     have hs62 := (hs61.fb b_s)
     obtain ⟨L64, hs63, ho65⟩ := ownScrR.fl ((((hs62.fr L56).fr L55).fr L1_48).fr L53) ho57 ho49 ho59 ho60
     have hs66 := (hs63.fb b_s)
     refine ⟨⟨r41.W, r41.H, ⟨r41.Main.W, r41.Main.H, SlD.of ho57⟩, ⟨r47.W, r47.H, SlD.of ho49⟩, true, r41.X, r41.Y, r41.Wrap, ⟨r41.A.Fg, r41.A.Bg, r41.A.Bold, r41.A.Under, r41.A.Turn⟩, r41.Top, r41.Bot, r41.NoWrap, r41.Hide, r41.SaveX, r41.SaveY, ⟨r41.SaveA.Fg, r41.SaveA.Bg, r41.SaveA.Bold, r41.SaveA.Under, r41.SaveA.Turn⟩, SlD.of ho59, r41.Limit, SlD.ofN ho60⟩, _, rfl, St.keepP (L1 := L64) ((hs66.fr L64).fb b_s), (by exact ho65), ?_⟩
     · unfold modeD; rw [if_neg e7, if_neg e25, if_pos a1]; show _ = ({ saveD s.dat with Alt := gridNew s.W s.H, OnAlt := true } : ScrD); rw [← hrW, ← hrH, ← hd50, ← hd44]; rfl
    ·have a1 : ¬ ((n = 1049 ∧ on = true) ∧ s.dat.OnAlt = false) := by show ¬ ((n = 1049 ∧ on = true) ∧ s.OnAlt = false); rintro ⟨⟨h1, h2⟩, h3⟩; have h9 := h38; simp [h1, h2, h3] at h9
     refine WC.sr ?_
     refine WL.r 3 hs37 [] rfl ?_
     refine WL.pA tbk 2 Acts.nil hs37 [] rfl rfl rfl rfl (fun g_ => trivial) ?_
     refine WL.r 1 hs37 [] rfl ?_
     apply WL.gA 4 Acts.nil hs37 rfl
     ·intro g67 J68
      have qg67 := g67
      try simp only [bf, within_iff, within_not] at qg67
      refine WL.runA tbk 1 (Acts.nil.cons (j := 6) rfl g67) hs37 [] rfl trivial ?_
      refine WL.val (wantT rfl g67) rfl rfl (Run.nilCheck rfl rfl) ?_
      refine WL.runA tbk 2 (Acts.nil.cons (j := 6) rfl g67) hs37 [0] rfl ⟨rfl, trivial⟩ ?_
      exact WL.eA 4 Acts.nil J68 hs37 g67 rfl rfl
     ·intro _ hs69
      refine WL.r 1 hs69 [] rfl ?_
      refine WL.nil ?_
      refine WC.cq rfl (fun h70 qh70 => ?_) (fun h70 qh70 => ?_)
      ·have a2 : (n = 1049 ∧ on = false) ∧ s.dat.OnAlt = true := by show (n = 1049 ∧ on = false) ∧ s.OnAlt = true; have h9 := h70; simp at h9; first | exact h9 | exact ⟨⟨h9.1.1, h9.1.2⟩, h9.2⟩ | exact ⟨⟨h9.1, h9.2.1⟩, h9.2.2⟩
       refine WC.sr ?_
       refine WL.r 1 hs69 [] rfl ?_
       refine WL.val rfl rfl rfl (Run.nilCheck rfl rfl) ?_
       refine WL.r 1 hs69 [] rfl ?_
       refine WL.st tbk hs69 0 rfl rfl (fun _ hs71 => ?_)
       refine WL.nil ?_
       refine WC.region ?_
       refine WL.r 1 hs71 [] rfl ?_
       obtain ⟨L72, L73, L74, L75, hs80, ho76, ho77, ho78, ho79⟩ := ownScrR.open_ (hs71.fr L_s) o_s
       have hs81 := (hs80.fb b_s)
       obtain ⟨L83, hs82, ho84⟩ := ownScrR.fl ((((hs81.fr L75).fr L74).fr L73).fr L72) ho76 ho77 ho78 ho79
       have hs85 := (hs82.fb b_s)
       have hF86 : St _ _ ((_, _) :: (L83 ++ _)) _ := ((hs85.fr L83).fb b_s)
       refine WL.cl Tryz.call154 rfl (c_impl_Scr_restore _ ⟨s.W, s.H, ⟨s.Main.W, s.Main.H, SlD.of ho76⟩, ⟨s.Alt.W, s.Alt.H, SlD.of ho77⟩, false, s.X, s.Y, s.Wrap, ⟨s.A.Fg, s.A.Bg, s.A.Bold, s.A.Under, s.A.Turn⟩, s.Top, s.Bot, s.NoWrap, s.Hide, s.SaveX, s.SaveY, ⟨s.SaveA.Fg, s.SaveA.Bg, s.SaveA.Bold, s.SaveA.Under, s.SaveA.Turn⟩, SlD.of ho78, s.Limit, SlD.ofN ho79⟩ _ _ (St.headP hF86) (by exact ho84) (St.ownP hF86) (St.nodupP hF86) ?_) ?_
       · first | (first | assumption | rfl | omega) | (first | assumption | omega)
       rintro _ whs87 ⟨r88, L89, rfl, hs87, ho90, hd91⟩
       replace hs87 := St.lendP hF86 hs87
       refine ⟨_, rfl, ?_⟩
       refine WL.nil ?_
       refine ibN ?_
       refine retK0 rfl ?_
       refine ⟨r88, _, rfl, St.keepP (L1 := L89) ((hs87.fr L89).fb b_s), ho90, ?_⟩
       · unfold modeD; rw [if_neg e7, if_neg e25, if_neg a1, if_pos a2]; exact hd91
      ·have a2 : ¬ ((n = 1049 ∧ on = false) ∧ s.dat.OnAlt = true) := by show ¬ ((n = 1049 ∧ on = false) ∧ s.OnAlt = true); rintro ⟨⟨h1, h2⟩, h3⟩; have h9 := h70; simp [h1, h2, h3] at h9
       refine WC.skip ?_
       refine ibN ?_
       refine retK0 rfl ?_
       refine ⟨s, _, rfl, St.keepP (L1 := L_s) ((hs69.fr L_s).fb b_s), o_s, ?_⟩
       · unfold modeD; rw [if_neg e7, if_neg e25, if_neg a1, if_neg a2]
end Go.Proofs.YtjmegoiclgancaaGreat
namespace Go.Proofs.YtjmegoiclgancaaGreat
open Go Go.RowKit
set_option linter.unusedVariables false
set_option linter.unusedSimpArgs false
theorem c_impl_Scr_csi_1 (b_p b_s : Nat) (s : ScrR) (m : Int) (w : World) (hp : w.heap[b_p]? = some (Obj.cells (List.toArray [.pointer (some ⟨b_s, 0, none⟩)]) 115 (0, 0))) (hq : w.heap[b_s]? = some (Obj.cells (List.toArray (cScr s)) 33 (0, 0))) (hne : b_p ≠ b_s) :
    Calls Tryz.prog 241 #[i64 m, .pointer (some ⟨b_p, 0, none⟩)] w fun e w' => e = .returned (.bool (decide (m = s.X))) ∧ St w [] [] w' := by
 refine enter 10 Tryz.func241 rfl Tryz.ntmps241 rfl rfl ?_
 have hs1 := St.take w [(b_p, Obj.cells (List.toArray [.pointer (some ⟨b_s, 0, none⟩)]) 115 (0, 0)), (b_s, Obj.cells (List.toArray (cScr s)) 33 (0, 0))] (fun p hp_ => by rcases List.mem_cons.1 hp_ with rfl | hp_; exact hp; obtain rfl := List.mem_singleton.1 hp_; exact hq) (by simp [hne])
 refine WC.r1 hs1 [] rfl ?_
 refine WC.sr ?_
 refine WL.r 2 hs1 [0] rfl ?_
 refine WL.val rfl rfl rfl (Run.nilCheck rfl rfl) ?_
 refine WL.r 4 hs1 [1] rfl ?_
 refine WL.nil ?_
 refine WC.ret ?_
 refine retV1 rfl (resV.tmp rfl) ?_
 refine ⟨rfl, St.untouch hs1 (fun k hk => ?_) (fun p hp_ => ?_)⟩
 · rcases List.mem_cons.1 hk with rfl | hk
   · exact ⟨_, List.mem_cons_self⟩
   · obtain rfl := List.mem_singleton.1 hk
     exact ⟨_, List.mem_cons_of_mem _ List.mem_cons_self⟩
 · rcases List.mem_cons.1 hp_ with rfl | hp_
   · exact hp
   · obtain rfl := List.mem_singleton.1 hp_
     exact hq
end Go.Proofs.YtjmegoiclgancaaGreat
namespace Go.Proofs.YtjmegoiclgancaaGreat
open Go Go.RowKit
set_option linter.unusedVariables false
set_option linter.unusedSimpArgs false
theorem c_impl_Scr_clear_main (b_s : Nat) (s : ScrR) (L_s : Hp) (a : Int) (b : Int) (w : World) (hb_s : w.heap[b_s]? = some (Obj.cells (List.toArray (cScr s)) 33 (0, 0))) (o_s : ownScrR s L_s) (h_s : ∀ p, p ∈ L_s → w.heap[p.1]? = some p.2) (hd_ : (b_s :: L_s.map (·.1)).Nodup) (hab : 0 ≤ a ∧ b ≤ s.Main.Cells.xs.length ∧ b ≤ 1048576 ∧ -1048576 ≤ b ∧ a ≤ 1048576) (hsmB : smScr 549755813888 s.dat) (hx : s.OnAlt = false) :
    Calls Tryz.prog 236 #[.pointer (some ⟨b_s, 0, none⟩), i64 a, i64 b] w fun e w' => ∃ r L1, e = .returned (.tuple #[]) ∧ St w (b_s :: L_s.map (·.1)) ([(b_s, Obj.cells (List.toArray (cScr r)) 33 (0, 0))] ++ L1) w' ∧ ownScrR r L1 ∧ r.dat = clearD s.dat a b := by
 refine enter 23 Tryz.func236 rfl Tryz.ntmps236 rfl rfl ?_
 have hs1 := St.takeP w b_s _ L_s hb_s h_s hd_
 refine WC.sr ?_
 refine WL.r 1 hs1 [] rfl ?_
 have hF2 : St _ _ ((_, _) :: (L_s ++ _)) _ := ((hs1.fr L_s).fb b_s)
 refine WL.cl Tryz.call223 rfl (c_impl_Scr_shown_main _ s _ _ (St.headP hF2) o_s (St.ownP hF2) (St.nodupP hF2) ?_) ?_
 · first | (first | assumption | rfl | omega) | (assumption)
 rintro _ whs3 ⟨r4, L5, rfl, hs3, ho6, hd7⟩
 replace hs3 := St.lendP hF2 hs3
 refine ⟨_, rfl, ?_⟩
 have hrl : r4.Main.Cells.xs.length = s.Main.Cells.xs.length := congrArg (fun d : ScrD => d.Main.Cells.length) hd7
 have hln := ownScrR.len ‹ownScrR r4 _›
 refine WL.val rfl rfl rfl (Run.nilCheck rfl rfl) ?_
 refine WL.r 3 hs3 [0] rfl ?_
 refine WL.nil ?_
 refine WC.r1 hs3 [] rfl ?_
 refine WC.block ?_
 obtain ⟨L8, L9, L10, L11, hs16, ho12, ho13, ho14, ho15⟩ := ownScrR.open_ (hs3.fr L5) ho6
 have hs17 := (hs16.fb b_s)
 refine WC.lO [2, 6] rfl (hs17.fr L8) (fun k_ f L_ => ∃ (i : Nat) (zs : List CellD), k_ = (b - a).toNat - i ∧ (i ≤ (b - a).toNat) ∧ (zs.length = r4.Main.Cells.xs.length) ∧ (∀ k, k < r4.Main.Cells.xs.length → cat zs k = partF r4.Main.dat (clearF r4.Main.dat a b) a.toNat i k) ∧ OwnF encCell 75 (.slice r4.Main.Cells.A (r4.Main.Cells.n) r4.Main.Cells.c) (zs) L_ ∧ Sub [(7, .int .i64 (a + i))] f) (((fun (i : Nat) (zs : List CellD) => (b - a).toNat - i) (0) (r4.Main.Cells.xs))) ?_ ?_
 ·refine ⟨0, r4.Main.Cells.xs, rfl, ?_, ?_, ?_, ho12, ⟨?_, trivial⟩⟩
  · omega
  · rfl
  · intro k hk; rw [partF_zero]; rfl
  · (refine congrArg some (congrArg (Value.int _) ?_); omega)
 ·clear hs17
  rintro _ f w L20 ⟨i, zs, rfl, p0, p1, p2, ho21, hG⟩ hF hs22
  refine WC.sub _ (hG.app hF) ?_
  clear hG hF
  replace hs22 := St.back [_] hs22
  refine WC.seq (fun K23 hK23 => ?_)
  refine WC.r1 hs22 [] rfl ?_
  refine WC.cD rfl (fun qh24 => ?_) (fun qh24 => ?_)
  ·refine WC.skip ?_
   refine hK23 _ _ ?_
   refine WC.seq (fun K25 hK25 => ?_)
   refine WC.block ?_
   refine WC.region ?_
   refine WL.r 2 hs22 [] rfl ?_
   refine WL.cl Tryz.call253 rfl (c_impl_blank _) ?_
   rintro _ whs26 ⟨rfl, hs26⟩
   replace hs26 := hs22.call0 hs26
   refine ⟨_, rfl, ?_⟩
   refine WL.val rfl rfl rfl (Run.idx Tryz.runUnderlying26 Tryz.sizeOf75 rfl rfl rfl ?_ ?_ ?_) ?_
   · exact SlF.some_ (SlF.ofOwn ho21 (hs26.ow L20))
   · first | omega | (obtain ⟨h1, h2, _, _⟩ := hln; omega)
   · first | omega | (obtain ⟨h1, h2, _, _⟩ := hln; omega)
   refine WL.storeF1 (x' := blankC) (hs26.fr L20) ho21 Tryz.sizeOf75 rfl rfl rfl rfl rfl rfl rfl rfl rfl ?_ rfl (fun L27 whs28 hs28 ho29 _ => ?_)
   · first | omega | (obtain ⟨h1, h2, _, _⟩ := hln; omega)
   replace hs28 := St.back [_] hs28
   refine WL.nil ?_
   refine hK25 _ _ ?_
   refine WC.region ?_
   refine WL.r 3 hs28 [] rfl ?_
   refine WL.nil ?_
   refine tkN ?_
   refine ⟨sbF rfl, _, (hs28.fr L27), _, ?_, i + 1, _, rfl, ?_, ?_, ?_, ho29, ⟨?_, trivial⟩⟩
   · omega
   · omega
   · rw [List.length_set]; exact p1
   · intro k hk; exact part_next (g := r4.Main.dat) (by omega) (by rw [p1]; omega) (clearF_in ⟨by omega, by omega⟩).symm (p2 k hk)
   · (refine congrArg some (congrArg (Value.int _) ?_); omega)
  ·refine WC.exit ?_
   refine tkE (tkE (ibE ?_))
   refine retK0 rfl ?_
   obtain ⟨L31, hs30, ho32⟩ := ownScrR.fl ((((hs22.fr L11).fr L10).fr L9).fr L20) ho21 ho13 ho14 ho15
   have hs33 := (hs30.fb b_s)
   refine ⟨⟨r4.W, r4.H, ⟨r4.Main.W, r4.Main.H, SlD.of ho21⟩, ⟨r4.Alt.W, r4.Alt.H, SlD.of ho13⟩, r4.OnAlt, r4.X, r4.Y, r4.Wrap, ⟨r4.A.Fg, r4.A.Bg, r4.A.Bold, r4.A.Under, r4.A.Turn⟩, r4.Top, r4.Bot, r4.NoWrap, r4.Hide, r4.SaveX, r4.SaveY, ⟨r4.SaveA.Fg, r4.SaveA.Bg, r4.SaveA.Bold, r4.SaveA.Under, r4.SaveA.Turn⟩, SlD.of ho14, r4.Limit, SlD.ofN ho15⟩, _, rfl, St.keepP (L1 := L31) ((hs33.fr L31).fb b_s), (by exact ho32), ?_⟩
   · rw [← hd7]; show _ = clearD r4.dat a b; rw [show clearD r4.dat a b = { r4.dat with Main := gmap r4.Main.dat (clearF r4.Main.dat a b) } from by unfold clearD putD shownD; rw [if_neg (show ¬ r4.dat.OnAlt = true from by have h8 : r4.OnAlt = s.OnAlt := congrArg ScrD.OnAlt hd7; show ¬ r4.OnAlt = true; rw [h8, hx]; decide), if_neg (show ¬ r4.dat.OnAlt = true from by have h8 : r4.OnAlt = s.OnAlt := congrArg ScrD.OnAlt hd7; show ¬ r4.OnAlt = true; rw [h8, hx]; decide)]; rfl]; exact ScrD.ext' rfl rfl (part_done (g := r4.Main.dat) (lo := a.toNat) (a := i) rfl rfl p1 (fun k hk h9 => clearF_out (by omega)) p2) rfl rfl rfl rfl rfl rfl rfl rfl rfl rfl rfl rfl rfl rfl rfl rfl
theorem c_impl_Scr_clear_alt (b_s : Nat) (s : ScrR) (L_s : Hp) (a : Int) (b : Int) (w : World) (hb_s : w.heap[b_s]? = some (Obj.cells (List.toArray (cScr s)) 33 (0, 0))) (o_s : ownScrR s L_s) (h_s : ∀ p, p ∈ L_s → w.heap[p.1]? = some p.2) (hd_ : (b_s :: L_s.map (·.1)).Nodup) (hab : 0 ≤ a ∧ b ≤ s.Alt.Cells.xs.length ∧ b ≤ 1048576 ∧ -1048576 ≤ b ∧ a ≤ 1048576) (hsmB : smScr 549755813888 s.dat) (hx : s.OnAlt = true) :
    Calls Tryz.prog 236 #[.pointer (some ⟨b_s, 0, none⟩), i64 a, i64 b] w fun e w' => ∃ r L1, e = .returned (.tuple #[]) ∧ St w (b_s :: L_s.map (·.1)) ([(b_s, Obj.cells (List.toArray (cScr r)) 33 (0, 0))] ++ L1) w' ∧ ownScrR r L1 ∧ r.dat = clearD s.dat a b := by
 refine enter 23 Tryz.func236 rfl Tryz.ntmps236 rfl rfl ?_
 have hs1 := St.takeP w b_s _ L_s hb_s h_s hd_
 refine WC.sr ?_
 refine WL.r 1 hs1 [] rfl ?_
 have hF2 : St _ _ ((_, _) :: (L_s ++ _)) _ := ((hs1.fr L_s).fb b_s)
 refine WL.cl Tryz.call223 rfl (c_impl_Scr_shown_alt _ s _ _ (St.headP hF2) o_s (St.ownP hF2) (St.nodupP hF2) ?_) ?_
 · first | (first | assumption | rfl | omega) | (assumption)
 rintro _ whs3 ⟨r4, L5, rfl, hs3, ho6, hd7⟩
 replace hs3 := St.lendP hF2 hs3
 refine ⟨_, rfl, ?_⟩
 have hrl : r4.Alt.Cells.xs.length = s.Alt.Cells.xs.length := congrArg (fun d : ScrD => d.Alt.Cells.length) hd7
 have hln := ownScrR.len ‹ownScrR r4 _›
 refine WL.val rfl rfl rfl (Run.nilCheck rfl rfl) ?_
 refine WL.r 3 hs3 [0] rfl ?_
 refine WL.nil ?_
 refine WC.r1 hs3 [] rfl ?_
 refine WC.block ?_
 obtain ⟨L8, L9, L10, L11, hs16, ho12, ho13, ho14, ho15⟩ := ownScrR.open_ (hs3.fr L5) ho6
 have hs17 := (hs16.fb b_s)
 refine WC.lO [2, 6] rfl (hs17.fr L9) (fun k_ f L_ => ∃ (i : Nat) (zs : List CellD), k_ = (b - a).toNat - i ∧ (i ≤ (b - a).toNat) ∧ (zs.length = r4.Alt.Cells.xs.length) ∧ (∀ k, k < r4.Alt.Cells.xs.length → cat zs k = partF r4.Alt.dat (clearF r4.Alt.dat a b) a.toNat i k) ∧ OwnF encCell 75 (.slice r4.Alt.Cells.A (r4.Alt.Cells.n) r4.Alt.Cells.c) (zs) L_ ∧ Sub [(7, .int .i64 (a + i))] f) (((fun (i : Nat) (zs : List CellD) => (b - a).toNat - i) (0) (r4.Alt.Cells.xs))) ?_ ?_
 ·refine ⟨0, r4.Alt.Cells.xs, rfl, ?_, ?_, ?_, ho13, ⟨?_, trivial⟩⟩
  · omega
  · rfl
  · intro k hk; rw [partF_zero]; rfl
  · (refine congrArg some (congrArg (Value.int _) ?_); omega)
 ·clear hs17
  rintro _ f w L20 ⟨i, zs, rfl, p0, p1, p2, ho21, hG⟩ hF hs22
  refine WC.sub _ (hG.app hF) ?_
  clear hG hF
  replace hs22 := St.back [_] hs22
  refine WC.seq (fun K23 hK23 => ?_)
  refine WC.r1 hs22 [] rfl ?_
  refine WC.cD rfl (fun qh24 => ?_) (fun qh24 => ?_)
  ·refine WC.skip ?_
   refine hK23 _ _ ?_
   refine WC.seq (fun K25 hK25 => ?_)
   refine WC.block ?_
   refine WC.region ?_
   refine WL.r 2 hs22 [] rfl ?_
   refine WL.cl Tryz.call253 rfl (c_impl_blank _) ?_
   rintro _ whs26 ⟨rfl, hs26⟩
   replace hs26 := hs22.call0 hs26
   refine ⟨_, rfl, ?_⟩
   refine WL.val rfl rfl rfl (Run.idx Tryz.runUnderlying26 Tryz.sizeOf75 rfl rfl rfl ?_ ?_ ?_) ?_
   · exact SlF.some_ (SlF.ofOwn ho21 (hs26.ow L20))
   · first | omega | (obtain ⟨h1, h2, _, _⟩ := hln; omega)
   · first | omega | (obtain ⟨h1, h2, _, _⟩ := hln; omega)
   refine WL.storeF1 (x' := blankC) (hs26.fr L20) ho21 Tryz.sizeOf75 rfl rfl rfl rfl rfl rfl rfl rfl rfl ?_ rfl (fun L27 whs28 hs28 ho29 _ => ?_)
   · first | omega | (obtain ⟨h1, h2, _, _⟩ := hln; omega)
   replace hs28 := St.back [_] hs28
   refine WL.nil ?_
   refine hK25 _ _ ?_
   refine WC.region ?_
   refine WL.r 3 hs28 [] rfl ?_
   refine WL.nil ?_
   refine tkN ?_
   refine ⟨sbF rfl, _, (hs28.fr L27), _, ?_, i + 1, _, rfl, ?_, ?_, ?_, ho29, ⟨?_, trivial⟩⟩
   · omega
   · omega
   · rw [List.length_set]; exact p1
   · intro k hk; exact part_next (g := r4.Alt.dat) (by omega) (by rw [p1]; omega) (clearF_in ⟨by omega, by omega⟩).symm (p2 k hk)
   · (refine congrArg some (congrArg (Value.int _) ?_); omega)
  ·refine WC.exit ?_
   refine tkE (tkE (ibE ?_))
   refine retK0 rfl ?_
   obtain ⟨L31, hs30, ho32⟩ := ownScrR.fl ((((hs22.fr L11).fr L10).fr L20).fr L8) ho12 ho21 ho14 ho15
   have hs33 := (hs30.fb b_s)
   refine ⟨⟨r4.W, r4.H, ⟨r4.Main.W, r4.Main.H, SlD.of ho12⟩, ⟨r4.Alt.W, r4.Alt.H, SlD.of ho21⟩, r4.OnAlt, r4.X, r4.Y, r4.Wrap, ⟨r4.A.Fg, r4.A.Bg, r4.A.Bold, r4.A.Under, r4.A.Turn⟩, r4.Top, r4.Bot, r4.NoWrap, r4.Hide, r4.SaveX, r4.SaveY, ⟨r4.SaveA.Fg, r4.SaveA.Bg, r4.SaveA.Bold, r4.SaveA.Under, r4.SaveA.Turn⟩, SlD.of ho14, r4.Limit, SlD.ofN ho15⟩, _, rfl, St.keepP (L1 := L31) ((hs33.fr L31).fb b_s), (by exact ho32), ?_⟩
   · rw [← hd7]; show _ = clearD r4.dat a b; rw [show clearD r4.dat a b = { r4.dat with Alt := gmap r4.Alt.dat (clearF r4.Alt.dat a b) } from by unfold clearD putD shownD; rw [if_pos (show  r4.dat.OnAlt = true from by have h8 : r4.OnAlt = s.OnAlt := congrArg ScrD.OnAlt hd7; show  r4.OnAlt = true; rw [h8, hx]), if_pos (show  r4.dat.OnAlt = true from by have h8 : r4.OnAlt = s.OnAlt := congrArg ScrD.OnAlt hd7; show  r4.OnAlt = true; rw [h8, hx])]; rfl]; exact ScrD.ext' rfl rfl rfl (part_done (g := r4.Alt.dat) (lo := a.toNat) (a := i) rfl rfl p1 (fun k hk h9 => clearF_out (by omega)) p2) rfl rfl rfl rfl rfl rfl rfl rfl rfl rfl rfl rfl rfl rfl rfl
theorem c_impl_Scr_clear (b_s : Nat) (s : ScrR) (L_s : Hp) (a : Int) (b : Int) (w : World) (hb_s : w.heap[b_s]? = some (Obj.cells (List.toArray (cScr s)) 33 (0, 0))) (o_s : ownScrR s L_s) (h_s : ∀ p, p ∈ L_s → w.heap[p.1]? = some p.2) (hd_ : (b_s :: L_s.map (·.1)).Nodup) (hab : 0 ≤ a ∧ a ≤ 1048576 ∧ b ≤ s.W * s.H ∧ -1048576 ≤ b) (hf : ScrFine s.dat) (hsmB : smScr 549755813888 s.dat) :
    Calls Tryz.prog 236 #[.pointer (some ⟨b_s, 0, none⟩), i64 a, i64 b] w fun e w' => ∃ r L1, e = .returned (.tuple #[]) ∧ St w (b_s :: L_s.map (·.1)) ([(b_s, Obj.cells (List.toArray (cScr r)) 33 (0, 0))] ++ L1) w' ∧ ownScrR r L1 ∧ r.dat = clearD s.dat a b := by
 have hz := isSize_bnd hf.size
 simp only [ScrR.dat] at hz
 have hgm := grid_len hf.gM
 have hga := grid_len hf.gA
 obtain ⟨d1, d2, d3, d4⟩ := hf.dim
 simp only [ScrR.dat, GridR.dat] at hgm hga d1 d2 d3 d4
 rw [d1, d2] at hgm
 rw [d3, d4] at hga
 rcases Bool.eq_false_or_eq_true s.OnAlt with hx_ | hx_
 · exact c_impl_Scr_clear_alt b_s s L_s a b w hb_s o_s h_s hd_ ⟨hab.1, by omega, by omega, by omega, by omega⟩ hsmB hx_
 · exact c_impl_Scr_clear_main b_s s L_s a b w hb_s o_s h_s hd_ ⟨hab.1, by omega, by omega, by omega, by omega⟩ hsmB hx_
theorem c_impl_Scr_erase (b_s : Nat) (s : ScrR) (L_s : Hp) (k : Int) (row : Bool) (w : World) (hb_s : w.heap[b_s]? = some (Obj.cells (List.toArray (cScr s)) 33 (0, 0))) (o_s : ownScrR s L_s) (h_s : ∀ p, p ∈ L_s → w.heap[p.1]? = some p.2) (hd_ : (b_s :: L_s.map (·.1)).Nodup) (hf : ScrFine s.dat) (hsmB : smScr 549755813888 s.dat) :
    Calls Tryz.prog 235 #[.pointer (some ⟨b_s, 0, none⟩), i64 k, .bool row] w fun e w' => ∃ r L1, e = .returned (.tuple #[]) ∧ St w (b_s :: L_s.map (·.1)) ([(b_s, Obj.cells (List.toArray (cScr r)) 33 (0, 0))] ++ L1) w' ∧ ownScrR r L1 ∧ r.dat = eraseD s.dat (if row = true then s.Y * s.W else 0) (if row = true then (s.Y + 1) * s.W else s.W * s.H) k := by
 have hwh : (1 ≤ s.W ∧ s.W ≤ 120) ∧ 1 ≤ s.H ∧ s.H ≤ 120 := ⟨(isSize_bnd hf.size).1, (isSize_bnd hf.size).2.1⟩
 have hxy := hf.pos
 simp only [ScrR.dat, GridR.dat] at hxy
 have hz := isSize_bnd hf.size
 simp only [ScrR.dat] at hz
 have hv0 : 0 ≤ s.Y * s.W := Int.mul_nonneg (by omega) (by omega)
 have hv1 : (s.Y + 1) * s.W = s.Y * s.W + s.W := by rw [Int.add_mul, Int.one_mul]
 have hv2 : (s.Y + 1) * s.W ≤ s.H * s.W := Int.mul_le_mul_of_nonneg_right (by omega) (by omega)
 rw [Int.mul_comm s.H s.W] at hv2
 refine enter 72 Tryz.func235 rfl Tryz.ntmps235 rfl rfl ?_
 have hs1 := St.takeP w b_s _ L_s hb_s h_s hd_
 refine WC.sq1 hs1 ?_
 refine WQ.r 1 [] rfl ?_
 refine WQ.val rfl rfl rfl (fun w_ hs_ => (Run.nilCheck rfl rfl)) ?_
 refine WQ.r 3 [0] rfl ?_
 refine WQ.val rfl rfl rfl (fun w_ hs_ => (Run.nilCheck rfl rfl)) ?_
 refine WQ.r 4 [0] rfl ?_
 refine WQ.val rfl rfl rfl (fun w_ hs_ => (Run.nilCheck rfl rfl)) ?_
 refine WQ.r 3 [0] rfl ?_
 refine WQ.val rfl rfl rfl (fun w_ hs_ => (Run.nilCheck rfl rfl)) ?_
 refine WQ.r 4 [0] rfl ?_
 refine WQ.val rfl rfl rfl (fun w_ hs_ => (Run.nilCheck rfl rfl)) ?_
 refine WQ.r 6 [0] rfl ?_
 refine WQ.nil (fun _ (hs2 : St _ _ _ _) => ?_)
 refine WC.seq (fun K3 hK3 => ?_)
 refine WC.r1 hs2 [] rfl ?_
 refine WC.cq rfl (fun h4 qh4 => ?_) (fun h4 qh4 => ?_)
 ·have hrow : row = true := by have h9 := h4; simpa using h9
  refine WC.regionQ (fun w' => St _ _ _ w') mixed (by kernel_rfl) hs2.drew ?_
  refine WQ.r 1 [] rfl ?_
  refine WQ.val rfl rfl rfl (fun w_ hs_ => (Run.nilCheck rfl rfl)) ?_
  refine WQ.r 3 [0] rfl ?_
  refine WQ.val rfl rfl rfl (fun w_ hs_ => (Run.nilCheck rfl rfl)) ?_
  refine WQ.r 4 [0] rfl ?_
  refine WQ.val rfl rfl rfl (fun w_ hs_ => (Run.nilCheck rfl rfl)) ?_
  refine WQ.r 4 [0] rfl ?_
  refine WQ.val rfl rfl rfl (fun w_ hs_ => (Run.nilCheck rfl rfl)) ?_
  refine WQ.r 5 [0] rfl ?_
  refine WQ.nil (fun _ (hs5 : St _ _ _ _) => ?_)
  refine hK3 _ _ ?_
  refine WC.r1 hs5 [] rfl ?_
  refine WC.block ?_
  refine WC.r1 hs5 [] rfl ?_
  refine WC.cq rfl (fun h6 qh6 => ?_) (fun h6 qh6 => ?_)
  ·have e0 : k = 0 := by have h9 := h6; simpa using h9
   refine WC.region ?_
   refine WL.r 3 hs5 [] rfl ?_
   have hF7 : St _ _ ((_, _) :: (L_s ++ _)) _ := ((hs5.fr L_s).fb b_s)
   refine WL.cl Tryz.call236 rfl (c_impl_Scr_clear _ s _ _ _ _ (St.headP hF7) o_s (St.ownP hF7) (St.nodupP hF7) ?_ ?_ ?_) ?_
   · first | (first | assumption | rfl | omega) | (first | assumption | (refine ⟨?_, ?_, ?_, ?_⟩ <;> omega))
   · first | (first | assumption | rfl | omega) | (first | assumption | (refine ⟨?_, ?_, ?_, ?_⟩ <;> omega))
   · first | (first | assumption | rfl | omega) | (first | assumption | (refine ⟨?_, ?_, ?_, ?_⟩ <;> omega))
   rintro _ whs8 ⟨r9, L10, rfl, hs8, ho11, hd12⟩
   replace hs8 := St.lendP hF7 hs8
   refine ⟨_, rfl, ?_⟩
   refine WL.nil ?_
   refine ibN ?_
   refine retK0 rfl ?_
   refine ⟨r9, _, rfl, St.keepP (L1 := L10) ((hs8.fr L10).fb b_s), ho11, ?_⟩
   · first | rw [if_pos hrow, if_pos hrow] | rw [if_neg hrow, if_neg hrow]
     unfold eraseD; rw [if_pos e0]; exact hd12
  ·have e0 : ¬ k = 0 := by have h9 := h6; simpa using h9
   refine WC.r1 hs5 [] rfl ?_
   refine WC.cq rfl (fun h13 qh13 => ?_) (fun h13 qh13 => ?_)
   ·have e1 : k = 1 := by have h9 := h13; simpa using h9
    refine WC.region ?_
    refine WL.r 4 hs5 [] rfl ?_
    have hF14 : St _ _ ((_, _) :: (L_s ++ _)) _ := ((hs5.fr L_s).fb b_s)
    refine WL.cl Tryz.call236 rfl (c_impl_Scr_clear _ s _ _ _ _ (St.headP hF14) o_s (St.ownP hF14) (St.nodupP hF14) ?_ ?_ ?_) ?_
    · first | (first | assumption | rfl | omega) | (first | assumption | (refine ⟨?_, ?_, ?_, ?_⟩ <;> omega))
    · first | (first | assumption | rfl | omega) | (first | assumption | (refine ⟨?_, ?_, ?_, ?_⟩ <;> omega))
    · first | (first | assumption | rfl | omega) | (first | assumption | (refine ⟨?_, ?_, ?_, ?_⟩ <;> omega))
    rintro _ whs15 ⟨r16, L17, rfl, hs15, ho18, hd19⟩
    replace hs15 := St.lendP hF14 hs15
    refine ⟨_, rfl, ?_⟩
    refine WL.nil ?_
    refine ibN ?_
    refine retK0 rfl ?_
    refine ⟨r16, _, rfl, St.keepP (L1 := L17) ((hs15.fr L17).fb b_s), ho18, ?_⟩
    · first | rw [if_pos hrow, if_pos hrow] | rw [if_neg hrow, if_neg hrow]
      unfold eraseD; rw [if_neg e0, if_pos e1]; exact hd19
   ·have e1 : ¬ k = 1 := by have h9 := h13; simpa using h9
    refine WC.r1 hs5 [] rfl ?_
    refine WC.cq rfl (fun h20 qh20 => ?_) (fun h20 qh20 => ?_)
    ·have e2 : k = 2 := by have h9 := h20; simpa using h9
     refine WC.region ?_
     refine WL.r 3 hs5 [] rfl ?_
     have hF21 : St _ _ ((_, _) :: (L_s ++ _)) _ := ((hs5.fr L_s).fb b_s)
     refine WL.cl Tryz.call236 rfl (c_impl_Scr_clear _ s _ _ _ _ (St.headP hF21) o_s (St.ownP hF21) (St.nodupP hF21) ?_ ?_ ?_) ?_
     · first | (first | assumption | rfl | omega) | (first | assumption | (refine ⟨?_, ?_, ?_, ?_⟩ <;> omega))
     · first | (first | assumption | rfl | omega) | (first | assumption | (refine ⟨?_, ?_, ?_, ?_⟩ <;> omega))
     · first | (first | assumption | rfl | omega) | (first | assumption | (refine ⟨?_, ?_, ?_, ?_⟩ <;> omega))
     rintro _ whs22 ⟨r23, L24, rfl, hs22, ho25, hd26⟩
     replace hs22 := St.lendP hF21 hs22
     refine ⟨_, rfl, ?_⟩
     refine WL.nil ?_
     refine ibN ?_
     refine retK0 rfl ?_
     refine ⟨r23, _, rfl, St.keepP (L1 := L24) ((hs22.fr L24).fb b_s), ho25, ?_⟩
     · first | rw [if_pos hrow, if_pos hrow] | rw [if_neg hrow, if_neg hrow]
       unfold eraseD; rw [if_neg e0, if_neg e1, if_pos e2]; exact hd26
    ·have e2 : ¬ k = 2 := by have h9 := h20; simpa using h9
     refine WC.skip ?_
     refine ibN ?_
     refine retK0 rfl ?_
     refine ⟨s, _, rfl, St.keepP (L1 := L_s) ((hs5.fr L_s).fb b_s), o_s, ?_⟩
     · first | rw [if_pos hrow, if_pos hrow] | rw [if_neg hrow, if_neg hrow]
       unfold eraseD; rw [if_neg e0, if_neg e1, if_neg e2]
 ·have hrow : ¬ row = true := by have h9 := h4; simpa using h9
  refine WC.skip ?_
  refine hK3 _ _ ?_
  refine WC.r1 hs2 [] rfl ?_
  refine WC.block ?_
  refine WC.r1 hs2 [] rfl ?_
  refine WC.cq rfl (fun h27 qh27 => ?_) (fun h27 qh27 => ?_)
  ·have e0 : k = 0 := by have h9 := h27; simpa using h9
   refine WC.region ?_
   refine WL.r 3 hs2 [] rfl ?_
   have hF28 : St _ _ ((_, _) :: (L_s ++ _)) _ := ((hs2.fr L_s).fb b_s)
   refine WL.cl Tryz.call236 rfl (c_impl_Scr_clear _ s _ _ _ _ (St.headP hF28) o_s (St.ownP hF28) (St.nodupP hF28) ?_ ?_ ?_) ?_
   · first | (first | assumption | rfl | omega) | (first | assumption | (refine ⟨?_, ?_, ?_, ?_⟩ <;> omega))
   · first | (first | assumption | rfl | omega) | (first | assumption | (refine ⟨?_, ?_, ?_, ?_⟩ <;> omega))
   · first | (first | assumption | rfl | omega) | (first | assumption | (refine ⟨?_, ?_, ?_, ?_⟩ <;> omega))
   rintro _ whs29 ⟨r30, L31, rfl, hs29, ho32, hd33⟩
   replace hs29 := St.lendP hF28 hs29
   refine ⟨_, rfl, ?_⟩
   refine WL.nil ?_
   refine ibN ?_
   refine retK0 rfl ?_
   refine ⟨r30, _, rfl, St.keepP (L1 := L31) ((hs29.fr L31).fb b_s), ho32, ?_⟩
   · first | rw [if_pos hrow, if_pos hrow] | rw [if_neg hrow, if_neg hrow]
     unfold eraseD; rw [if_pos e0]; exact hd33
  ·have e0 : ¬ k = 0 := by have h9 := h27; simpa using h9
   refine WC.r1 hs2 [] rfl ?_
   refine WC.cq rfl (fun h34 qh34 => ?_) (fun h34 qh34 => ?_)
   ·have e1 : k = 1 := by have h9 := h34; simpa using h9
    refine WC.region ?_
    refine WL.r 4 hs2 [] rfl ?_
    have hF35 : St _ _ ((_, _) :: (L_s ++ _)) _ := ((hs2.fr L_s).fb b_s)
    refine WL.cl Tryz.call236 rfl (c_impl_Scr_clear _ s _ _ _ _ (St.headP hF35) o_s (St.ownP hF35) (St.nodupP hF35) ?_ ?_ ?_) ?_
    · first | (first | assumption | rfl | omega) | (first | assumption | (refine ⟨?_, ?_, ?_, ?_⟩ <;> omega))
    · first | (first | assumption | rfl | omega) | (first | assumption | (refine ⟨?_, ?_, ?_, ?_⟩ <;> omega))
    · first | (first | assumption | rfl | omega) | (first | assumption | (refine ⟨?_, ?_, ?_, ?_⟩ <;> omega))
    rintro _ whs36 ⟨r37, L38, rfl, hs36, ho39, hd40⟩
    replace hs36 := St.lendP hF35 hs36
    refine ⟨_, rfl, ?_⟩
    refine WL.nil ?_
    refine ibN ?_
    refine retK0 rfl ?_
    refine ⟨r37, _, rfl, St.keepP (L1 := L38) ((hs36.fr L38).fb b_s), ho39, ?_⟩
    · first | rw [if_pos hrow, if_pos hrow] | rw [if_neg hrow, if_neg hrow]
      unfold eraseD; rw [if_neg e0, if_pos e1]; exact hd40
   ·have e1 : ¬ k = 1 := by have h9 := h34; simpa using h9
    refine WC.r1 hs2 [] rfl ?_
    refine WC.cq rfl (fun h41 qh41 => ?_) (fun h41 qh41 => ?_)
    ·have e2 : k = 2 := by have h9 := h41; simpa using h9
     refine WC.region ?_
     refine WL.r 3 hs2 [] rfl ?_
     have hF42 : St _ _ ((_, _) :: (L_s ++ _)) _ := ((hs2.fr L_s).fb b_s)
     refine WL.cl Tryz.call236 rfl (c_impl_Scr_clear _ s _ _ _ _ (St.headP hF42) o_s (St.ownP hF42) (St.nodupP hF42) ?_ ?_ ?_) ?_
     · first | (first | assumption | rfl | omega) | (first | assumption | (refine ⟨?_, ?_, ?_, ?_⟩ <;> omega))
     · first | (first | assumption | rfl | omega) | (first | assumption | (refine ⟨?_, ?_, ?_, ?_⟩ <;> omega))
     · first | (first | assumption | rfl | omega) | (first | assumption | (refine ⟨?_, ?_, ?_, ?_⟩ <;> omega))
     rintro _ whs43 ⟨r44, L45, rfl, hs43, ho46, hd47⟩
     replace hs43 := St.lendP hF42 hs43
     refine ⟨_, rfl, ?_⟩
     refine WL.nil ?_
     refine ibN ?_
     refine retK0 rfl ?_
     refine ⟨r44, _, rfl, St.keepP (L1 := L45) ((hs43.fr L45).fb b_s), ho46, ?_⟩
     · first | rw [if_pos hrow, if_pos hrow] | rw [if_neg hrow, if_neg hrow]
       unfold eraseD; rw [if_neg e0, if_neg e1, if_pos e2]; exact hd47
    ·have e2 : ¬ k = 2 := by have h9 := h41; simpa using h9
     refine WC.skip ?_
     refine ibN ?_
     refine retK0 rfl ?_
     refine ⟨s, _, rfl, St.keepP (L1 := L_s) ((hs2.fr L_s).fb b_s), o_s, ?_⟩
     · first | rw [if_pos hrow, if_pos hrow] | rw [if_neg hrow, if_neg hrow]
       unfold eraseD; rw [if_neg e0, if_neg e1, if_neg e2]
end Go.Proofs.YtjmegoiclgancaaGreat
namespace Go.Proofs.YtjmegoiclgancaaGreat
open Go Go.RowKit
set_option linter.unusedVariables false
set_option linter.unusedSimpArgs false
theorem built_30 : Tryz.prog.built 30 [] = some (List.toArray [.int .i64 0, .int .i64 0, .bool false, .bool false, .bool false]) := by kernel_rfl
theorem c_impl_Attr_one (b_a : Nat) (a : AttrD) (n : Int) (w : World) (hb : w.heap[b_a]? = some (Obj.cells (List.toArray [i64 a.Fg, i64 a.Bg, .bool a.Bold, .bool a.Under, .bool a.Turn]) 30 (0, 0))) (hn : 0 ≤ n ∧ n ≤ 9999) :
    Calls Tryz.prog 255 #[.pointer (some ⟨b_a, 0, none⟩), i64 n] w fun e w' => e = .returned (.tuple #[]) ∧ St w [b_a] [(b_a, Obj.cells (List.toArray [i64 (sgrOne a n).Fg, i64 (sgrOne a n).Bg, .bool (sgrOne a n).Bold, .bool (sgrOne a n).Under, .bool (sgrOne a n).Turn]) 30 (0, 0))] w' := by
 refine enter 74 Tryz.func255 rfl Tryz.ntmps255 rfl rfl ?_
 have hs1 := St.take1 w b_a _ hb
 refine WC.block ?_
 refine WC.r1 hs1 [] rfl ?_
 refine WC.cq rfl (fun h2 qh2 => ?_) (fun h2 qh2 => ?_)
 ·have e0 : n = 0 := by have h9 := h2; (try simp only [within_iff] at h9); first | exact h9 | (simp at h9; omega)
  refine WC.region ?_
  refine WL.r 1 hs1 [] rfl ?_
  refine WL.val rfl rfl rfl (Run.build rfl rfl rfl rfl (built_30)) ?_
  refine WL.val rfl rfl rfl (Run.nilCheck rfl rfl) ?_
  refine WL.st tbk hs1 0 rfl rfl (fun _ hs3 => ?_)
  refine WL.nil ?_
  refine ibN ?_
  refine retK0 rfl ?_
  refine ⟨rfl, ?_⟩
  unfold sgrOne
  rw [if_pos e0]
  exact hs3
 ·have e0 : ¬ (n = 0) := by have h9 := h2; (try simp only [within_not] at h9); first | exact h9 | (simp at h9; omega)
  refine WC.sr ?_
  refine WL.r 3 hs1 [] rfl ?_
  refine WL.pO tbk 2 Acts.nil hs1 [] rfl rfl rfl rfl (fun g_ => trivial) ?_
  refine WL.r 1 hs1 [] rfl ?_
  refine WL.nil ?_
  refine WC.cq rfl (fun h4 qh4 => ?_) (fun h4 qh4 => ?_)
  ·have e1 : n = 1 ∨ n = 22 := by have h9 := h4; (try simp only [within_iff] at h9); first | exact h9 | (simp at h9; omega)
   refine WC.region ?_
   refine WL.r 3 hs1 [] rfl ?_
   refine WL.val rfl rfl rfl (Run.nilCheck rfl rfl) ?_
   refine WL.r 1 hs1 [] rfl ?_
   refine WL.st tbk hs1 0 rfl rfl (fun _ hs5 => ?_)
   refine WL.nil ?_
   refine ibN ?_
   refine retK0 rfl ?_
   refine ⟨rfl, ?_⟩
   unfold sgrOne
   rw [if_neg e0, if_pos e1]
   exact hs5
  ·have e1 : ¬ (n = 1 ∨ n = 22) := by have h9 := h4; (try simp only [within_not] at h9); first | exact h9 | (simp at h9; omega)
   refine WC.sr ?_
   refine WL.r 3 hs1 [] rfl ?_
   refine WL.pO tbk 2 Acts.nil hs1 [] rfl rfl rfl rfl (fun g_ => trivial) ?_
   refine WL.r 1 hs1 [] rfl ?_
   refine WL.nil ?_
   refine WC.cq rfl (fun h6 qh6 => ?_) (fun h6 qh6 => ?_)
   ·have e4 : n = 4 ∨ n = 24 := by have h9 := h6; (try simp only [within_iff] at h9); first | exact h9 | (simp at h9; omega)
    refine WC.region ?_
    refine WL.r 3 hs1 [] rfl ?_
    refine WL.val rfl rfl rfl (Run.nilCheck rfl rfl) ?_
    refine WL.r 1 hs1 [] rfl ?_
    refine WL.st tbk hs1 0 rfl rfl (fun _ hs7 => ?_)
    refine WL.nil ?_
    refine ibN ?_
    refine retK0 rfl ?_
    refine ⟨rfl, ?_⟩
    unfold sgrOne
    rw [if_neg e0, if_neg e1, if_pos e4]
    exact hs7
   ·have e4 : ¬ (n = 4 ∨ n = 24) := by have h9 := h6; (try simp only [within_not] at h9); first | exact h9 | (simp at h9; omega)
    refine WC.sr ?_
    refine WL.r 3 hs1 [] rfl ?_
    refine WL.pO tbk 2 Acts.nil hs1 [] rfl rfl rfl rfl (fun g_ => trivial) ?_
    refine WL.r 1 hs1 [] rfl ?_
    refine WL.nil ?_
    refine WC.cq rfl (fun h8 qh8 => ?_) (fun h8 qh8 => ?_)
    ·have e7 : n = 7 ∨ n = 27 := by have h9 := h8; (try simp only [within_iff] at h9); first | exact h9 | (simp at h9; omega)
     refine WC.region ?_
     refine WL.r 3 hs1 [] rfl ?_
     refine WL.val rfl rfl rfl (Run.nilCheck rfl rfl) ?_
     refine WL.r 1 hs1 [] rfl ?_
     refine WL.st tbk hs1 0 rfl rfl (fun _ hs9 => ?_)
     refine WL.nil ?_
     refine ibN ?_
     refine retK0 rfl ?_
     refine ⟨rfl, ?_⟩
     unfold sgrOne
     rw [if_neg e0, if_neg e1, if_neg e4, if_pos e7]
     exact hs9
    ·have e7 : ¬ (n = 7 ∨ n = 27) := by have h9 := h8; (try simp only [within_not] at h9); first | exact h9 | (simp at h9; omega)
     refine WC.sr ?_
     refine WL.r 1 hs1 [] rfl ?_
     refine WL.cl Tryz.call97 rfl (c_impl_within _ _ _ _) ?_
     rintro _ whs10 ⟨rfl, hs10⟩
     replace hs10 := hs1.call0 hs10
     refine ⟨_, rfl, ?_⟩
     refine WL.r 1 hs10 [] rfl ?_
     refine WL.nil ?_
     refine WC.cq rfl (fun h11 qh11 => ?_) (fun h11 qh11 => ?_)
     ·have e30 : 30 ≤ n ∧ n ≤ 37 := by have h9 := h11; (try simp only [within_iff] at h9); first | exact h9 | (simp at h9; omega)
      refine WC.region ?_
      refine WL.r 3 hs10 [] rfl ?_
      refine WL.val rfl rfl rfl (Run.nilCheck rfl rfl) ?_
      refine WL.r 1 hs10 [] rfl ?_
      refine WL.st tbk hs10 0 rfl rfl (fun _ hs12 => ?_)
      refine WL.nil ?_
      refine ibN ?_
      refine retK0 rfl ?_
      refine ⟨rfl, ?_⟩
      unfold sgrOne
      rw [if_neg e0, if_neg e1, if_neg e4, if_neg e7, if_pos e30]
      exact hs12
     ·have e30 : ¬ (30 ≤ n ∧ n ≤ 37) := by have h9 := h11; (try simp only [within_not] at h9); first | exact h9 | (simp at h9; omega)
      refine WC.r1 hs10 [] rfl ?_
      refine WC.cq rfl (fun h13 qh13 => ?_) (fun h13 qh13 => ?_)
      ·have e39 : n = 39 := by have h9 := h13; (try simp only [within_iff] at h9); first | exact h9 | (simp at h9; omega)
       refine WC.region ?_
       refine WL.r 1 hs10 [] rfl ?_
       refine WL.val rfl rfl rfl (Run.nilCheck rfl rfl) ?_
       refine WL.r 1 hs10 [] rfl ?_
       refine WL.st tbk hs10 0 rfl rfl (fun _ hs14 => ?_)
       refine WL.nil ?_
       refine ibN ?_
       refine retK0 rfl ?_
       refine ⟨rfl, ?_⟩
       unfold sgrOne
       rw [if_neg e0, if_neg e1, if_neg e4, if_neg e7, if_neg e30, if_pos e39]
       exact hs14
      ·have e39 : ¬ (n = 39) := by have h9 := h13; (try simp only [within_not] at h9); first | exact h9 | (simp at h9; omega)
       refine WC.sr ?_
       refine WL.r 1 hs10 [] rfl ?_
       refine WL.cl Tryz.call97 rfl (c_impl_within _ _ _ _) ?_
       rintro _ whs15 ⟨rfl, hs15⟩
       replace hs15 := hs10.call0 hs15
       refine ⟨_, rfl, ?_⟩
       refine WL.r 1 hs15 [] rfl ?_
       refine WL.nil ?_
       refine WC.cq rfl (fun h16 qh16 => ?_) (fun h16 qh16 => ?_)
       ·have e40 : 40 ≤ n ∧ n ≤ 47 := by have h9 := h16; (try simp only [within_iff] at h9); first | exact h9 | (simp at h9; omega)
        refine WC.region ?_
        refine WL.r 3 hs15 [] rfl ?_
        refine WL.val rfl rfl rfl (Run.nilCheck rfl rfl) ?_
        refine WL.r 1 hs15 [] rfl ?_
        refine WL.st tbk hs15 0 rfl rfl (fun _ hs17 => ?_)
        refine WL.nil ?_
        refine ibN ?_
        refine retK0 rfl ?_
        refine ⟨rfl, ?_⟩
        unfold sgrOne
        rw [if_neg e0, if_neg e1, if_neg e4, if_neg e7, if_neg e30, if_neg e39, if_pos e40]
        exact hs17
       ·have e40 : ¬ (40 ≤ n ∧ n ≤ 47) := by have h9 := h16; (try simp only [within_not] at h9); first | exact h9 | (simp at h9; omega)
        refine WC.r1 hs15 [] rfl ?_
        refine WC.cq rfl (fun h18 qh18 => ?_) (fun h18 qh18 => ?_)
        ·have e49 : n = 49 := by have h9 := h18; (try simp only [within_iff] at h9); first | exact h9 | (simp at h9; omega)
         refine WC.region ?_
         refine WL.r 1 hs15 [] rfl ?_
         refine WL.val rfl rfl rfl (Run.nilCheck rfl rfl) ?_
         refine WL.r 1 hs15 [] rfl ?_
         refine WL.st tbk hs15 0 rfl rfl (fun _ hs19 => ?_)
         refine WL.nil ?_
         refine ibN ?_
         refine retK0 rfl ?_
         refine ⟨rfl, ?_⟩
         unfold sgrOne
         rw [if_neg e0, if_neg e1, if_neg e4, if_neg e7, if_neg e30, if_neg e39, if_neg e40, if_pos e49]
         exact hs19
        ·have e49 : ¬ (n = 49) := by have h9 := h18; (try simp only [within_not] at h9); first | exact h9 | (simp at h9; omega)
         refine WC.skip ?_
         refine ibN ?_
         refine retK0 rfl ?_
         refine ⟨rfl, ?_⟩
         unfold sgrOne
         rw [if_neg e0, if_neg e1, if_neg e4, if_neg e7, if_neg e30, if_neg e39, if_neg e40, if_neg e49]
         exact hs15
end Go.Proofs.YtjmegoiclgancaaGreat
namespace Go.Proofs.YtjmegoiclgancaaGreat
open Go Go.RowKit
set_option linter.unusedVariables false
set_option linter.unusedSimpArgs false
theorem c_impl_Sgr (a_Fg : Int) (a_Bg : Int) (a_Bold : Bool) (a_Under : Bool) (a_Turn : Bool) (A_l : Option Addr) (n_l c_l : Nat) (l : List Int) (w : World) (f_l : SlF encI w A_l n_l l) (hl : areArgs l = true) (hn : n_l ≤ 549755813888) :
    Calls Tryz.prog 238 #[.agg #[i64 a_Fg, i64 a_Bg, .bool a_Bold, .bool a_Under, .bool a_Turn], .slice A_l n_l c_l] w fun e w' => ∃ r : AttrD, e = .returned (.agg #[i64 r.Fg, i64 r.Bg, .bool r.Bold, .bool r.Under, .bool r.Turn]) ∧ St w [] [] w' ∧ r = sgrRes (⟨a_Fg, a_Bg, a_Bold, a_Under, a_Turn⟩ : AttrD) l := by
 have hll := f_l.len
 refine enter 25 Tryz.func238 rfl Tryz.ntmps238 rfl rfl ?_
 have hs1 := St.init w
 refine WC.sr ?_
 refine WL.bx hs1 rfl (fun b2 _ hs3 => ?_)
 refine WL.al hs3 Tryz.zeroValue30 rfl rfl (fun b4 _ hs5 => ?_)
 refine WL.nil ?_
 refine WC.seq (fun K6 hK6 => ?_)
 refine WC.sr ?_
 refine WL.r 1 hs5 [1] rfl ?_
 refine WL.cl Tryz.call95 rfl (c_impl_AttrOk _ _ _ _ _ _) ?_
 rintro _ whs7 ⟨rfl, hs7⟩
 replace hs7 := hs5.call0 hs7
 refine ⟨_, rfl, ?_⟩
 refine WL.r 1 hs7 [] rfl ?_
 refine WL.nil ?_
 refine WC.cq rfl (fun h8 qh8 => ?_) (fun h8 qh8 => ?_)
 ·have hk : ¬ (attrOk a_Fg a_Bg = true ∧ 0 < l.length) := by rintro ⟨z7, z8⟩; have h9 := h8; first | (simp [z7] at h9; omega) | (simp [z7] at h9)
  refine WC.sr ?_
  refine WL.val rfl rfl rfl (Run.build rfl rfl rfl rfl (built_30)) ?_
  refine WL.st tbk hs7 0 rfl rfl (fun _ hs9 => ?_)
  refine WL.nil ?_
  refine WC.ret ?_
  refine tkR ?_
  clear hK6
  refine retV1 rfl (resV.cellA tbk hs9 0 rfl rfl rfl rfl) ?_
  exact ⟨⟨0, 0, false, false, false⟩, rfl, hs9.nil, by unfold sgrRes; rw [if_neg hk]⟩
 ·have hc0 := h8
  refine WC.skip ?_
  refine hK6 _ _ ?_
  refine WC.seq (fun K10 hK10 => ?_)
  refine WC.r1 hs7 [] rfl ?_
  refine WC.cq rfl (fun h11 qh11 => ?_) (fun h11 qh11 => ?_)
  ·have hk : ¬ (attrOk a_Fg a_Bg = true ∧ 0 < l.length) := by rintro ⟨z7, z8⟩; have h9 := h11; first | (simp [z7] at h9; omega) | (simp [z7] at h9)
   refine WC.sr ?_
   refine WL.val rfl rfl rfl (Run.build rfl rfl rfl rfl (built_30)) ?_
   refine WL.st tbk hs7 0 rfl rfl (fun _ hs12 => ?_)
   refine WL.nil ?_
   refine WC.ret ?_
   refine tkR ?_
   clear hK10
   refine retV1 rfl (resV.cellA tbk hs12 0 rfl rfl rfl rfl) ?_
   exact ⟨⟨0, 0, false, false, false⟩, rfl, hs12.nil, by unfold sgrRes; rw [if_neg hk]⟩
  ·have hc1 := h11
   have hk2 : attrOk a_Fg a_Bg = true ∧ 0 < l.length := by (try simp at hc0); (try simp at hc1); first | exact ⟨hc0, by omega⟩ | exact ⟨hc0.1, by omega⟩
   refine WC.skip ?_
   refine hK10 _ _ ?_
   refine WC.seq (fun K13 hK13 => ?_)
   refine WC.r1 hs7 [] rfl ?_
   refine WC.block ?_
   have hM14 := (St.grp0 [_] (hs7.fb b2))
   refine WC.lV [2, 4, 9, 13, 15, 16] rfl hM14 (fun k_ (a_ : Hp) f => ∃ (i : Nat) (q : AttrD), k_ = n_l - i ∧ a_ = [(b2, .cells (List.toArray [i64 q.Fg, i64 q.Bg, .bool q.Bold, .bool q.Under, .bool q.Turn]) 30 (0, 0))] ∧ (i ≤ n_l) ∧ (q = sgrAll (⟨a_Fg, a_Bg, a_Bold, a_Under, a_Turn⟩ : AttrD) (l.take i)) ∧ Sub [(17, .int .i64 i)] f) (((fun (i : Nat) (q : AttrD) => n_l - i) (0) ((⟨a_Fg, a_Bg, a_Bold, a_Under, a_Turn⟩ : AttrD)))) ?_ ?_
   ·refine ⟨0, (⟨a_Fg, a_Bg, a_Bold, a_Under, a_Turn⟩ : AttrD), rfl, rfl, ?_, ?_, ⟨rfl, trivial⟩⟩
    · exact Nat.zero_le _
    · rfl
   ·rintro _ _ f w ⟨i, q, rfl, rfl, p0, p1, hG⟩ hF hs15
    refine WC.sub _ (hG.app hF) ?_
    clear hG hF
    replace hs15 := St.ungrp0 [_] hs15
    have hs16 := ((hs15.fb b4).fb b2)
    refine WC.r1 hs16 [] rfl ?_
    refine WC.seq (fun K17 hK17 => ?_)
    refine WC.cq rfl (fun h18 qh18 => ?_) (fun h18 qh18 => ?_)
    ·have hnn := (areArgs_iff.1 hl).2 _ (gat_mem (F := encI) (show i < l.length by omega))
     refine WC.skip ?_
     refine hK17 _ _ ?_
     refine WC.seq (fun K19 hK19 => ?_)
     refine WC.block ?_
     refine WC.sr ?_
     refine WL.val rfl rfl rfl (Run.idxN Tryz.runUnderlying23 Tryz.sizeOf3 rfl rfl rfl ?_ ?_ ?_) ?_
     · exact SlF.some_ (SlF.st0 f_l hs16)
     · omega
     · omega
     refine WL.val rfl rfl rfl (Run.load Tryz.isAgg3 rfl rfl (SlF.one1 (SlF.st0 f_l hs16) ?_ rfl)) ?_
     · omega
     refine WL.r 1 hs16 [] rfl ?_
     refine WL.nil ?_
     refine WC.region ?_
     refine WL.r 1 hs16 [] rfl ?_
     have hF20 : St _ _ ([(b2, _)] ++ _) _ := hs16
     refine WL.call rfl rfl rfl (Run.call Tryz.call255 rfl rfl rfl) (c_impl_Attr_one _ q _ _ (hF20.own _ List.mem_cons_self).1 ?_) ?_
     · omega
     rintro _ whs21 ⟨rfl, hs21⟩
     replace hs21 := St.lend hF20 hs21
     refine ⟨_, rfl, ?_⟩
     refine WL.nil ?_
     refine hK19 _ _ ?_
     refine WC.region ?_
     refine WL.r 2 hs21 [] rfl ?_
     refine WL.nil ?_
     refine tkN ?_
     have hF22 := (St.grp0 [_] ((hs21.fb b4).fb b2))
     refine ⟨sbF rfl, _, hF22, _, ?_, i + 1, (sgrOne q (gat encI l i)), rfl, rfl, ?_, ?_, ⟨rfl, trivial⟩⟩
     · omega
     · omega
     · rw [sgrAll_take (by omega), ← p1]
    ·refine WC.exit ?_
     refine hK13 _ _ ?_
     refine WC.sr ?_
     refine WL.r 1 hs16 [0] rfl ?_
     refine WL.st tbk hs16 1 rfl rfl (fun _ hs23 => ?_)
     refine WL.nil ?_
     refine WC.ret ?_
     refine retV1 rfl (resV.cellA tbk hs23 1 rfl rfl rfl rfl) ?_
     exact ⟨q, rfl, hs23.nil, by unfold sgrRes; rw [if_pos hk2, p1, List.take_of_length_le (by omega)]⟩
theorem c_spec_l06One (a_Fg : Int) (a_Bg : Int) (a_Bold : Bool) (a_Under : Bool) (a_Turn : Bool) (n : Int) (w : World) (hn : 0 ≤ n ∧ n ≤ 9999) :
    Calls Tryz.prog 232 #[.agg #[i64 a_Fg, i64 a_Bg, .bool a_Bold, .bool a_Under, .bool a_Turn], i64 n] w fun e w' => ∃ r : AttrD, e = .returned (.agg #[i64 r.Fg, i64 r.Bg, .bool r.Bold, .bool r.Under, .bool r.Turn]) ∧ St w [] [] w' ∧ r = sgrOne (⟨a_Fg, a_Bg, a_Bold, a_Under, a_Turn⟩ : AttrD) n := by
 refine enter 68 Tryz.func232 rfl Tryz.ntmps232 rfl rfl ?_
 have hs1 := St.init w
 refine WC.sr ?_
 refine WL.bx hs1 rfl (fun b2 _ hs3 => ?_)
 refine WL.al hs3 Tryz.zeroValue30 rfl rfl (fun b4 _ hs5 => ?_)
 refine WL.nil ?_
 refine WC.seq (fun K6 hK6 => ?_)
 refine WC.block ?_
 refine WC.r1 hs5 [] rfl ?_
 refine WC.cq rfl (fun h7 qh7 => ?_) (fun h7 qh7 => ?_)
 ·have e0 : n = 0 := by have h9 := h7; simp at h9; first | exact h9 | omega
  refine WC.sr ?_
  refine WL.val rfl rfl rfl (Run.build rfl rfl rfl rfl (built_30)) ?_
  refine WL.st tbk hs5 0 rfl rfl (fun _ hs8 => ?_)
  refine WL.nil ?_
  refine WC.ret ?_
  refine ibR (tkR ?_)
  clear hK6
  refine retV1 rfl (resV.cellA tbk hs8 0 rfl rfl rfl rfl) ?_
  refine ⟨sgrOne (⟨a_Fg, a_Bg, a_Bold, a_Under, a_Turn⟩ : AttrD) n, congrArg Ending.returned ?_, hs8.nil, rfl⟩
  unfold sgrOne
  rw [if_pos e0]
  try rfl
 ·have e0 : ¬ (n = 0) := by intro h8; have h9 := h7; simp at h9; omega
  refine WC.sr ?_
  refine WL.r 3 hs5 [] rfl ?_
  refine WL.pO tbk 2 Acts.nil hs5 [] rfl rfl rfl rfl (fun g_ => trivial) ?_
  refine WL.r 1 hs5 [] rfl ?_
  refine WL.nil ?_
  refine WC.cq rfl (fun h9 qh9 => ?_) (fun h9 qh9 => ?_)
  ·have e1 : n = 1 ∨ n = 22 := by have h9 := h9; simp at h9; first | exact h9 | omega
   refine WC.region ?_
   refine WL.r 3 hs5 [] rfl ?_
   refine WL.st tbk hs5 1 rfl rfl (fun _ hs10 => ?_)
   refine WL.nil ?_
   refine hK6 _ _ ?_
   refine WC.sr ?_
   refine WL.r 1 hs10 [1] rfl ?_
   refine WL.st tbk hs10 0 rfl rfl (fun _ hs11 => ?_)
   refine WL.nil ?_
   refine WC.ret ?_
   refine retV1 rfl (resV.cellA tbk hs11 0 rfl rfl rfl rfl) ?_
   refine ⟨sgrOne (⟨a_Fg, a_Bg, a_Bold, a_Under, a_Turn⟩ : AttrD) n, congrArg Ending.returned ?_, hs11.nil, rfl⟩
   unfold sgrOne
   rw [if_neg e0, if_pos e1]
   try rfl
  ·have e1 : ¬ (n = 1 ∨ n = 22) := by intro h8; have h9 := h9; simp at h9; omega
   refine WC.sr ?_
   refine WL.r 3 hs5 [] rfl ?_
   refine WL.pO tbk 2 Acts.nil hs5 [] rfl rfl rfl rfl (fun g_ => trivial) ?_
   refine WL.r 1 hs5 [] rfl ?_
   refine WL.nil ?_
   refine WC.cq rfl (fun h12 qh12 => ?_) (fun h12 qh12 => ?_)
   ·have e4 : n = 4 ∨ n = 24 := by have h9 := h12; simp at h9; first | exact h9 | omega
    refine WC.region ?_
    refine WL.r 3 hs5 [] rfl ?_
    refine WL.st tbk hs5 1 rfl rfl (fun _ hs13 => ?_)
    refine WL.nil ?_
    refine hK6 _ _ ?_
    refine WC.sr ?_
    refine WL.r 1 hs13 [1] rfl ?_
    refine WL.st tbk hs13 0 rfl rfl (fun _ hs14 => ?_)
    refine WL.nil ?_
    refine WC.ret ?_
    refine retV1 rfl (resV.cellA tbk hs14 0 rfl rfl rfl rfl) ?_
    refine ⟨sgrOne (⟨a_Fg, a_Bg, a_Bold, a_Under, a_Turn⟩ : AttrD) n, congrArg Ending.returned ?_, hs14.nil, rfl⟩
    unfold sgrOne
    rw [if_neg e0, if_neg e1, if_pos e4]
    try rfl
   ·have e4 : ¬ (n = 4 ∨ n = 24) := by intro h8; have h9 := h12; simp at h9; omega
    refine WC.sr ?_
    refine WL.r 3 hs5 [] rfl ?_
    refine WL.pO tbk 2 Acts.nil hs5 [] rfl rfl rfl rfl (fun g_ => trivial) ?_
    refine WL.r 1 hs5 [] rfl ?_
    refine WL.nil ?_
    refine WC.cq rfl (fun h15 qh15 => ?_) (fun h15 qh15 => ?_)
    ·have e7 : n = 7 ∨ n = 27 := by have h9 := h15; simp at h9; first | exact h9 | omega
     refine WC.region ?_
     refine WL.r 3 hs5 [] rfl ?_
     refine WL.st tbk hs5 1 rfl rfl (fun _ hs16 => ?_)
     refine WL.nil ?_
     refine hK6 _ _ ?_
     refine WC.sr ?_
     refine WL.r 1 hs16 [1] rfl ?_
     refine WL.st tbk hs16 0 rfl rfl (fun _ hs17 => ?_)
     refine WL.nil ?_
     refine WC.ret ?_
     refine retV1 rfl (resV.cellA tbk hs17 0 rfl rfl rfl rfl) ?_
     refine ⟨sgrOne (⟨a_Fg, a_Bg, a_Bold, a_Under, a_Turn⟩ : AttrD) n, congrArg Ending.returned ?_, hs17.nil, rfl⟩
     unfold sgrOne
     rw [if_neg e0, if_neg e1, if_neg e4, if_pos e7]
     try rfl
    ·have e7 : ¬ (n = 7 ∨ n = 27) := by intro h8; have h9 := h15; simp at h9; omega
     refine WC.sr ?_
     refine WL.r 3 hs5 [] rfl ?_
     refine WL.pA tbk 2 Acts.nil hs5 [] rfl rfl rfl rfl (fun g_ => trivial) ?_
     refine WL.r 1 hs5 [] rfl ?_
     refine WL.nil ?_
     refine WC.cq rfl (fun h18 qh18 => ?_) (fun h18 qh18 => ?_)
     ·have e30 : 30 ≤ n ∧ n ≤ 37 := by have h9 := h18; simp at h9; first | exact h9 | omega
      refine WC.region ?_
      refine WL.r 3 hs5 [] rfl ?_
      refine WL.st tbk hs5 1 rfl rfl (fun _ hs19 => ?_)
      refine WL.nil ?_
      refine hK6 _ _ ?_
      refine WC.sr ?_
      refine WL.r 1 hs19 [1] rfl ?_
      refine WL.st tbk hs19 0 rfl rfl (fun _ hs20 => ?_)
      refine WL.nil ?_
      refine WC.ret ?_
      refine retV1 rfl (resV.cellA tbk hs20 0 rfl rfl rfl rfl) ?_
      refine ⟨sgrOne (⟨a_Fg, a_Bg, a_Bold, a_Under, a_Turn⟩ : AttrD) n, congrArg Ending.returned ?_, hs20.nil, rfl⟩
      unfold sgrOne
      rw [if_neg e0, if_neg e1, if_neg e4, if_neg e7, if_pos e30]
      try rfl
     ·have e30 : ¬ (30 ≤ n ∧ n ≤ 37) := by intro h8; have h9 := h18; simp at h9; omega
      refine WC.r1 hs5 [] rfl ?_
      refine WC.cq rfl (fun h21 qh21 => ?_) (fun h21 qh21 => ?_)
      ·have e39 : n = 39 := by have h9 := h21; simp at h9; first | exact h9 | omega
       refine WC.region ?_
       refine WL.r 1 hs5 [] rfl ?_
       refine WL.st tbk hs5 1 rfl rfl (fun _ hs22 => ?_)
       refine WL.nil ?_
       refine hK6 _ _ ?_
       refine WC.sr ?_
       refine WL.r 1 hs22 [1] rfl ?_
       refine WL.st tbk hs22 0 rfl rfl (fun _ hs23 => ?_)
       refine WL.nil ?_
       refine WC.ret ?_
       refine retV1 rfl (resV.cellA tbk hs23 0 rfl rfl rfl rfl) ?_
       refine ⟨sgrOne (⟨a_Fg, a_Bg, a_Bold, a_Under, a_Turn⟩ : AttrD) n, congrArg Ending.returned ?_, hs23.nil, rfl⟩
       unfold sgrOne
       rw [if_neg e0, if_neg e1, if_neg e4, if_neg e7, if_neg e30, if_pos e39]
       try rfl
      ·have e39 : ¬ (n = 39) := by intro h8; have h9 := h21; simp at h9; omega
       refine WC.sr ?_
       refine WL.r 3 hs5 [] rfl ?_
       refine WL.pA tbk 2 Acts.nil hs5 [] rfl rfl rfl rfl (fun g_ => trivial) ?_
       refine WL.r 1 hs5 [] rfl ?_
       refine WL.nil ?_
       refine WC.cq rfl (fun h24 qh24 => ?_) (fun h24 qh24 => ?_)
       ·have e40 : 40 ≤ n ∧ n ≤ 47 := by have h9 := h24; simp at h9; first | exact h9 | omega
        refine WC.region ?_
        refine WL.r 3 hs5 [] rfl ?_
        refine WL.st tbk hs5 1 rfl rfl (fun _ hs25 => ?_)
        refine WL.nil ?_
        refine hK6 _ _ ?_
        refine WC.sr ?_
        refine WL.r 1 hs25 [1] rfl ?_
        refine WL.st tbk hs25 0 rfl rfl (fun _ hs26 => ?_)
        refine WL.nil ?_
        refine WC.ret ?_
        refine retV1 rfl (resV.cellA tbk hs26 0 rfl rfl rfl rfl) ?_
        refine ⟨sgrOne (⟨a_Fg, a_Bg, a_Bold, a_Under, a_Turn⟩ : AttrD) n, congrArg Ending.returned ?_, hs26.nil, rfl⟩
        unfold sgrOne
        rw [if_neg e0, if_neg e1, if_neg e4, if_neg e7, if_neg e30, if_neg e39, if_pos e40]
        try rfl
       ·have e40 : ¬ (40 ≤ n ∧ n ≤ 47) := by intro h8; have h9 := h24; simp at h9; omega
        refine WC.r1 hs5 [] rfl ?_
        refine WC.cq rfl (fun h27 qh27 => ?_) (fun h27 qh27 => ?_)
        ·have e49 : n = 49 := by have h9 := h27; simp at h9; first | exact h9 | omega
         refine WC.region ?_
         refine WL.r 1 hs5 [] rfl ?_
         refine WL.st tbk hs5 1 rfl rfl (fun _ hs28 => ?_)
         refine WL.nil ?_
         refine hK6 _ _ ?_
         refine WC.sr ?_
         refine WL.r 1 hs28 [1] rfl ?_
         refine WL.st tbk hs28 0 rfl rfl (fun _ hs29 => ?_)
         refine WL.nil ?_
         refine WC.ret ?_
         refine retV1 rfl (resV.cellA tbk hs29 0 rfl rfl rfl rfl) ?_
         refine ⟨sgrOne (⟨a_Fg, a_Bg, a_Bold, a_Under, a_Turn⟩ : AttrD) n, congrArg Ending.returned ?_, hs29.nil, rfl⟩
         unfold sgrOne
         rw [if_neg e0, if_neg e1, if_neg e4, if_neg e7, if_neg e30, if_neg e39, if_neg e40, if_pos e49]
         try rfl
        ·have e49 : ¬ (n = 49) := by intro h8; have h9 := h27; simp at h9; omega
         refine WC.skip ?_
         refine hK6 _ _ ?_
         refine WC.sr ?_
         refine WL.r 1 hs5 [1] rfl ?_
         refine WL.st tbk hs5 0 rfl rfl (fun _ hs30 => ?_)
         refine WL.nil ?_
         refine WC.ret ?_
         refine retV1 rfl (resV.cellA tbk hs30 0 rfl rfl rfl rfl) ?_
         refine ⟨sgrOne (⟨a_Fg, a_Bg, a_Bold, a_Under, a_Turn⟩ : AttrD) n, congrArg Ending.returned ?_, hs30.nil, rfl⟩
         unfold sgrOne
         rw [if_neg e0, if_neg e1, if_neg e4, if_neg e7, if_neg e30, if_neg e39, if_neg e40, if_neg e49]
         try rfl
theorem c_spec_Sgr (a_Fg : Int) (a_Bg : Int) (a_Bold : Bool) (a_Under : Bool) (a_Turn : Bool) (A_l : Option Addr) (n_l c_l : Nat) (l : List Int) (w : World) (f_l : SlF encI w A_l n_l l) (hl : areArgs l = true) (hn : n_l ≤ 549755813888) :
    Calls Tryz.prog 184 #[.agg #[i64 a_Fg, i64 a_Bg, .bool a_Bold, .bool a_Under, .bool a_Turn], .slice A_l n_l c_l] w fun e w' => ∃ r : AttrD, e = .returned (.agg #[i64 r.Fg, i64 r.Bg, .bool r.Bold, .bool r.Under, .bool r.Turn]) ∧ St w [] [] w' ∧ r = sgrRes (⟨a_Fg, a_Bg, a_Bold, a_Under, a_Turn⟩ : AttrD) l := by
 have hll := f_l.len
 refine enter 27 Tryz.func184 rfl Tryz.ntmps184 rfl rfl ?_
 have hs1 := St.init w
 refine WC.sr ?_
 refine WL.bx hs1 rfl (fun b2 _ hs3 => ?_)
 refine WL.al hs3 Tryz.zeroValue30 rfl rfl (fun b4 _ hs5 => ?_)
 refine WL.nil ?_
 refine WC.seq (fun K6 hK6 => ?_)
 refine WC.sr ?_
 refine WL.r 1 hs5 [1] rfl ?_
 refine WL.cl Tryz.call139 rfl (c_spec_AttrOk _ _ _ _ _ _) ?_
 rintro _ whs7 ⟨rfl, hs7⟩
 replace hs7 := hs5.call0 hs7
 refine ⟨_, rfl, ?_⟩
 refine WL.r 2 hs7 [] rfl ?_
 refine WL.pO tbk 3 Acts.nil hs7 [] rfl rfl rfl rfl (fun g_ => trivial) ?_
 refine WL.nil ?_
 refine WC.cq rfl (fun h8 qh8 => ?_) (fun h8 qh8 => ?_)
 ·have hk : ¬ (attrOk a_Fg a_Bg = true ∧ 0 < l.length) := by rintro ⟨z7, z8⟩; have h9 := h8; first | (simp [z7] at h9; omega) | (simp [z7] at h9)
  refine WC.sr ?_
  refine WL.val rfl rfl rfl (Run.build rfl rfl rfl rfl (built_30)) ?_
  refine WL.st tbk hs7 0 rfl rfl (fun _ hs9 => ?_)
  refine WL.nil ?_
  refine WC.ret ?_
  refine tkR ?_
  clear hK6
  refine retV1 rfl (resV.cellA tbk hs9 0 rfl rfl rfl rfl) ?_
  exact ⟨⟨0, 0, false, false, false⟩, rfl, hs9.nil, by unfold sgrRes; rw [if_neg hk]⟩
 ·have hc0 := h8
  have hk2 : attrOk a_Fg a_Bg = true ∧ 0 < l.length := by (try simp at hc0); (try simp at hc1); first | exact ⟨hc0, by omega⟩ | exact ⟨hc0.1, by omega⟩
  refine WC.skip ?_
  refine hK6 _ _ ?_
  refine WC.seq (fun K10 hK10 => ?_)
  refine WC.r1 hs7 [] rfl ?_
  refine WC.block ?_
  have hM11 := (St.grp0 [_] (hs7.fb b2))
  refine WC.lV [2, 4, 14, 16, 17] rfl hM11 (fun k_ (a_ : Hp) f => ∃ (i : Nat) (q : AttrD), k_ = n_l - i ∧ a_ = [(b2, .cells (List.toArray [i64 q.Fg, i64 q.Bg, .bool q.Bold, .bool q.Under, .bool q.Turn]) 30 (0, 0))] ∧ (i ≤ n_l) ∧ (q = sgrAll (⟨a_Fg, a_Bg, a_Bold, a_Under, a_Turn⟩ : AttrD) (l.take i)) ∧ Sub [(18, .int .i64 i)] f) (((fun (i : Nat) (q : AttrD) => n_l - i) (0) ((⟨a_Fg, a_Bg, a_Bold, a_Under, a_Turn⟩ : AttrD)))) ?_ ?_
  ·refine ⟨0, (⟨a_Fg, a_Bg, a_Bold, a_Under, a_Turn⟩ : AttrD), rfl, rfl, ?_, ?_, ⟨rfl, trivial⟩⟩
   · exact Nat.zero_le _
   · rfl
  ·rintro _ _ f w ⟨i, q, rfl, rfl, p0, p1, hG⟩ hF hs12
   refine WC.sub _ (hG.app hF) ?_
   clear hG hF
   replace hs12 := St.ungrp0 [_] hs12
   have hs13 := ((hs12.fb b4).fb b2)
   refine WC.r1 hs13 [] rfl ?_
   refine WC.seq (fun K14 hK14 => ?_)
   refine WC.cq rfl (fun h15 qh15 => ?_) (fun h15 qh15 => ?_)
   ·have hnn := (areArgs_iff.1 hl).2 _ (gat_mem (F := encI) (show i < l.length by omega))
    refine WC.skip ?_
    refine hK14 _ _ ?_
    refine WC.seq (fun K16 hK16 => ?_)
    refine WC.block ?_
    refine WC.sr ?_
    refine WL.val rfl rfl rfl (Run.idxN Tryz.runUnderlying23 Tryz.sizeOf3 rfl rfl rfl ?_ ?_ ?_) ?_
    · exact SlF.some_ (SlF.st0 f_l hs13)
    · omega
    · omega
    refine WL.val rfl rfl rfl (Run.load Tryz.isAgg3 rfl rfl (SlF.one1 (SlF.st0 f_l hs13) ?_ rfl)) ?_
    · omega
    refine WL.r 1 hs13 [] rfl ?_
    refine WL.nil ?_
    refine WC.region ?_
    refine WL.r 2 hs13 [0] rfl ?_
    refine WL.cl Tryz.call232 rfl (c_spec_l06One _ _ _ _ _ _ _ ?_) ?_
    · first | (first | assumption | rfl | omega) | (first | assumption | omega)
    rintro _ whs17 ⟨r18, rfl, hs17, hr19⟩
    replace hs17 := hs13.callF hs17
    refine ⟨_, rfl, ?_⟩
    rw [List.nil_append] at hs17
    replace hs17 := St.perm hs17 (L' := [_, _] ++ _) pR
    refine WL.st tbk hs17 0 rfl rfl (fun _ hs20 => ?_)
    refine WL.nil ?_
    refine hK16 _ _ ?_
    refine WC.region ?_
    refine WL.r 2 hs20 [] rfl ?_
    refine WL.nil ?_
    refine tkN ?_
    have hF21 := (St.grp0 [_] ((hs20.fb b4).fb b2))
    refine ⟨sbF rfl, _, hF21, _, ?_, i + 1, r18, rfl, rfl, ?_, ?_, ⟨rfl, trivial⟩⟩
    · omega
    · omega
    · rw [sgrAll_take (by omega), ← p1]; exact hr19
   ·refine WC.exit ?_
    refine hK10 _ _ ?_
    refine WC.sr ?_
    refine WL.r 1 hs13 [0] rfl ?_
    refine WL.st tbk hs13 1 rfl rfl (fun _ hs22 => ?_)
    refine WL.nil ?_
    refine WC.ret ?_
    refine retV1 rfl (resV.cellA tbk hs22 1 rfl rfl rfl rfl) ?_
    exact ⟨q, rfl, hs22.nil, by unfold sgrRes; rw [if_pos hk2, p1, List.take_of_length_le (by omega)]⟩
end Go.Proofs.YtjmegoiclgancaaGreat
namespace Go.Proofs.YtjmegoiclgancaaGreat
open Go Go.RowKit
set_option linter.unusedVariables false
set_option linter.unusedSimpArgs false
theorem c_impl_GridShift (g : GridR) (x : Int) (y : Int) (n : Int) (w : World) (f_g : okGridR 549755813888 w g) (hg : gridOk g.dat = true) (hx : 0 ≤ x ∧ x < g.W) (hy : 0 ≤ y ∧ y < g.H) (hn : -100000 ≤ n ∧ n ≤ 100000) :
    Calls Tryz.prog 237 #[.agg #[i64 g.W, i64 g.H, .slice g.Cells.A g.Cells.n g.Cells.c], i64 x, i64 y, i64 n] w fun e w' => ∃ r L1, e = .returned (.agg #[i64 r.W, i64 r.H, .slice r.Cells.A r.Cells.n r.Cells.c]) ∧ St w [] L1 w' ∧ ownGridR r L1 ∧ r.dat = gShift g.dat x y n := by
 have nb_g_Cells := f_g.Cells_n
 have nl_g_Cells := f_g.Cells.len
 have hgb : (1 ≤ g.W ∧ g.W ≤ 120) ∧ (1 ≤ g.H ∧ g.H ≤ 120) ∧ 1 ≤ g.W * g.H ∧ g.W * g.H ≤ 4000 := gridOk_bnd hg
 have hgl : (g.Cells.xs.length : Int) = g.W * g.H := grid_len hg
 have hsmg : smGrid 1048576 g.dat := by show g.Cells.xs.length ≤ 1048576; omega
 have hsmgB : smGrid 549755813888 g.dat := Nat.le_trans hsmg (by decide)
 have hv0 : 0 ≤ y * g.W := Int.mul_nonneg (by omega) (by omega)
 have hv1 : (y + 1) * g.W = y * g.W + g.W := by rw [Int.add_mul, Int.one_mul]
 have hv2 : (y + 1) * g.W ≤ g.H * g.W := Int.mul_le_mul_of_nonneg_right (by omega) (by omega)
 rw [Int.mul_comm g.H g.W] at hv2
 have hlo2 : (y * g.W).toNat = y.toNat * g.W.toNat := Int.toNat_mul (by omega) (by omega)
 have hnz : ((y.toNat * g.W.toNat : Nat) : Int) = y * g.W := by rw [← hlo2]; omega
 have hhas : gridHas g.dat x y = true := by unfold gridHas; rw [Bool.and_eq_true, within_iff, within_iff]; show (0 ≤ x ∧ x ≤ g.W - 1) ∧ 0 ≤ y ∧ y ≤ g.H - 1; omega
 refine enter 63 Tryz.func237 rfl Tryz.ntmps237 rfl rfl ?_
 have hs1 := St.init w
 refine WC.sr ?_
 refine WL.bx hs1 rfl (fun b2 _ hs3 => ?_)
 refine WL.al hs3 Tryz.zeroValue28 rfl rfl (fun b4 _ hs5 => ?_)
 refine WL.nil ?_
 refine WC.seq (fun K6 hK6 => ?_)
 refine WC.sr ?_
 refine WL.r 1 hs5 [1] rfl ?_
 refine WL.cl Tryz.call93 rfl (c_impl_GridOk g _ (okGridR.st0 f_g hs5)) ?_
 rintro _ whs7 ⟨rfl, hs7⟩
 replace hs7 := hs5.call0 hs7
 refine ⟨_, rfl, ?_⟩
 refine WL.r 2 hs7 [] rfl ?_
 apply WL.gO 5 Acts.nil hs7 rfl
 ·intro g8 J9
  have qg8 := g8
  try simp only [bf, within_iff, within_not] at qg8
  refine WL.runA tbk 3 (Acts.nil.cons (j := 3) rfl g8) hs7 [1] rfl ⟨rfl, trivial⟩ ?_
  refine WL.call (wantF rfl g8) rfl rfl (Run.call Tryz.call94 rfl rfl rfl) (c_impl_Grid_has g _ _ _ (okGridR.st0 f_g hs7) ?_ ?_) ?_
  · first | (first | assumption | rfl | omega) | (first | assumption | rfl | omega | (exact Nat.le_trans hsmg (by decide)))
  · first | (first | assumption | rfl | omega) | (first | assumption | rfl | omega | (exact Nat.le_trans hsmg (by decide)))
  rintro _ whs10 ⟨rfl, hs10⟩
  replace hs10 := hs7.call0 hs10
  refine ⟨_, rfl, ?_⟩
  refine WL.runA tbk 1 (Acts.nil.cons (j := 3) rfl g8) hs10 [] rfl trivial ?_
  exact WL.eO 5 Acts.nil J9 hs10 g8 rfl rfl
 ·intro _ hs11
  refine WL.nil ?_
  refine WC.cq rfl (fun h12 qh12 => ?_) (fun h12 qh12 => ?_)
  ·exfalso; have h9 := h12; simp [hg, hhas] at h9
  ·refine WC.skip ?_
   refine hK6 _ _ ?_
   refine WC.sr ?_
   refine WL.r 1 hs11 [1] rfl ?_
   refine WL.cl Tryz.call206 rfl (c_impl_copyGrid g _ (okGridR.st0 f_g hs11) ?_) ?_
   · first | (first | assumption | rfl | omega) | (first | assumption | rfl | omega | (exact Nat.le_trans hsmg (by decide)))
   rintro _ whs13 ⟨r14, L1_15, rfl, hs13, ho16, hd17⟩
   replace hs13 := hs11.callF hs13
   refine ⟨_, rfl, ?_⟩
   replace hs13 := St.back [_, _] hs13
   have hrW : r14.W = g.W := congrArg GridD.W hd17
   have hrH : r14.H = g.H := congrArg GridD.H hd17
   have hrC : r14.Cells.xs = g.Cells.xs := congrArg GridD.Cells hd17
   have hrn := ownGridR.len ‹ownGridR r14 _›
   have hrc := OwnF.cap ‹ownGridR r14 _›
   have hz0 : y * r14.W = y * g.W := by rw [hrW]
   have hz1 : (y + 1) * r14.W = (y + 1) * g.W := by rw [hrW]
   have hrl : r14.Cells.xs.length = g.Cells.xs.length := congrArg List.length hrC
   have hlr := f_g.Cells.len
   have hcg := f_g.Cells_c
   refine WL.al hs13 Tryz.zeroValue28 rfl rfl (fun b18 _ hs19 => ?_)
   refine WL.st tbk hs19 0 rfl rfl (fun _ hs20 => ?_)
   refine WL.nil ?_
   refine WC.sr ?_
   refine WL.r 2 hs20 [0] rfl ?_
   refine WL.cl Tryz.call224 rfl (c_impl_Grid_row r14 _ _ (ownGridR.ok (B := 549755813888) ho16 (hs20.ow L1_15) (by rw [hd17]; assumption)) ?_ ?_ ?_ ?_) ?_
   · first | (first | assumption | rfl | omega) | (first | assumption | rfl | omega | (exact Nat.le_trans hsmg (by decide)))
   · first | (first | assumption | rfl | omega) | (first | assumption | rfl | omega | (exact Nat.le_trans hsmg (by decide)))
   · first | (first | assumption | rfl | omega) | (first | assumption | rfl | omega | (exact Nat.le_trans hsmg (by decide)))
   · first | (first | assumption | rfl | omega) | (first | assumption | rfl | omega | (exact Nat.le_trans hsmg (by decide)))
   rintro _ whs21 ⟨rfl, hs21⟩
   replace hs21 := hs20.call0 hs21
   refine ⟨_, rfl, ?_⟩
   refine WL.r 1 hs21 [] rfl ?_
   refine WL.nil ?_
   refine WC.seq (fun K22 hK22 => ?_)
   refine WC.r1 hs21 [] rfl ?_
   refine WC.block ?_
   refine WC.lO [1, 2, 3, 4, 8, 9, 10, 22] rfl (hs21.fr L1_15) (fun k_ f L_ => ∃ (a : Nat) (zs : List CellD), k_ = (g.W - x).toNat - a ∧ ((a : Int) ≤ g.W - x) ∧ (zs.length = g.Cells.xs.length) ∧ (∀ k, k < g.Cells.xs.length → cat zs k = partF g.dat (shiftF g.dat x y n) (y.toNat * g.dat.W.toNat + x.toNat) a k) ∧ OwnF encCell 75 (.slice r14.Cells.A (r14.Cells.n) r14.Cells.c) (zs) L_ ∧ Sub [(11, .int .i64 (x + a))] f) (((fun (a : Nat) (zs : List CellD) => (g.W - x).toNat - a) (0) (r14.Cells.xs))) ?_ ?_
   ·refine ⟨0, r14.Cells.xs, rfl, ?_, ?_, ?_, ho16, ⟨?_, trivial⟩⟩
    · omega
    · exact hrl
    · intro k hk; rw [partF_zero, hrC]; rfl
    · (refine congrArg some (congrArg (Value.int _) ?_); omega)
   ·clear hs21
    rintro _ f w L25 ⟨a, zs, rfl, p0, p1, p2, ho26, hG⟩ hF hs27
    refine WC.sub _ (hG.app hF) ?_
    clear hG hF
    replace hs27 := St.back [_, _, _] hs27
    refine WC.seq (fun K28 hK28 => ?_)
    refine WC.r1 hs27 [2] rfl ?_
    refine WC.cq rfl (fun h29 qh29 => ?_) (fun h29 qh29 => ?_)
    ·refine WC.skip ?_
     refine hK28 _ _ ?_
     refine WC.seq (fun K30 hK30 => ?_)
     refine WC.block ?_
     refine WC.sr ?_
     refine WL.r 2 hs27 [] rfl ?_
     refine WL.cl Tryz.call253 rfl (c_impl_blank _) ?_
     rintro _ whs31 ⟨rfl, hs31⟩
     replace hs31 := hs27.call0 hs31
     refine ⟨_, rfl, ?_⟩
     refine WL.val rfl rfl rfl (Run.idx Tryz.runUnderlying26 Tryz.sizeOf75 rfl rfl rfl ?_ ?_ ?_) ?_
     · exact SlF.some_ (SlF.cutC (lo := (y * r14.W).toNat) (hi := ((y + 1) * r14.W).toNat) (SlF.ofOwn ho26 (hs31.ow L25)) (by refine ⟨?_, ?_, ?_⟩ <;> (omega)))
     · first | omega | (simp only [List.length_set]; omega)
     · first | omega | (simp only [List.length_set]; omega)
     refine WL.storeC (x' := blankC) (lo := (y * r14.W).toNat) (hs31.fr L25) ho26 Tryz.sizeOf75 rfl rfl rfl rfl rfl rfl rfl rfl rfl ?_ rfl (fun L32 whs33 hs33 ho34 _ => ?_)
     · first | omega | (simp only [List.length_set]; omega)
     replace hs33 := St.back [_, _, _] hs33
     refine WL.nil ?_
     refine WC.r1 hs33 [] rfl ?_
     refine WC.sr ?_
     refine WL.r 1 hs33 [] rfl ?_
     refine WL.cl Tryz.call97 rfl (c_impl_within _ _ _ _) ?_
     rintro _ whs35 ⟨rfl, hs35⟩
     replace hs35 := hs33.call0 hs35
     refine ⟨_, rfl, ?_⟩
     refine WL.r 1 hs35 [] rfl ?_
     apply WL.gA 6 Acts.nil hs35 rfl
     ·intro g36 J37
      have qg36 := g36
      try simp only [bf, within_iff, within_not] at qg36
      refine WL.runA tbk 5 (Acts.nil.cons (j := 2) rfl g36) hs35 [2] rfl ⟨by omega, rfl, trivial⟩ ?_
      refine WL.call (wantT rfl g36) rfl rfl (Run.call Tryz.call97 rfl rfl rfl) (c_impl_within _ _ _ _) ?_
      rintro _ whs38 ⟨rfl, hs38⟩
      replace hs38 := hs35.call0 hs38
      refine ⟨_, rfl, ?_⟩
      exact WL.eA 6 Acts.nil J37 hs38 g36 rfl rfl
     ·intro _ hs39
      refine WL.nil ?_
      refine WC.cq rfl (fun h40 qh40 => ?_) (fun h40 qh40 => ?_)
      ·have hin : x ≤ x + (a : Int) - n ∧ x + (a : Int) - n < g.dat.W := by show x ≤ x + (a : Int) - n ∧ x + (a : Int) - n < g.W; have h9 := h40; simp only [Bool.and_eq_true, within_iff] at h9; omega
       refine WC.region ?_
       refine WL.r 4 hs39 [2] rfl ?_
       refine WL.cl Tryz.call224 rfl (c_impl_Grid_row g _ _ (okGridR.st0 f_g hs39) ?_ ?_ ?_ ?_) ?_
       · first | (first | assumption | rfl | omega) | (first | assumption | rfl | omega | (exact Nat.le_trans hsmg (by decide)))
       · first | (first | assumption | rfl | omega) | (first | assumption | rfl | omega | (exact Nat.le_trans hsmg (by decide)))
       · first | (first | assumption | rfl | omega) | (first | assumption | rfl | omega | (exact Nat.le_trans hsmg (by decide)))
       · first | (first | assumption | rfl | omega) | (first | assumption | rfl | omega | (exact Nat.le_trans hsmg (by decide)))
       rintro _ whs41 ⟨rfl, hs41⟩
       replace hs41 := hs39.call0 hs41
       refine ⟨_, rfl, ?_⟩
       refine WL.r 1 hs41 [] rfl ?_
       refine WL.val rfl rfl rfl (Run.idx Tryz.runUnderlying26 Tryz.sizeOf75 rfl rfl rfl ?_ ?_ ?_) ?_
       · exact SlF.some_ (SlF.cutC (lo := (y * g.W).toNat) (hi := ((y + 1) * g.W).toNat) (SlF.st0 f_g.Cells hs41) (by refine ⟨?_, ?_, ?_⟩ <;> (omega)))
       · first | omega | (simp only [List.length_set]; omega)
       · first | omega | (simp only [List.length_set]; omega)
       refine WL.val rfl rfl rfl (Run.loadA Tryz.isAgg75 Tryz.sizeOf75 rfl rfl (SlF.whole (SlF.cutC (lo := (y * g.W).toNat) (hi := ((y + 1) * g.W).toNat) (SlF.st0 f_g.Cells hs41) (by refine ⟨?_, ?_, ?_⟩ <;> (omega))) ?_)) ?_
       · first | omega | (simp only [List.length_set]; omega)
       refine WL.val rfl rfl rfl (Run.idx Tryz.runUnderlying26 Tryz.sizeOf75 rfl rfl rfl ?_ ?_ ?_) ?_
       · exact SlF.some_ (SlF.cutC (lo := (y * r14.W).toNat) (hi := ((y + 1) * r14.W).toNat) (SlF.ofOwn ho34 (hs41.ow L32)) (by refine ⟨?_, ?_, ?_⟩ <;> (omega)))
       · first | omega | (simp only [List.length_set]; omega)
       · first | omega | (simp only [List.length_set]; omega)
       refine WL.storeC (x' := _) (lo := (y * r14.W).toNat) (hs41.fr L32) ho34 Tryz.sizeOf75 rfl rfl rfl rfl rfl rfl rfl rfl rfl ?_ rfl (fun L42 whs43 hs43 ho44 _ => ?_)
       · first | omega | (simp only [List.length_set]; omega)
       replace hs43 := St.back [_, _, _] hs43
       refine WL.nil ?_
       refine hK30 _ _ ?_
       refine WC.region ?_
       refine WL.r 3 hs43 [] rfl ?_
       refine WL.nil ?_
       refine tkN ?_
       refine ⟨sbF rfl, _, (hs43.fr L42), _, ?_, a + 1, _, rfl, ?_, ?_, ?_, ho44, ⟨?_, trivial⟩⟩
       · omega
       · omega
       · simp only [List.length_set]; exact p1
       · intro k hk; first | (rw [List.set_set]; exact part_next (g := g.dat) (by rw [hz0, hlo2]; show _ = y.toNat * g.W.toNat + x.toNat + a; omega) (by rw [hz0]; omega) (by rw [shiftF_at (g := g.dat) hx.1 hy.1 (by show x + (a : Int) < g.W; omega), if_pos hin, gat_cut (by omega), hlo2]; rfl) (p2 k hk)) | exact part_next (g := g.dat) (by rw [hz0, hlo2]; show _ = y.toNat * g.W.toNat + x.toNat + a; omega) (by rw [hz0]; omega) (by rw [shiftF_at (g := g.dat) hx.1 hy.1 (by show x + (a : Int) < g.W; omega), if_neg hout]) (p2 k hk)
       · (refine congrArg some (congrArg (Value.int _) ?_); omega)
      ·have hout : ¬ (x ≤ x + (a : Int) - n ∧ x + (a : Int) - n < g.dat.W) := by show ¬ (x ≤ x + (a : Int) - n ∧ x + (a : Int) - n < g.W); intro h8; have h9 := h40; simp [within] at h9; omega
       refine WC.skip ?_
       refine hK30 _ _ ?_
       refine WC.region ?_
       refine WL.r 3 hs39 [] rfl ?_
       refine WL.nil ?_
       refine tkN ?_
       refine ⟨sbF rfl, _, (hs39.fr L32), _, ?_, a + 1, _, rfl, ?_, ?_, ?_, ho34, ⟨?_, trivial⟩⟩
       · omega
       · omega
       · simp only [List.length_set]; exact p1
       · intro k hk; first | (rw [List.set_set]; exact part_next (g := g.dat) (by rw [hz0, hlo2]; show _ = y.toNat * g.W.toNat + x.toNat + a; omega) (by rw [hz0]; omega) (by rw [shiftF_at (g := g.dat) hx.1 hy.1 (by show x + (a : Int) < g.W; omega), if_pos hin, gat_cut (by omega), hlo2]; rfl) (p2 k hk)) | exact part_next (g := g.dat) (by rw [hz0, hlo2]; show _ = y.toNat * g.W.toNat + x.toNat + a; omega) (by rw [hz0]; omega) (by rw [shiftF_at (g := g.dat) hx.1 hy.1 (by show x + (a : Int) < g.W; omega), if_neg hout]) (p2 k hk)
       · (refine congrArg some (congrArg (Value.int _) ?_); omega)
    ·refine WC.exit ?_
     refine hK22 _ _ ?_
     refine WC.sr ?_
     refine WL.r 1 hs27 [0] rfl ?_
     refine WL.st tbk hs27 1 rfl rfl (fun _ hs45 => ?_)
     refine WL.nil ?_
     refine WC.ret ?_
     refine retV1 rfl (resV.cellA tbk hs45 1 rfl rfl rfl rfl) ?_
     refine ⟨⟨r14.W, r14.H, SlD.of ho26⟩, _, rfl, (St.keep1 (hs45.fr L25)), ?_, ?_⟩
     · exact ho26
     · exact shift_done (g := g.dat) (m := n) hx hy.1 (by show (a : Int) = g.W - x; omega) hrW hrH p1 (.inl rfl) p2
end Go.Proofs.YtjmegoiclgancaaGreat
