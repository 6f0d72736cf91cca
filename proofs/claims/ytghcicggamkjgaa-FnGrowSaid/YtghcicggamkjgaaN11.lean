/-
  Plain laws: a border moved, as both programs do it.
-/
import Derived.Test.YtghcicggamkjgaaN10
namespace Go.Proofs.Ytghcicggamkjgaa
open Go Go.RowKit
set_option linter.unusedVariables false
set_option linter.unusedSimpArgs false

def lastD (d : Int → Bool) (l : List Int) : Int := l.foldl (fun s x => if d x = true then x else s) (-1)
theorem lastD_take {d : Int → Bool} {l : List Int} {i : Nat} (h : i < l.length) : lastD d (l.take (i + 1)) = if d (iat l i) = true then iat l i else lastD d (l.take i) := by
  unfold lastD
  rw [List.take_add_one, gat_get (F := encI) h, List.foldl_append]
  rfl
theorem lastD_over {p : Nat → Bool} {d : Int → Bool} : ∀ {k : Nat}, lastD d (overL p k) = lastI (fun i => p i && d (i : Int)) k
  | 0 => rfl
  | k + 1 => by
    have ih := lastD_over (p := p) (d := d) (k := k)
    rw [overL_succ, lastI]
    unfold lastD at *
    rw [List.foldl_append, ih]
    cases hp : p k <;> cases hd : d (k : Int) <;> simp [hd]
def downD (t : List NodeD) (down : Bool) (x : Int) : Bool := decide ((gat encNode t x.toNat).Down = down)
theorem growUp_fold {t : List NodeD} {down : Bool} {k : Nat} : lastD (downD t down) (overL (isOver t k) k) = growUp t down k := by
  rw [lastD_over, growUp]
  refine lastI_congr fun i _ => ?_
  simp [overD, downD]
theorem overL_mem {p : Nat → Bool} {k i : Nat} (h : i < (overL p k).length) : ∃ j : Nat, iat (overL p k) i = (j : Int) ∧ j < k ∧ p j = true := by
  have hm := gat_mem (F := encI) h
  unfold overL at hm
  obtain ⟨j, hj, e⟩ := List.mem_map.1 hm
  rw [List.mem_filter, List.mem_range] at hj
  exact ⟨j, e.symm, hj.1, hj.2⟩
theorem growUp_some {t : List NodeD} {down : Bool} {k : Nat} (h : 0 ≤ growUp t down k) : ∃ u : Nat, growUp t down k = (u : Int) ∧ u < k ∧ isSplit t u = true ∧ (gat encNode t u).Down = down := by
  unfold growUp at h ⊢
  rcases lastI_cases (overD t down k) k with ⟨e, _⟩ | ⟨u, e, hu, hp, _⟩
  · rw [e] at h; omega
  · simp only [overD, isOver, Bool.and_eq_true, decide_eq_true_eq] at hp
    exact ⟨u, e, hu, hp.1.1, hp.2⟩
theorem growUp_lt (t : List NodeD) (down : Bool) (k : Nat) : -1 ≤ growUp t down k ∧ growUp t down k < k ∨ growUp t down k = -1 := by
  unfold growUp
  rcases lastI_cases (overD t down k) k with ⟨e, _⟩ | ⟨u, e, hu, _, _⟩ <;> omega
def growBy (t : List NodeD) (k u : Nat) (by_ : Int) : Int := if endI t ((u : Int) + 1) ≤ k then -by_ else by_
def growFirst (t : List NodeD) (k u : Nat) (by_ n : Int) : Int := max 1 (min (min (gat encNode t u).First (n - 2) + growBy t k u by_) (n - 2))
def growOut (t : List NodeD) (k u : Nat) (by_ w h : Int) : List NodeD :=
  t.set u { gat encNode t u with First := growFirst t k u by_ (sideR (gat encNode t u).Down (gat encRect (areasL t w h) u)) }
def growOk (t : List NodeD) (p : Int) (down : Bool) (by_ w h : Int) : Bool :=
  placesOk t w h && decide (0 ≤ atL t p) && within by_ (-120) 120 && decide (0 ≤ growUp t down (atL t p).toNat) && placesOk (growOut t (atL t p).toNat (growUp t down (atL t p).toNat).toNat by_ w h) w h
def growL (t : List NodeD) (p : Int) (down : Bool) (by_ w h : Int) : List NodeD :=
  if growOk t p down by_ w h = true then growOut t (atL t p).toNat (growUp t down (atL t p).toNat).toNat by_ w h else []
theorem growL_len (t : List NodeD) (p : Int) (down : Bool) (by_ w h : Int) : (growL t p down by_ w h).length ≤ 31 := by
  unfold growL
  split
  · rename_i hk
    simp only [growOk, placesOk, sidesOk, Bool.and_eq_true] at hk
    have := treeOk_len hk.1.1.1.1.1.1.1
    simp [growOut]; omega
  · simp
theorem areas_bound {t : List NodeD} {w h : Int} {k : Nat} (hp : placesOk t w h = true) (hk : k < t.length) : 0 ≤ (gat encRect (areasL t w h) k).W ∧ (gat encRect (areasL t w h) k).W ≤ 120 ∧ 0 ≤ (gat encRect (areasL t w h) k).H ∧ (gat encRect (areasL t w h) k).H ≤ 120 := by
  have hp' := hp
  simp only [placesOk, Bool.and_eq_true] at hp'
  have hso := hp'.1
  simp only [sidesOk, Bool.and_eq_true, within_iff] at hso
  have hto := hso.1.1
  obtain ⟨_, hfl, hsh⟩ := theT_at hto
  obtain ⟨S, R, A, B, rest, g1, g2, g3, g4, g5, g6, g7, g8, g9, g10, g11⟩ := put_sub hsh (firsts_of hto) (r := ⟨0, 0, 0, w, h⟩) hso.1.2.1 hso.2.1 hp'.2 k (by rw [hfl]; exact hk)
  have ear : areasL t w h = (putL (theT t) ⟨0, 0, 0, w, h⟩).1 := by rw [areasL, if_pos hp'.1]
  have epl : placesL t w h = A ++ (placeS S R).1 ++ B := by rw [placesL, if_pos hp, g9]
  obtain ⟨⟨q1, m1, e1⟩, ⟨q2, m2, e2⟩, ⟨q3, m3, e3⟩, ⟨q4, m4, e4⟩⟩ := place_edges g2 g3 g4 g5 g6
  have inn : ∀ q, q ∈ (placeS S R).1 → q ∈ placesL t w h := fun q hq => by rw [epl]; exact List.mem_append_left _ (List.mem_append_right _ hq)
  have b1 := placesL_within q1 (inn q1 m1)
  have b2 := placesL_within q2 (inn q2 m2)
  have b3 := placesL_within q3 (inn q3 m3)
  have b4 := placesL_within q4 (inn q4 m4)
  have c1 := b1.1.x0; have c2 := b2.1.x1; have c3 := b3.1.y0; have c4 := b4.1.y1
  simp only at c1 c2 c3 c4
  rw [ear, g7, g8]
  omega
theorem node_first {t : List NodeD} {k : Nat} (h : treeOk t = true) (hk : k < t.length) : 0 ≤ (gat encNode t k).First ∧ (gat encNode t k).First ≤ 120 := by
  have := nodeOk_pane (treeOk_node h hk)
  omega
end Go.Proofs.Ytghcicggamkjgaa
