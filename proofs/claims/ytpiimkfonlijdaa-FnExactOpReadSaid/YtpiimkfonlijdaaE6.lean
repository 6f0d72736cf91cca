/-
  The engine, part 6: a slice that is ours and grows; cuts; bytes and strings.
-/
import Derived.Test.YtpiimkfonlijdaaE5
import Derived.Deep.AppendSrc
namespace Go.Proofs.Ytpiimkfonlijdaa
open Go Go.RowKit
set_option linter.unusedVariables false
set_option linter.unusedSimpArgs false

/-- The slice v of n elements of sz cells (type e) is ours: its cells are vs, its block is all that L holds. -/
def Own (e : TypeId) (sz : Nat) (v : Value) (n : Nat) (vs : List Value) (L : Hp) : Prop :=
  vs.length = n * sz ∧ (((∃ A, v = .slice A 0 0) ∧ n = 0 ∧ L = []) ∨
    ∃ (g cap : Nat) (cl : List Value) (fz : Nat × Nat), v = .slice (some ⟨g, 0, none⟩) n cap ∧ L = [(g, .cells cl.toArray e fz)] ∧ n ≤ cap ∧ cap ≤ maxLen ∧ cl.length = cap * sz ∧ cl.take (n * sz) = vs ∧ (fz.2 ≤ fz.1 ∨ cl.length ≤ fz.1))
section
variable {e : TypeId} {sz n : Nat} {v : Value} {vs : List Value} {L : Hp} {w : World}
theorem Own.nil (e : TypeId) (sz : Nat) : Own e sz (.slice none 0 0) 0 [] [] := ⟨by simp, .inl ⟨⟨none, rfl⟩, rfl, rfl⟩⟩
theorem Own.nilA (e : TypeId) (sz : Nat) (A : Option Addr) : Own e sz (.slice A 0 0) 0 [] [] := ⟨by simp, .inl ⟨⟨A, rfl⟩, rfl, rfl⟩⟩
theorem Own.rd (h : Own e sz v n vs L) (ho : ∀ p, p ∈ L → w.heap[p.1]? = some p.2) : ∃ A c, v = .slice A n c ∧ SlR w A n sz vs := by
  rcases h.2 with ⟨⟨A, rfl⟩, rfl, rfl⟩ | ⟨g, cap, cl, fz, rfl, rfl, hn, hc, hl, ht, hfz⟩
  · have : vs = [] := List.eq_nil_of_length_eq_zero (by simpa using h.1)
    subst this
    exact ⟨A, 0, rfl, SlR.nil _ _ _⟩
  · exact ⟨_, cap, rfl, SlR.block (off := 0) (ho _ List.mem_cons_self) (by simpa using ht) h.1⟩
theorem Own.keys (h : Own e sz v n vs L) : (L.map (·.1)).Nodup := by
  rcases h.2 with ⟨⟨A, rfl⟩, rfl, rfl⟩ | ⟨g, cap, cl, fz, rfl, rfl, _⟩ <;> simp
/-- A row that is full. -/
theorem Own.row {g : Nat} {cl : List Value} (hl : cl.length = n * sz) (hn : n ≤ maxLen) : Own e sz (.slice (some ⟨g, 0, none⟩) n n) n cl [(g, .cells cl.toArray e (0, 0))] :=
  ⟨hl, .inr ⟨g, n, cl, (0, 0), rfl, rfl, Nat.le_refl _, hn, hl, by rw [List.take_of_length_le (by omega)], .inl (Nat.le_refl _)⟩⟩
end
section
variable {P : Program} {w0 w : World} {T : List Nat} {L : Hp}
theorem St.stored (hst : St w0 T L w) (i : Nat) {b off : Nat} {cl vs : List Value} {e : TypeId} {lo hi : Nat} (hi' : nthL L i = some (b, .cells cl.toArray e (lo, hi))) (h1 : ∀ v, v ∈ vs → v.oneCell' = true) (hlt : off + vs.length ≤ cl.length) (hfz : hi ≤ lo ∨ hi ≤ off ∨ off + vs.length ≤ lo) :
    ∃ w', (storeCells ⟨b, off, none⟩ vs).run P w = .ok () w' ∧ St w0 T (setL L i (.cells (cl.take off ++ vs ++ cl.drop (off + vs.length)).toArray e (lo, hi))) w' := by
  have hown := hst.own _ (nthL_mem hi')
  obtain ⟨w', hr, g1, g2, g3, g4, g5, g6⟩ := storeCells_ours (P := P) vs 0 w b off cl e (lo, hi) hown.1 h1 (by omega) (fun j => by
    by_cases hj : lo ≤ j ∧ j < hi
    · exact .inr (by omega)
    · exact .inl hj)
  refine ⟨w', hr, g3.trans hst.os, g4.trans hst.tape, g5.trans hst.output, by rw [g6]; exact hst.size, fun k hk hT => ?_, fun p hp => ?_, by rw [setL_keys]; exact hst.nodup⟩
  · refine (g2 k ?_).trans (hst.keep k hk hT)
    rintro rfl
    rcases hown.2 with h | h
    · simp only at h; omega
    · exact hT h
  · rcases setL_mem hi' hst.nodup hp with rfl | ⟨hm, hne⟩
    · exact ⟨by simpa using g1, hown.2⟩
    · exact ⟨(g2 _ hne).trans (hst.own p hm).1, (hst.own p hm).2⟩
theorem run_append_ours {t tx ty e : TypeId} {i : TypeInfo} {z : Value} {zl : List Value} {sz n m : Nat} {v x : Value} {vs news : List Value} {L1 R : Hp} (ht : P.underlying t = some (.slice e)) (hi : P.info? e = some i) (hz : i.zero = some z) (hzl : cellsOf z = zl) (hs1 : i.size = sz) (hs2 : zl.length = sz)
    (hst : St w0 T (L1 ++ R) w) (hown : Own e sz v n vs L1) (hs : Src P sz tx x m news w) (hbytes : (n + m) * i.bytes ≤ 140737488355328) (h63 : n + m ≤ maxLen) :
    ∃ v' L1' w', (Builtin.append_ #[t, tx] ty #[v, x]).run P w = .ok v' w' ∧ St w0 T (L1' ++ R) w' ∧ Own e sz v' (n + m) (vs ++ news) L1' := by
  subst hs1
  have hzc : z.cells.size = i.size := by rw [cellsOf_eq, hzl]; simpa using hs2
  have hlen : (vs ++ news).length = (n + m) * i.size := by rw [List.length_append, hown.1, hs.newsLen, Nat.add_mul]
  have h63' : ((n + m : Nat) : Int) ≤ 9223372036854775807 := by simp only [maxLen] at h63; omega
  -- a new row
  have grow : ∀ (base : Option Addr) (cap : Nat), v = .slice base n cap → cap < n + m → (Builtin.firstCells i.size n (.slice base n cap)).run P w.drew = .ok vs.toArray w.drew →
      ∃ v' L1' w', (Builtin.append_ #[t, tx] ty #[v, x]).run P w = .ok v' w' ∧ St w0 T (L1' ++ R) w' ∧ Own e i.size v' (n + m) (vs ++ news) L1' := by
    intro base cap hv hcap hold
    subst hv
    have hr := run_append_grow_src (P := P) w t tx ty e i z ht hi hz base n cap vs hold x m news hs hcap h63' (growslice_fits hcap hbytes)
    have hge := grownCap_ge w (n + m) cap e
    have hcm : grownCap w (n + m) cap e ≤ maxLen := grownCap_le_maxLen w (n + m) cap e h63
    have ec : ((vs ++ news).toArray ++ Builtin.zeroCells z.cells (grownCap w (n + m) cap e - (n + m))) = ((vs ++ news) ++ (Builtin.zeroCells z.cells (grownCap w (n + m) cap e - (n + m))).toList).toArray := by apply Array.toList_inj.1; simp
    rw [ec] at hr
    refine ⟨_, [(w.heap.size, .cells ((vs ++ news) ++ (Builtin.zeroCells z.cells (grownCap w (n + m) cap e - (n + m))).toList).toArray e (0, 0))], _, hr, ?_, hlen, .inr ⟨w.heap.size, _, _, (0, 0), rfl, rfl, hge, hcm, ?_, ?_, .inl (Nat.le_refl _)⟩⟩
    · have h1 := (hst.drew.alloc (.cells ((vs ++ news) ++ (Builtin.zeroCells z.cells (grownCap w (n + m) cap e - (n + m))).toList).toArray e (0, 0)))
      refine (h1.drop (L' := (w.heap.size, _) :: R) ?_)
      exact List.Sublist.cons_cons _ (List.sublist_append_right L1 R)
    · rw [List.length_append, hlen, Array.length_toList, size_zeroCells, hzc, ← Nat.add_mul]
      congr 1
      omega
    · rw [← hlen]; exact List.take_left
  rcases hown.2 with ⟨⟨A, rfl⟩, rfl, rfl⟩ | ⟨g, cap, cl, fz, rfl, rfl, hn, hc, hl, htk, hfz⟩
  · have hvs : vs = [] := List.eq_nil_of_length_eq_zero (by simpa using hown.1)
    subst hvs
    by_cases hm : m = 0
    · subst hm
      have hnews : news = [] := List.eq_nil_of_length_eq_zero (by simpa using hs.newsLen)
      subst hnews
      refine ⟨.slice A 0 0, [], w, ?_, hst, by simpa using Own.nilA e i.size A⟩
      have hst0 : ∀ a, (storeCells a []).run P w = .ok () w := fun a => by simp [storeCells]
      cases A <;> rcases hs.kind with ⟨e', hk⟩ | hk <;> simp [Builtin.append_, run_underlying ht, run_underlying hk, sizeOf, typeInfo, hi, hs.len, hs.cells, hst0]
    · refine grow A 0 rfl (by omega) ?_
      cases A <;> simp [Builtin.firstCells, loadCells, loadCellsFrom]
  · by_cases hroom : n + m ≤ cap
    · have hfit : n * i.size + news.length ≤ cl.length := by rw [hs.newsLen, hl, ← Nat.add_mul]; exact Nat.mul_le_mul_right _ hroom
      obtain ⟨w', hr, hs'⟩ := hst.stored (P := P) 0 (off := n * i.size) (vs := news) rfl hs.one hfit (by rcases hfz with h | h <;> omega)
      refine ⟨.slice (some ⟨g, 0, none⟩) (n + m) cap, [(g, .cells (cl.take (n * i.size) ++ news ++ cl.drop (n * i.size + news.length)).toArray e fz)], w', ?_, hs', hlen, .inr ⟨g, cap, _, fz, rfl, rfl, hroom, hc, ?_, ?_, ?_⟩⟩
      · have ea : (⟨g, 0, none⟩ : Addr).add (n * i.size) = ⟨g, n * i.size, none⟩ := by unfold Addr.add; split <;> simp_all
        rcases hs.kind with ⟨e', hk⟩ | hk <;> simp [Builtin.append_, run_underlying ht, run_underlying hk, sizeOf, typeInfo, hi, hs.len, hroom, hs.cells, ea, hr]
      · simp only [List.length_append, List.length_take, List.length_drop]
        omega
      · rw [htk, ← hlen]; exact List.take_left
      · rcases hfz with h | h
        · exact .inl h
        · refine .inr ?_
          simp only [List.length_append, List.length_take, List.length_drop]; omega
    · refine grow _ cap rfl (by omega) ?_
      have hrd := (SlR.block (w := w.drew) (off := 0) (b := g) (cl := cl) (e := e) (fz := fz) (n := n) (sz := i.size) (vs := vs) (hst.own _ List.mem_cons_self).1 (by simpa using htk) hown.1)
      have := hrd.lds (P := P) (j := 0) (m := n * i.size) (us := vs) (by simp [← hown.1]) hown.1
      simpa [Builtin.firstCells, adr, Addr.add] using this
/-- What is appended. -/
theorem SlR.src {A : Option Addr} {m c sz : Nat} {news : List Value} {tx e' : TypeId} (h : SlR w A m sz news) (hk : P.underlying tx = some (.slice e')) (h1 : ∀ u, u ∈ news → u.oneCell' = true) : Src P sz tx (.slice A m c) m news w := by
  have hlds : ∀ w' : World, (∀ j u, news[j]? = some u → w'.cell? ((adr A).add j) = some u) → (Builtin.firstCells sz m (.slice A m c)).run P w' = .ok news.toArray w' := by
    intro w' hc
    cases A with
    | none =>
      have : m = 0 := by
        rcases Nat.eq_zero_or_pos m with h0 | h0
        · exact h0
        · have := h.some_ h0; simp at this
      subst this
      have : news = [] := List.eq_nil_of_length_eq_zero (by simpa using h.len)
      subst this
      simp [Builtin.firstCells]
    | some a =>
      have h2 : SlR w' (some a) m sz news := ⟨h.len, h.some_, hc⟩
      have := h2.lds (P := P) (j := 0) (m := m * sz) (us := news) (by simp [← h.len]) h.len
      simpa [Builtin.firstCells, adr, Addr.add] using this
  exact ⟨.inl ⟨e', hk⟩, fun _ => rfl, hlds w h.cell, hlds w.drew h.cell, h.len, h1⟩
theorem oneCell_bytes (l : List UInt8) : ∀ u, u ∈ bytesV l → u.oneCell' = true := rows_one
theorem oneCell_ints (l : List Int) : ∀ u, u ∈ intsV l → u.oneCell' = true := rows_one
end
section
variable {P : Program} {n : Nat} {ol rest : List Oper} {o : Oper} {K : Fr → World → Prop} {f : Fr} {w0 w w' : World} {T : List Nat} {L : Hp} {d : Nat} {v : Value}
theorem WL.append {L1 R : Hp} (hst : St w0 T (L1 ++ R) w) {t tx e : TypeId} {i : TypeInfo} {z x : Value} {zl vs news : List Value} {sz k m : Nat} {s y : Operand} (hown : Own e sz v k vs L1) (hs : Src P sz tx x m news w) (ht : P.underlying t = some (.slice e)) (hi : P.info? e = some i) (hz : i.zero = some z) (hzl : cellsOf z = zl) (hs1 : i.size = sz) (hs2 : zl.length = sz)
    (ho : o.op = .call { callee := .builtin .append, args := #[s, y], argTypes := #[t, tx] }) (hw : want ol o f = some true) (hd : o.dst = some d) (hn : Nat.blt d n = true) (hx : ev f s = some v) (hy : ev f y = some x) (hb : (k + m) * i.bytes ≤ 140737488355328) (hm : k + m ≤ 9223372036854775807)
    (kk : ∀ v' L1' w', St w0 T (L1' ++ R) w' → Own e sz v' (k + m) (vs ++ news) L1' → WL P n ol rest K ((d, v') :: f) w') : WL P n ol (o :: rest) K f w := by
  obtain ⟨v', L1', w', hr, h1, h2⟩ := run_append_ours (P := P) (ty := o.type) ht hi hz hzl hs1 hs2 hst hown hs hb (by simpa [maxLen] using hm)
  refine WL.val (w' := w') hw hd hn (fun ρ hρ => ?_) (kk _ _ _ h1 h2)
  simp [execOp, ho, hρ _ _ hx, hρ _ _ hy, resolve, invoke, builtin, hr]
end
theorem St.front {w0 w : World} {T : List Nat} {L1 R : Hp} (A : Hp) (h : St w0 T (A ++ (L1 ++ R)) w) : St w0 T (L1 ++ (A ++ R)) w :=
  h.perm (by rw [← List.append_assoc, ← List.append_assoc]; exact List.perm_append_comm.append_right R)
theorem St.lent (w : World) (L : Hp) (ho : ∀ p, p ∈ L → w.heap[p.1]? = some p.2) (hn : (L.map (·.1)).Nodup) : St w (L.map (·.1)) (L ++ []) w := by
  rw [List.append_nil]; exact St.take w L ho hn
/-- A slice that is ours. -/
def OwnF {α : Type} (F : Enc α) (e : TypeId) (v : Value) (xs : List α) (L : Hp) : Prop := Own e F.sz v xs.length (rows F xs) L
abbrev OwnB := OwnF encB
abbrev OwnI := OwnF encI
section
variable {α : Type} {F : Enc α} {e : TypeId} {v : Value} {xs : List α} {L : Hp} {w : World}
theorem OwnF.keys (h : OwnF F e v xs L) : (L.map (·.1)).Nodup := Own.keys h
theorem OwnF.nil (F : Enc α) (e : TypeId) : OwnF F e (.slice none 0 0) [] [] := Own.nil e F.sz
theorem OwnF.rd (h : OwnF F e v xs L) (ho : ∀ p, p ∈ L → w.heap[p.1]? = some p.2) : ∃ A c, v = .slice A xs.length c ∧ SlF F w A xs.length xs := by
  obtain ⟨A, c, hv, hr⟩ := Own.rd h ho
  exact ⟨A, c, hv, rfl, hr⟩
/-- A row that is full. -/
theorem OwnF.row {g n : Nat} (hl : xs.length = n) (hn : n ≤ maxLen) : OwnF F e (.slice (some ⟨g, 0, none⟩) n n) xs [(g, .cells (rows F xs).toArray e (0, 0))] := by
  subst hl; exact Own.row (rows_len xs) hn
end
theorem bytesV_append (a b : List UInt8) : bytesV (a ++ b) = bytesV a ++ bytesV b := rows_append a b
theorem intsV_append (a b : List Int) : intsV (a ++ b) = intsV a ++ intsV b := rows_append a b
theorem OwnB.keys {e : TypeId} {v : Value} {xs : List UInt8} {L : Hp} (h : OwnB e v xs L) : (L.map (·.1)).Nodup := Own.keys h
theorem OwnB.nil (e : TypeId) : OwnB e (.slice none 0 0) [] [] := Own.nil e 1
theorem OwnB.rd {e : TypeId} {v : Value} {xs : List UInt8} {L : Hp} {w : World} (h : OwnB e v xs L) (ho : ∀ p, p ∈ L → w.heap[p.1]? = some p.2) : ∃ A c, v = .slice A xs.length c ∧ SlB w A xs.length xs := OwnF.rd h ho
/-- The byte that a number becomes. -/
def ub (n : Int) : UInt8 := UInt8.ofNat (n % 256).toNat
theorem ub_toNat (n : Int) : ((ub n).toNat : Int) = n % 256 := by
  unfold ub
  rw [UInt8.toNat_ofNat']
  have := Int.emod_nonneg n (show (256 : Int) ≠ 0 by omega)
  have := Int.emod_lt_of_pos n (show (0 : Int) < 256 by omega)
  omega
theorem wrap_u8 (n : Int) : IntKind.u8.wrap n = ((ub n).toNat : Int) := by
  rw [ub_toNat]
  simp [IntKind.wrap, IntKind.bits, IntKind.signed]
theorem Run.convU8 {P : Program} {o : Oper} {f : Fr} {w : World} {s d : TypeId} {x : Operand} {k' : IntKind} {a : Int} (hs : ∀ w, (underlying s).run P w = .ok (.int k') w) (hd : ∀ w, (underlying d).run P w = .ok (.int .u8) w) (ho : o.op = .convert s d x) (hx : ev f x = some (.int k' a)) : Run P o f w (.value (.int .u8 ((ub a).toNat))) w := by
  have := Run.conv (P := P) (w := w) hs hd ho hx
  rwa [wrap_u8] at this
theorem Run.convB {P : Program} {o : Oper} {f : Fr} {w : World} {s d : TypeId} {x : Operand} {b : UInt8} (hs : ∀ w, (underlying s).run P w = .ok (.int .u8) w) (hd : ∀ w, (underlying d).run P w = .ok (.int .i64) w) (ho : o.op = .convert s d x) (hx : ev f x = some (.int .u8 b.toNat)) : Run P o f w (.value (.int .i64 (b.toNat))) w := by
  have := Run.conv (P := P) (w := w) hs hd ho hx
  rwa [wrap_in (by have := b.toNat_lt; constructor <;> omega)] at this
theorem srcB1 {P : Program} {w : World} {b : Nat} {c : UInt8} {e tx e' : TypeId} {fz : Nat × Nat} (hk : P.underlying tx = some (.slice e')) (h : w.heap[b]? = some (.cells ([Value.int .u8 c.toNat].flatMap cellsOf).toArray e fz)) : Src P 1 tx (.slice (some ⟨b, 0, none⟩) 1 1) [c].length (bytesV [c]) w :=
  (SlR.block (off := 0) (n := 1) (sz := 1) (vs := bytesV [c]) h rfl rfl).src hk (oneCell_bytes _)
theorem SlB.src {P : Program} {w : World} {A : Option Addr} {m c : Nat} {ys : List UInt8} {tx e' : TypeId} (h : SlB w A m ys) (hk : P.underlying tx = some (.slice e')) : Src P 1 tx (.slice A m c) ys.length (bytesV ys) w := by
  have := h.rd.src (c := c) hk (oneCell_bytes _)
  rwa [h.len]
theorem SlF.src {α : Type} {F : Enc α} {P : Program} {w : World} {A : Option Addr} {m c : Nat} {ys : List α} {tx e' : TypeId} (h : SlF F w A m ys) (hk : P.underlying tx = some (.slice e')) : Src P F.sz tx (.slice A m c) ys.length (rows F ys) w := by
  have := h.rd.src (c := c) hk rows_one
  rwa [h.len]
/-- Elements that are written out, laid into a block of their own. -/
theorem srcF {α : Type} {F : Enc α} {P : Program} {w : World} {b m : Nat} {ys : List α} {vs : List Value} {e tx e' : TypeId} {fz : Nat × Nat} (hk : P.underlying tx = some (.slice e')) (hl : ys.length = m) (hv : vs.flatMap cellsOf = rows F ys) (h : w.heap[b]? = some (.cells (vs.flatMap cellsOf).toArray e fz)) : Src P F.sz tx (.slice (some ⟨b, 0, none⟩) m m) ys.length (rows F ys) w := by
  rw [hv] at h
  exact (SlF.ownN hl h).src hk
theorem srcStr {P : Program} {w : World} {tx : TypeId} (hk : P.underlying tx = some .string) (s : ByteArray) : Src P 1 tx (.string s) s.data.toList.length (bytesV s.data.toList) w := by
  have h := Src.ofString (P := P) w hk s
  have e : s.data.toList.length = s.size := by simp
  rw [e, bytesV_map]; exact h
section
variable {P : Program} {n : Nat} {ol rest : List Oper} {o : Oper} {K : Fr → World → Prop} {f : Fr} {w0 w w' : World} {T : List Nat} {L : Hp} {d : Nat} {v : Value}
theorem WL.appendF {α : Type} {F : Enc α} {L1 R : Hp} {xs ys : List α} {t tx e : TypeId} {i : TypeInfo} {z x : Value} {zl : List Value} {s y : Operand} (hst : St w0 T (L1 ++ R) w) (hown : OwnF F e v xs L1) (hs : Src P F.sz tx x ys.length (rows F ys) w) (ht : P.underlying t = some (.slice e)) (hi : P.info? e = some i) (hz : i.zero = some z) (hzl : cellsOf z = zl) (hs1 : i.size = F.sz) (hs3 : Nat.beq zl.length F.sz = true) (hs2 : Nat.ble i.bytes 128 = true)
    (ho : o.op = .call { callee := .builtin .append, args := #[s, y], argTypes := #[t, tx] }) (hw : want ol o f = some true) (hd : o.dst = some d) (hn : Nat.blt d n = true) (hx : ev f s = some v) (hy : ev f y = some x) (hb : xs.length + ys.length ≤ 1099511627776)
    (kk : ∀ v' L1' w', St w0 T (L1' ++ R) w' → OwnF F e v' (xs ++ ys) L1' → WL P n ol rest K ((d, v') :: f) w') : WL P n ol (o :: rest) K f w := by
  have hs2' := Nat.le_of_ble_eq_true hs2
  have hbb : (xs.length + ys.length) * i.bytes ≤ 1099511627776 * 128 := Nat.mul_le_mul hb hs2'
  exact WL.append hst hown hs ht hi hz hzl hs1 (Nat.eq_of_beq_eq_true hs3) ho hw hd hn hx hy (by omega) (by omega) fun v' L1' w' h1 h2 => kk v' L1' w' h1 (by unfold OwnF; rw [List.length_append, rows_append]; exact h2)
theorem WL.appendB {L1 R : Hp} {xs ys : List UInt8} {t tx e : TypeId} {i : TypeInfo} {x : Value} {s y : Operand} (hst : St w0 T (L1 ++ R) w) (hown : OwnB e v xs L1) (hs : Src P 1 tx x ys.length (bytesV ys) w) (ht : P.underlying t = some (.slice e)) (hi : P.info? e = some i) (hz : i.zero = some (.int .u8 0)) (hs1 : i.size = 1) (hs2 : i.bytes = 1)
    (ho : o.op = .call { callee := .builtin .append, args := #[s, y], argTypes := #[t, tx] }) (hw : want ol o f = some true) (hd : o.dst = some d) (hn : Nat.blt d n = true) (hx : ev f s = some v) (hy : ev f y = some x) (hb : xs.length + ys.length ≤ 1099511627776)
    (kk : ∀ v' L1' w', St w0 T (L1' ++ R) w' → OwnB e v' (xs ++ ys) L1' → WL P n ol rest K ((d, v') :: f) w') : WL P n ol (o :: rest) K f w :=
  WL.append hst hown hs ht hi hz rfl hs1 rfl ho hw hd hn hx hy (by rw [hs2]; omega) (by omega) fun v' L1' w' h1 h2 => kk v' L1' w' h1 (by unfold OwnB OwnF; rw [List.length_append, rows_append]; exact h2)
end
end Go.Proofs.Ytpiimkfonlijdaa
