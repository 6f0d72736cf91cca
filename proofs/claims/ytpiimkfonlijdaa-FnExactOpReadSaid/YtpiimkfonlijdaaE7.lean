/-
  The engine, part 7: slices that are ours, by their data: new, stored into, appended to, lent.
-/
import Derived.Test.YtpiimkfonlijdaaE6
import Derived.Laws.IdiomStrings
namespace Go.Proofs.Ytpiimkfonlijdaa
open Go Go.RowKit
set_option linter.unusedVariables false
set_option linter.unusedSimpArgs false

/-! moving owned blocks about -/
theorem perm_front {L1 A R X : Hp} (h : (L1 ++ R).Perm X) : (L1 ++ (A ++ R)).Perm (A ++ X) :=
  (List.perm_append_comm_assoc L1 A R).trans (h.append_left A)
theorem perm_back {L1 A R : Hp} : (A ++ (L1 ++ R)).Perm (L1 ++ (A ++ R)) := List.perm_append_comm_assoc A L1 R
section
variable {w0 w w' : World} {T : List Nat} {L L1 L2 R A : Hp}
theorem St.back (A : Hp) (h : St w0 T (L1 ++ (A ++ R)) w) : St w0 T (A ++ (L1 ++ R)) w := h.perm perm_back
theorem St.back2 (A : Hp) (h : St w0 T (L1 ++ (L2 ++ (A ++ R))) w) : St w0 T (A ++ (L1 ++ (L2 ++ R))) w := by
  refine h.perm ?_
  have e : L1 ++ (L2 ++ (A ++ R)) = (L1 ++ L2) ++ (A ++ R) := by simp
  have e2 : A ++ (L1 ++ (L2 ++ R)) = A ++ ((L1 ++ L2) ++ R) := by simp
  rw [e, e2]; exact perm_back
theorem St.assoc (h : St w0 T ((L1 ++ L2) ++ R) w) : St w0 T (L1 ++ (L2 ++ R)) w := by rwa [List.append_assoc] at h
theorem St.keep1 (h : St w0 T (L1 ++ R) w) : St w0 T L1 w := h.drop (List.sublist_append_left _ _)
theorem St.keep2 (h : St w0 T (L1 ++ (L2 ++ R)) w) : St w0 T (L1 ++ L2) w := h.drop ((List.sublist_append_left L2 R).append_left L1)
theorem St.ownL (h : St w0 T (L1 ++ R) w) : ∀ p, p ∈ L1 → w.heap[p.1]? = some p.2 := fun p hp => (h.own p (List.mem_append_left _ hp)).1
end
section
variable {α : Type} {F : Enc α} {e : TypeId} {v : Value} {xs : List α} {L : Hp} {w : World} {A : Option Addr} {n c : Nat}
theorem OwnF.shape (h : OwnF F e v xs L) : ∃ A c, v = .slice A xs.length c := by
  rcases h.2 with ⟨⟨A, rfl⟩, h0, rfl⟩ | ⟨g, cap, cl, fz, rfl, _⟩
  · exact ⟨A, 0, by rw [h0]⟩
  · exact ⟨_, cap, rfl⟩
theorem SlF.ofOwn (h : OwnF F e (.slice A n c) xs L) (ho : ∀ p, p ∈ L → w.heap[p.1]? = some p.2) : SlF F w A n xs := by
  obtain ⟨A', c', hv, hr⟩ := OwnF.rd h ho
  cases hv
  exact hr
theorem OwnF.len_ (h : OwnF F e (.slice A n c) xs L) : xs.length = n := by
  obtain ⟨A', c', hv⟩ := h.shape
  cases hv; rfl
/-- What a store does to a slice of ours. -/
theorem OwnF.upd {i : Nat} (h : OwnF F e (.slice A n c) xs L) (hi : i < n) : ∃ (g : Nat) (cl : List Value) (lo hi : Nat), A = some ⟨g, 0, none⟩ ∧ L = [(g, .cells cl.toArray e (lo, hi))] ∧ (hi ≤ lo ∨ cl.length ≤ lo) ∧ (i + 1) * F.sz ≤ cl.length ∧ (cl.drop (i * F.sz)).take F.sz = F.enc (gat F xs i) ∧
    ∀ (cl' : List Value) (x' : α), cl' = cl.take (i * F.sz) ++ F.enc x' ++ cl.drop (i * F.sz + F.sz) → OwnF F e (.slice A n c) (xs.set i x') [(g, .cells cl'.toArray e (lo, hi))] := by
  have hl := h.len_
  rcases h.2 with ⟨hv, h0, rfl⟩ | ⟨g, cap, cl, ⟨lo, hi'⟩, hv, rfl, hn, hc, hcl, ht, hfz⟩
  · omega
  · cases hv
    have hlt : i < xs.length := by omega
    have h1 : (i + 1) * F.sz ≤ xs.length * F.sz := Nat.mul_le_mul_right _ hlt
    have h2 : xs.length * F.sz ≤ c * F.sz := Nat.mul_le_mul_right _ hn
    refine ⟨g, cl, lo, hi', rfl, rfl, hfz, by omega, ?_, ?_⟩
    · have e1 := rows_at (F := F) hlt
      rw [← ht, List.drop_take, List.take_take, Nat.min_eq_left (by rw [Nat.succ_mul] at h1; omega)] at e1
      exact e1
    · intro cl' x' hcl'
      have hlen' : cl'.length = cl.length := by
        rw [hcl']; simp only [List.length_append, List.length_take, List.length_drop, F.len]; rw [Nat.succ_mul] at h1; omega
      refine ⟨by rw [rows_len, List.length_set], .inr ⟨g, c, cl', (lo, hi'), by rw [List.length_set], rfl, by rw [List.length_set]; exact hn, hc, by rw [hlen', hcl], ?_, by rw [hlen']; exact hfz⟩⟩
      rw [List.length_set, hcl']
      have e2 : rows F (xs.set i x') = rows F (xs.take i) ++ F.enc x' ++ rows F (xs.drop (i + 1)) := by
        rw [List.set_eq_take_append_cons_drop, if_pos hlt, rows_append, rows_cons, List.append_assoc]
      rw [e2, ← rows_take, ← rows_drop, ← ht, List.take_take, Nat.min_eq_left (by rw [Nat.succ_mul] at h1; omega), List.drop_take]
      have e3 : (cl.take (i * F.sz) ++ F.enc x').length = i * F.sz + F.sz := by
        rw [List.length_append, List.length_take, F.len]; rw [Nat.succ_mul] at h1; omega
      rw [List.take_append, e3, List.take_of_length_le (by rw [e3]; rw [Nat.succ_mul] at h1; omega), Nat.succ_mul]
end
section
variable {P : Program} {n : Nat} {ol rest : List Oper} {o : Oper} {K : Fr → World → Prop} {f : Fr} {w0 w w' : World} {T : List Nat} {L : Hp} {d : Nat} {v : Value} {α : Type} {F : Enc α}
theorem cut_eq {cl vs : List Value} {B S off s : Nat} (h : off + s ≤ S) :
    cl.take (B + off) ++ vs ++ cl.drop (B + off + s) = cl.take B ++ (((cl.drop B).take S).take off ++ vs ++ ((cl.drop B).take S).drop (off + s)) ++ cl.drop (B + S) := by
  have e1 : cl.take (B + off) = cl.take B ++ ((cl.drop B).take S).take off := by rw [List.take_take, Nat.min_eq_left (by omega), List.take_add]
  have e2 : cl.drop (B + off + s) = ((cl.drop B).take S).drop (off + s) ++ cl.drop (B + S) := by
    rw [List.drop_take, List.drop_drop]
    have e3 : cl.drop (B + S) = (cl.drop (B + (off + s))).drop (S - (off + s)) := by rw [List.drop_drop]; congr 1; omega
    rw [e3, List.take_append_drop, Nat.add_assoc]
  rw [e1, e2]
  simp only [List.append_assoc]
/-- A store of an element, or of a part of one, into a slice of ours. -/
theorem WL.storeF {L1 R : Hp} {xs : List α} {x' : α} {A : Option Addr} {m c i off sz : Nat} {e : TypeId} {t : TypeId} {x y : Operand} {vs : List Value} (hst : St w0 T (L1 ++ R) w) (hown : OwnF F e (.slice A m c) xs L1) (hz : ∀ w, (sizeOf t).run P w = .ok sz w) (ho : o.op = .store t x y) (hw : want ol o f = some true) (hd : o.dst = none)
    (hx : ev f x = some (.pointer (some (((adr A).add (i * F.sz)).add off)))) (hy : ev f y = some v) (hvs : cellsOf v = vs) (h1 : vs.all (·.oneCell') = true) (hsz : Nat.beq vs.length sz = true) (hoff : Nat.ble (off + sz) F.sz = true) (hi : i < m)
    (hx' : F.enc x' = (F.enc (gat F xs i)).take off ++ vs ++ (F.enc (gat F xs i)).drop (off + sz))
    (k : ∀ L1' w', St w0 T (L1' ++ R) w' → OwnF F e (.slice A m c) (xs.set i x') L1' → L1'.map (·.1) = L1.map (·.1) → WL P n ol rest K f w') : WL P n ol (o :: rest) K f w := by
  have hsz' := Nat.eq_of_beq_eq_true hsz
  have hoff' := Nat.le_of_ble_eq_true hoff
  obtain ⟨g, cl, lo, hi', rfl, rfl, hfz, hlen, hat, hupd⟩ := hown.upd hi
  have ea : ((adr (some ⟨g, 0, none⟩)).add (i * F.sz)).add off = ⟨g, i * F.sz + off, none⟩ := by
    rw [Addr.add_add']; unfold adr Addr.add; split <;> simp_all
  rw [ea] at hx
  rw [Nat.succ_mul] at hlen
  refine WL.storeA hst 0 hz ho hw hd hx hy hvs rfl h1 hsz' (by omega) (by rcases hfz with h | h <;> omega) fun w' hw' => k [(g, .cells (cl.take (i * F.sz + off) ++ vs ++ cl.drop (i * F.sz + off + sz)).toArray e (lo, hi'))] w' hw' (hupd _ x' ?_) rfl
  rw [hx', ← hat]
  exact cut_eq hoff'
theorem WL.storeF1 {L1 R : Hp} {xs : List α} {x' : α} {A : Option Addr} {m c i sz : Nat} {e : TypeId} {t : TypeId} {x y : Operand} {vs : List Value} (hst : St w0 T (L1 ++ R) w) (hown : OwnF F e (.slice A m c) xs L1) (hz : ∀ w, (sizeOf t).run P w = .ok sz w) (ho : o.op = .store t x y) (hw : want ol o f = some true) (hd : o.dst = none)
    (hx : ev f x = some (.pointer (some ((adr A).add (i * F.sz))))) (hy : ev f y = some v) (hvs : cellsOf v = vs) (h1 : vs.all (·.oneCell') = true) (hsz : Nat.beq vs.length sz = true) (hoff : Nat.beq sz F.sz = true) (hi : i < m)
    (hx' : F.enc x' = vs)
    (k : ∀ L1' w', St w0 T (L1' ++ R) w' → OwnF F e (.slice A m c) (xs.set i x') L1' → L1'.map (·.1) = L1.map (·.1) → WL P n ol rest K f w') : WL P n ol (o :: rest) K f w := by
  have hsz' := Nat.eq_of_beq_eq_true hsz
  have hoff' := Nat.eq_of_beq_eq_true hoff
  refine WL.storeF (off := 0) hst hown hz ho hw hd (by rw [Addr.add_add', Nat.add_zero]; exact hx) hy hvs h1 hsz (Nat.ble_eq_true_of_le (by omega)) hi ?_ k
  rw [hx', List.take_zero, List.nil_append, List.drop_of_length_le (by rw [F.len]; omega), List.append_nil]
/-- A new slice of zero elements. -/
theorem WL.makeF (hst : St w0 T L w) {t e : TypeId} {i : TypeInfo} {z : Value} {x y : Operand} {m : Nat} (ht : P.underlying t = some (.slice e)) (hi : P.info? e = some i) (hz : i.zero = some z) (hzl : cellsOf z = F.enc F.dflt) (hsz : Nat.beq i.size F.sz = true)
    (ho : o.op = .makeSlice t x y) (hw : want ol o f = some true) (hd : o.dst = some d) (hn : Nat.blt d n = true) (hx : ev f x = some (.int .i64 m)) (hy : ev f y = some (.int .i64 m)) (hb : i.bytes * m ≤ 281474976710656) (hm : m ≤ 9223372036854775807)
    (k : ∀ A c L1 w', St w0 T (L1 ++ L) w' → OwnF F e (.slice A m c) (List.replicate m F.dflt) L1 → WL P n ol rest K ((d, .slice A m c) :: f) w') : WL P n ol (o :: rest) K f w := by
  have hsz' := Nat.eq_of_beq_eq_true hsz
  refine WL.make hst ht hi hz hzl (by rw [F.len, hsz']; exact Nat.beq_refl _) ho hw hd hn hx hy hb hm fun b w' h => ?_
  have e1 : (List.replicate m (F.enc F.dflt)).flatten = rows F (List.replicate m F.dflt) := by
    unfold rows; rw [List.flatMap_def, List.map_replicate]
  rw [e1] at h
  exact k _ _ [(b, .cells (rows F (List.replicate m F.dflt)).toArray e (0, 0))] w' h (OwnF.row (by simp) (by simpa [maxLen] using hm))
theorem WL.appendG {L1 R : Hp} {xs ys : List α} {t tx e : TypeId} {i : TypeInfo} {z x : Value} {s y : Operand} (hst : St w0 T (L1 ++ R) w) (hown : OwnF F e v xs L1) (hs : Src P F.sz tx x ys.length (rows F ys) w) (ht : P.underlying t = some (.slice e)) (hi : P.info? e = some i) (hz : i.zero = some z) (hs1 : Nat.beq i.size F.sz = true) (hs3 : Nat.beq (cellsOf z).length F.sz = true) (hs2 : Nat.ble i.bytes 512 = true)
    (ho : o.op = .call { callee := .builtin .append, args := #[s, y], argTypes := #[t, tx] }) (hw : want ol o f = some true) (hd : o.dst = some d) (hn : Nat.blt d n = true) (hx : ev f s = some v) (hy : ev f y = some x) (hb : xs.length + ys.length ≤ 274877906944)
    (kk : ∀ A' c' L1' w', St w0 T (L1' ++ R) w' → OwnF F e (.slice A' (xs ++ ys).length c') (xs ++ ys) L1' → WL P n ol rest K ((d, .slice A' (xs ++ ys).length c') :: f) w') : WL P n ol (o :: rest) K f w := by
  have hs2' := Nat.le_of_ble_eq_true hs2
  have hbb : (xs.length + ys.length) * i.bytes ≤ 274877906944 * 512 := Nat.mul_le_mul hb hs2'
  refine WL.append hst hown hs ht hi hz rfl (Nat.eq_of_beq_eq_true hs1) (Nat.eq_of_beq_eq_true hs3) ho hw hd hn hx hy (by omega) (by omega) fun v' L1' w' h1 h2 => ?_
  have h3 : OwnF F e v' (xs ++ ys) L1' := by unfold OwnF; rw [List.length_append, rows_append]; exact h2
  obtain ⟨A', c', rfl⟩ := h3.shape
  exact kk A' c' L1' w' h1 h3
/-- A slice that is written out. -/
theorem WL.buildF (hst : St w0 T L w) (xs : List α) {t e : TypeId} {len sz : Nat} {z : Value} {parts : Array (Nat × Operand)} {vs : List Value} (hu : ∀ w, (underlying t).run P w = .ok (.slice e) w) (hz : ∀ w, (sizeOf e).run P w = .ok sz w) (hzv : ∀ w, (zeroValue e).run P w = .ok z w) (hzs : Nat.beq (cellsOf z).length sz = true)
    (ho : o.op = .buildSlice t len parts) (hw : want ol o f = some true) (hd : o.dst = some d) (hn : Nat.blt d n = true) (hv : evs f (parts.toList.map (·.2)) = some vs) (hix : parts.toList.map (·.1) = List.range len) (hl : Nat.beq vs.length len = true) (hcs : vs.all (fun v => Nat.beq (cellsOf v).length sz) = true) (hbig : Nat.ble (len * sz) 16777216 = true)
    (hxs : vs.flatMap cellsOf = rows F xs) (hlen : Nat.beq xs.length len = true)
    (k : ∀ A c L1 w', St w0 T (L1 ++ L) w' → OwnF F e (.slice A xs.length c) xs L1 → WL P n ol rest K ((d, .slice A xs.length c) :: f) w') : WL P n ol (o :: rest) K f w := by
  have hlen' := Nat.eq_of_beq_eq_true hlen
  refine WL.buildSlice hst hu hz hzv hzs ho hw hd hn hv hix hl hcs hbig fun b w' h => ?_
  rw [hxs] at h
  rw [← hlen']
  refine k _ _ [(b, .cells (rows F xs).toArray e (0, 0))] w' h (OwnF.row rfl ?_)
  have h3 := Nat.le_of_ble_eq_true hbig
  have h4 := congrArg List.length hxs
  rw [rows_len] at h4
  have h5 : xs.length * 1 ≤ xs.length * F.sz := Nat.mul_le_mul_left _ F.pos
  have h6 : (vs.flatMap cellsOf).length = len * sz := by
    rw [List.length_flatMap]
    have : vs.map (fun a => (cellsOf a).length) = vs.map (fun _ => sz) := List.map_congr_left fun v hm => Nat.eq_of_beq_eq_true (List.all_eq_true.1 hcs v hm)
    rw [this, List.map_const', List.sum_replicate_nat, Nat.eq_of_beq_eq_true hl]
  simp only [maxLen]; omega
end
theorem St.lent1 (w : World) (L : Hp) {α : Type} {F : Enc α} {e : TypeId} {v : Value} {xs : List α} (hown : OwnF F e v xs L) (ho : ∀ p, p ∈ L → w.heap[p.1]? = some p.2) : St w (L.map (·.1)) (L ++ []) w := St.lent w L ho hown.keys
/-- '[]byte(s)'. -/
theorem WL.bytesOf {P : Program} {n : Nat} {ol rest : List Oper} {o : Oper} {K : Fr → World → Prop} {f : Fr} {w0 w : World} {T : List Nat} {L : Hp} {d : Nat} (hst : St w0 T L w) {src dst e : TypeId} {x : Operand} {s : ByteArray} (hs : P.underlying src = some .string) (hd' : P.underlying dst = some (.slice e)) (he : P.underlying e = some (.int .u8))
    (ho : o.op = .convert src dst x) (hw : want ol o f = some true) (hd : o.dst = some d) (hn : Nat.blt d n = true) (hx : ev f x = some (.string s)) (hb : s.size ≤ 9223372036854775807)
    (k : ∀ A c L1 w', St w0 T (L1 ++ L) w' → OwnF encB e (.slice A s.data.toList.length c) s.data.toList L1 → WL P n ol rest K ((d, .slice A s.data.toList.length c) :: f) w') : WL P n ol (o :: rest) K f w := by
  have hr := run_bytes_of_string (P := P) w src dst e s hs hd' he
  have hl : s.data.toList.length = s.size := by simp
  have hcap := grownCap_ge w s.size 0 e
  have hcm : grownCap w s.size 0 e ≤ maxLen := grownCap_le_maxLen w s.size 0 e (by simp only [maxLen]; omega)
  generalize hC : grownCap w s.size 0 e = C at hr hcap hcm
  have e1 : bytesRow s C = (bytesV s.data.toList ++ List.replicate (C - s.size) (Value.int .u8 0)).toArray := by
    apply Array.toList_inj.1
    simp [bytesRow, bytesV_map]
  have hsz : (bytesRow s C).size = C := by simp [bytesRow]; omega
  refine WL.val (w' := w.drew.alloc (.cells (bytesRow s C) e (C, C + 1))) hw hd hn (fun ρ hρ => ?_) ?_ (v := .slice (some ⟨w.heap.size, 0, none⟩) s.data.toList.length C)
  · rw [hsz] at hr
    simp [execOp, ho, hρ _ _ hx, hr]
  · refine k _ _ [(w.heap.size, .cells (bytesRow s C) e (C, C + 1))] _ (hst.drew.alloc _) ?_
    rw [e1]
    refine ⟨by rw [rows_len], .inr ⟨_, C, _, (C, C + 1), rfl, rfl, by omega, hcm, ?_, ?_, .inr ?_⟩⟩
    · simp [bytesV_len, encB]; omega
    · rw [List.take_append_of_le_length (by rw [rows_len]; exact Nat.le_refl _), List.take_of_length_le (by rw [rows_len]; exact Nat.le_refl _)]
    · simp [bytesV_len]; omega
/-- 'string(b)'. -/
theorem Run.strOf {P : Program} {o : Oper} {f : Fr} {w : World} {src dst e : TypeId} {x : Operand} {A : Option Addr} {n c : Nat} {xs : List UInt8} (h : SlB w A n xs) (hs : P.underlying src = some (.slice e)) (he : P.underlying e = some (.int .u8)) (hd : P.underlying dst = some .string)
    (ho : o.op = .convert src dst x) (hx : ev f x = some (.slice A n c)) : Run P o f w (.value (.string ⟨xs.toArray⟩)) w := fun ρ hρ => by
  obtain ⟨hl, hr⟩ := h
  subst hl
  have hc : (convert src dst (.slice A xs.length c)).run P w = .ok (.string ⟨xs.toArray⟩) w := by
    cases A with
    | some a =>
      refine run_convert_bytes_back w src dst e a c xs hs he hd fun j hj => ?_
      have := hr.cell j _ (bytesV_get hj)
      simpa [adr, gat, List.getD, hj] using this
    | none =>
      have h0 : xs = [] := by
        rcases Nat.eq_zero_or_pos xs.length with h0 | h0
        · exact List.eq_nil_of_length_eq_zero h0
        · have := hr.some_ h0; simp at this
      subst h0
      show (convert src dst (.slice none 0 c)).run P w = _
      rw [run_convert_bytes_string w src dst e none 0 c hs he hd]
      simp [Conv.bytesToString]
      rfl
  simp [execOp, ho, hρ _ _ hx, hc]
theorem lt_of_SlF {α : Type} {F : Enc α} {w : World} {A : Option Addr} {n : Nat} {xs : List α} (h : SlF F w A n xs) (hn : 0 < n) : (adr A).block < w.heap.size := by
  have h0 : 0 < (rows F xs).length := by rw [h.rd.len]; exact Nat.mul_pos hn F.pos
  have := cell?_lt (h.rd.cell 0 _ (List.getElem?_eq_getElem h0))
  rwa [add_block] at this
/-- What lay there before is none of what is new. -/
theorem St.sep {α : Type} {F : Enc α} {w0 w : World} {L1 R : Hp} {A : Option Addr} {n : Nat} {xs : List α} (hs : St w0 [] (L1 ++ R) w) (h : SlF F w0 A n xs) : 0 < n → (adr A).block ∉ L1.map (·.1) := fun hn hm => by
  obtain ⟨p, hp, e⟩ := List.mem_map.1 hm
  have h1 := lt_of_SlF h hn
  rcases (hs.own p (List.mem_append_left _ hp)).2 with h2 | h2
  · omega
  · cases h2
theorem sep_nil {A : Option Addr} {n : Nat} : 0 < n → (adr A).block ∉ ([] : Hp).map (·.1) := fun _ h => by cases h
/-- One slice of ours is none of another. -/
theorem OwnF.sep {α : Type} {F : Enc α} {e : TypeId} {w0 w : World} {T : List Nat} {L1 L2 R : Hp} {A : Option Addr} {n c : Nat} {xs : List α} (hs : St w0 T (L1 ++ R) w) (hm : ∀ p, p ∈ L2 → p ∈ R) (h : OwnF F e (.slice A n c) xs L2) : 0 < n → (adr A).block ∉ L1.map (·.1) := fun hn hmm => by
  have hl := h.len_
  rcases h.2 with ⟨hv, h0, rfl⟩ | ⟨g, cap, cl, fz, hv, rfl, _⟩
  · omega
  · cases hv
    have hd := hs.nodup
    rw [List.map_append, List.nodup_append] at hd
    exact hd.2.2 _ hmm _ (List.mem_map_of_mem (hm _ List.mem_cons_self)) rfl
theorem srcI1 {P : Program} {w : World} {b : Nat} {c : Int} {e tx e' : TypeId} {fz : Nat × Nat} (hk : P.underlying tx = some (.slice e')) (h : w.heap[b]? = some (.cells ([i64 c].flatMap cellsOf).toArray e fz)) : Src P 1 tx (.slice (some ⟨b, 0, none⟩) 1 1) [c].length (intsV [c]) w :=
  srcF (F := encI) (ys := [c]) hk rfl rfl h
/-- A loop that turns one slice of ours; the rest stays. -/
theorem WC.loopO {P : Program} {n : Nat} {c : Code} {Q : Kont} {f : Fr} {w0 w : World} {T : List Nat} {L0 R : Hp} (F : Fr) (hF : Sub F f) (hst : St w0 T (L0 ++ R) w) (I : Nat → Fr → Hp → Prop) (k0 : Nat) (h0 : I k0 f L0)
    (hr : ∀ k f w L1, I k f L1 → Sub F f → St w0 T (L1 ++ R) w → WC P n c (thenK (fun f' w' => Sub F f' ∧ ∃ L1', St w0 T (L1' ++ R) w' ∧ ∃ k', k' < k ∧ I k' f' L1') Q) f w) : WC P n (.loop c) Q f w :=
  WC.loopN (fun k f w => ∃ L1, I k f L1 ∧ Sub F f ∧ St w0 T (L1 ++ R) w) k0 ⟨L0, h0, hF, hst⟩ fun k f w ⟨L1, h1, h2, h3⟩ => (hr k f w L1 h1 h2 h3).mono fun e f' w' q => by
    cases e
    case normal =>
      obtain ⟨q1, L1', q2, k', q3, q4⟩ := q
      exact ⟨k', q3, L1', q4, q1, q2⟩
    all_goals exact q
theorem OwnF.eqOf {α : Type} {F : Enc α} {e : TypeId} {v : Value} {ys xs : List α} {L : Hp} (_ : OwnF F e v ys L) (h : ys = xs) : ys = xs := h
/-- A row filled up to i. -/
def fillG {α : Type} (F : Enc α) (xs : List α) (i : Nat) : List α := xs.take i ++ List.replicate (xs.length - i) F.dflt
section
variable {α : Type} {F : Enc α} {xs : List α} {i n : Nat}
theorem fillG_zero (h : xs.length = n) : List.replicate n F.dflt = fillG F xs 0 := by simp [fillG, h]
theorem fillG_full (h : xs.length ≤ i) : fillG F xs i = xs := by simp [fillG, List.take_of_length_le h, Nat.sub_eq_zero_of_le h]
theorem fillG_len (h : i ≤ xs.length) : (fillG F xs i).length = xs.length := by simp [fillG]; omega
theorem fillG_set (h : i < xs.length) {x : α} (hx : x = gat F xs i) {j : Nat} (hj : j = i) : (fillG F xs i).set j x = fillG F xs (i + 1) := by
  subst hx hj
  obtain ⟨r, hr⟩ : ∃ r, xs.length - j = r + 1 := ⟨xs.length - j - 1, by omega⟩
  have hr2 : xs.length - (j + 1) = r := by omega
  unfold fillG
  rw [hr, hr2, List.replicate_succ, List.set_append_right _ _ (by simp; omega)]
  simp only [List.length_take, Nat.min_eq_left (Nat.le_of_lt h), Nat.sub_self, List.set_cons_zero]
  rw [List.take_add_one, gat_get (F := F) h, List.append_assoc]
  rfl
end
theorem gat_set {α : Type} {F : Enc α} {xs : List α} {i j : Nat} {x : α} (h : i < xs.length) (hj : j = i) : gat F (xs.set i x) j = x := by
  subst hj; simp [gat, List.getD, h]
/-- What a law writes into memory to see whether it is shared. -/
def marks {α : Type} (mk : Int → α) (s : Nat) (k : Int) (n : Nat) : List α := (List.range n).map fun (i : Nat) => mk (k + s * (i : Int))
def fillM {α : Type} (mk : Int → α) (s : Nat) (k : Int) (xs : List α) (i : Nat) : List α := marks mk s k i ++ xs.drop i
section
variable {α : Type} {F : Enc α} {mk : Int → α} {s : Nat} {k : Int} {xs : List α} {i n : Nat}
theorem marks_len : (marks mk s k n).length = n := by simp [marks]
theorem marks_gat (h : i < n) : gat F (marks mk s k n) i = mk (k + s * i) := by simp [gat, marks, h, List.getD]
theorem fillM_zero : fillM mk s k xs 0 = xs := by simp [fillM, marks]
theorem fillM_full (h : i = xs.length) : fillM mk s k xs i = marks mk s k xs.length := by subst h; simp [fillM]
theorem fillM_len (h : i ≤ xs.length) : (fillM mk s k xs i).length = xs.length := by simp [fillM, marks]; omega
theorem fillM_set (h : i < xs.length) {x : α} (hx : x = mk (k + s * i)) {j : Nat} (hj : j = i) : (fillM mk s k xs i).set j x = fillM mk s k xs (i + 1) := by
  subst hx hj
  unfold fillM
  have hl : (marks mk s k j).length = j := marks_len
  rw [List.set_append_right _ _ (by omega), hl, Nat.sub_self, List.drop_eq_getElem_cons h, List.set_cons_zero]
  unfold marks
  rw [List.range_succ, List.map_append, List.append_assoc]
  rfl
end
end Go.Proofs.Ytpiimkfonlijdaa
