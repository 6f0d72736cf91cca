/-
  What the proof stands on, part 4.
-/
import Derived.Test.YthfhhldbglaieaaGreatKN3
namespace Go.Proofs.YthfhhldbglaieaaGreat
open Go Go.RowKit
set_option linter.unusedVariables false
set_option linter.unusedSimpArgs false
def BM (es : Array MapEntry) (q : Int → Bool) : Prop :=
 (∀ x ∈ es.toList, ∃ n v, x.key = .int .i64 n ∧ x.val = .bool v ∧ q n = v) ∧ (∀ n, q n = true → ∃ x ∈ es.toList, x.key = .int .i64 n)
theorem BM.nil : BM #[] (fun _ => false) := ⟨by simp, by simp⟩
theorem BM.keys {es : Array MapEntry} {q : Int → Bool} (h : BM es q) : ∀ x ∈ es.toList, MapKept.IsKey (.int .i64) x.key := by
 intro x hx
 obtain ⟨n, v, hk, _, _⟩ := h.1 x hx
 rw [hk]; rfl
theorem BM.find {es : Array MapEntry} {q : Int → Bool} (h : BM es q) (n : Int) :
  (Instr.findNow (.int .i64) (.int .i64 n) es.toList 0 = some none ∧ q n = false ∧ ∀ x ∈ es.toList, x.key ≠ .int .i64 n) ∨ ∃ j e, Instr.findNow (.int .i64) (.int .i64 n) es.toList 0 = some (some (j, .bool (q n))) ∧ es[j]? = some e ∧ e.key = .int .i64 n := by
 rcases MapKept.findNow_spec (d := .int .i64) (k := .int .i64 n) rfl es.toList 0 h.keys with ⟨h1, h2⟩ | ⟨j, e, h1, h2, h3⟩
 ·refine .inl ⟨h1, ?_, h2⟩
  cases hq : q n with
  | false => rfl
  | true =>
   obtain ⟨x, hx, hk⟩ := h.2 n hq
   exact absurd hk (h2 x hx)
 ·refine .inr ⟨j, e, ?_, by simpa using h2, h3⟩
  obtain ⟨m, v, hk, hv, hq⟩ := h.1 e (List.mem_of_getElem? h2)
  rw [hk] at h3
  cases h3
  rw [h1, hv, hq, Nat.zero_add]
theorem BM.put {es : Array MapEntry} {q : Int → Bool} (h : BM es q) {n : Int} {v : Bool} {clock : Nat} (hn : ∀ x ∈ es.toList, x.key ≠ .int .i64 n) : BM (es.push { key := .int .i64 n, val := .bool v, born := clock }) (fun m => if m = n then v else q m) := by
 refine ⟨fun x hx => ?_, fun m hm => ?_⟩
 ·simp only [Array.toList_push, List.mem_append, List.mem_singleton] at hx
  rcases hx with hx | rfl
  ·obtain ⟨m, u, hk, hv, hq⟩ := h.1 x hx
   refine ⟨m, u, hk, hv, ?_⟩
   show (if m = n then v else q m) = u
   rw [if_neg (fun e => hn x hx (by rw [hk, e]))]; exact hq
  ·exact ⟨n, v, rfl, rfl, by simp⟩
 ·by_cases he : m = n
  ·subst he
   exact ⟨{ key := .int .i64 m, val := .bool v, born := clock }, by simp, rfl⟩
  ·simp only [if_neg he] at hm
   obtain ⟨x, hx, hk⟩ := h.2 m hm
   exact ⟨x, by simp [hx], hk⟩
theorem BM.set {es : Array MapEntry} {q : Int → Bool} (h : BM es q) {n : Int} {v : Bool} {j : Nat} {e : MapEntry} (hj : es[j]? = some e) (hk : e.key = .int .i64 n) (hu : (es.toList.map (·.key)).Nodup) : BM (es.modify j fun e => { e with key := .int .i64 n, val := .bool v }) (fun m => if m = n then v else q m) := by
 have hmem : ∀ x, x ∈ (es.modify j fun e => { e with key := .int .i64 n, val := .bool v }).toList ↔ ∃ i y, es[i]? = some y ∧ x = if i = j then { y with key := .int .i64 n, val := .bool v } else y := by
  intro x
  rw [Array.mem_toList_iff, Array.mem_iff_getElem?]
  constructor
  ·rintro ⟨i, hi⟩
   rw [Array.getElem?_modify] at hi
   by_cases hij : j = i
   ·rw [if_pos hij] at hi
    obtain ⟨y, hy, rfl⟩ := Option.map_eq_some_iff.1 hi
    exact ⟨i, y, hy, by rw [if_pos hij.symm]⟩
   ·rw [if_neg hij] at hi
    exact ⟨i, x, hi, by rw [if_neg (fun h => hij h.symm)]⟩
  ·rintro ⟨i, y, hy, rfl⟩
   refine ⟨i, ?_⟩
   rw [Array.getElem?_modify]
   by_cases hij : j = i
   ·subst hij; rw [if_pos rfl, hy, if_pos rfl]; rfl
   ·rw [if_neg hij, hy, if_neg (fun h => hij h.symm)]
 have huniq : ∀ (i : Nat) (y : MapEntry), es[i]? = some y → y.key = .int .i64 n → i = j := by
  intro i y hy hky
  have e1 : (es.toList.map (·.key))[i]? = some (.int .i64 n) := by rw [List.getElem?_map, Array.getElem?_toList, hy, ← hky]; rfl
  have e2 : (es.toList.map (·.key))[j]? = some (.int .i64 n) := by rw [List.getElem?_map, Array.getElem?_toList, hj, ← hk]; rfl
  exact (List.getElem?_inj (List.getElem?_eq_some_iff.1 e1).1 hu).1 (e1.trans e2.symm)
 refine ⟨fun x hx => ?_, fun m hm => ?_⟩
 ·obtain ⟨i, y, hy, rfl⟩ := (hmem x).1 hx
  by_cases hij : i = j
  ·rw [if_pos hij]; exact ⟨n, v, rfl, rfl, by simp⟩
  ·rw [if_neg hij]
   obtain ⟨m, u, hk', hv, hq⟩ := h.1 y (by rw [← Array.getElem?_toList] at hy; exact List.mem_of_getElem? hy)
   refine ⟨m, u, hk', hv, ?_⟩
   show (if m = n then v else q m) = u
   rw [if_neg (fun he => hij (huniq i y hy (by rw [hk', he])))]; exact hq
 ·by_cases he : m = n
  ·subst he
   exact ⟨_, (hmem _).2 ⟨j, e, hj, rfl⟩, by rw [if_pos rfl]⟩
  ·simp only [if_neg he] at hm
   obtain ⟨x, hx, hkx⟩ := h.2 m hm
   obtain ⟨i, hi⟩ := List.mem_iff_getElem?.1 hx
   rw [Array.getElem?_toList] at hi
   by_cases hij : i = j
   ·subst hij
    rw [hj] at hi; cases hi
    rw [hk] at hkx; cases hkx; exact absurd rfl he
   ·exact ⟨x, (hmem x).2 ⟨i, x, hi, by rw [if_neg hij]⟩, hkx⟩
theorem BM.cast {es : Array MapEntry} {q q' : Int → Bool} (h : BM es q) (e : ∀ x, q x = q' x) : BM es q' := by
 have : q = q' := funext e
 rw [← this]; exact h
theorem SlF.varA {α : Type} {F : Enc α} {P : Program} {w : World} {a : Addr} {x : α} (h : SlF F w (some a) 1 [x]) : (loadCells a F.sz).run P w = .ok (F.enc x).toArray w := by
 have h1 := SlF.whole (P := P) (k := 0) h (by omega)
 have e : (adr (some a)).add (0 * F.sz) = a := by
  rw [Nat.zero_mul]
  show a.add 0 = a
  unfold Addr.add
  split <;> simp_all
 rw [e] at h1
 exact h1
section
variable {P : Program} {w0 w : World} {T : List Nat} {L : Hp} {n : Nat} {ol : List Oper} {o : Oper} {rest : List Oper} {f : Fr} {d : Nat} {K : Fr → World → Prop}
theorem Run.askM {t kt et : TypeId} {x y : Operand} {b clock : Nat} {es : Array MapEntry} {q : Int → Bool} {m : Int} (hm : P.underlying t = some (.map kt et)) (hkd : P.underlying kt = some (.int .i64)) (hz : ∀ w, (zeroValue et).run P w = .ok (.bool false) w) (ho : o.op = .lookup t x y false) (hx : ev f x = some (.map (some b))) (hy : ev f y = some (.int .i64 m))
  (hb : w.heap[b]? = some (.map es clock)) (hq : BM es q) : Run P o f w (.value (.bool (q m))) w := fun ρ hρ => by
 rcases hq.find m with ⟨h1, h2, _⟩ | ⟨j, e, h1, _⟩
 ·rw [h2]
  simp [execOp, ho, hρ _ _ hx, hρ _ _ hy, Instr.lookup, run_underlying hm, MapKept.run_getObj_map hb, MapKept.run_checkKey hkd (d := .int .i64) (k := .int .i64 m) rfl, MapKept.run_findKey hkd h1, hz, Result.andThen]
 ·simp [execOp, ho, hρ _ _ hx, hρ _ _ hy, Instr.lookup, run_underlying hm, MapKept.run_getObj_map hb, MapKept.run_checkKey hkd (d := .int .i64) (k := .int .i64 m) rfl, MapKept.run_findKey hkd h1, Result.andThen]
theorem WL.putM {L' : Array MapEntry → Nat → Hp} {t kt et : TypeId} {x y z : Operand} {b clock : Nat} {es : Array MapEntry} {q : Int → Bool} {m : Int} {v : Bool} (hst : St w0 T L w) (i : Nat) (hi : nthL L i = some (b, .map es clock)) (hm : P.underlying t = some (.map kt et)) (hkd : P.underlying kt = some (.int .i64))
  (ho : o.op = .mapUpdate t x y z) (hw : want ol o f = some true) (hd : o.dst = none) (hx : ev f x = some (.map (some b))) (hy : ev f y = some (.int .i64 m)) (hz : ev f z = some (.bool v)) (hL : ∀ e c, setLK L i (.map e c) some = some (L' e c)) (hq : BM es q) (hu : (es.toList.map (·.key)).Nodup)
  (k : ∀ es' clock' w', BM es' (fun j => if j = m then v else q j) → (es'.toList.map (·.key)).Nodup → St w0 T (L' es' clock') w' → WL P n ol rest K f w') : WL P n ol (o :: rest) K f w := by
 have hb := (hst.own _ (nthL_mem hi)).1
 rcases hq.find m with ⟨h1, h2, h3⟩ | ⟨j, e, h1, h2, h3⟩
 ·refine WL.unit (w' := { w with heap := w.heap.setIfInBounds b (.map (es.push { key := .int .i64 m, val := .bool v, born := clock }) (clock + 1)) }) hw hd (fun ρ hρ => ?_) (k _ _ _ (hq.put h3) ?_ (Option.some.inj (setLK_some (hL _ _)) ▸ hst.setObj hi _))
  ·simp [execOp, ho, hρ _ _ hx, hρ _ _ hy, hρ _ _ hz, Instr.mapUpdate, run_underlying hm, MapKept.run_getObj_map hb, MapKept.run_checkKey hkd (d := .int .i64) (k := .int .i64 m) rfl, MapKept.run_findKey hkd h1, MapKept.run_setObj_map _ hb, Result.andThen]
  ·rw [Array.toList_push, List.map_append, List.map_cons, List.map_nil, List.nodup_append]
   refine ⟨hu, by simp, ?_⟩
   intro a ha c hc
   simp only [List.mem_singleton] at hc
   subst hc
   obtain ⟨x, hx2, rfl⟩ := List.mem_map.1 ha
   exact h3 x hx2
 ·refine WL.unit (w' := { w with heap := w.heap.setIfInBounds b (.map (es.modify j fun e => { e with key := .int .i64 m, val := .bool v }) clock) }) hw hd (fun ρ hρ => ?_) (k _ _ _ (hq.set h2 h3 hu) ?_ (Option.some.inj (setLK_some (hL _ _)) ▸ hst.setObj hi _))
  ·simp [execOp, ho, hρ _ _ hx, hρ _ _ hy, hρ _ _ hz, Instr.mapUpdate, run_underlying hm, MapKept.run_getObj_map hb, MapKept.run_checkKey hkd (d := .int .i64) (k := .int .i64 m) rfl, MapKept.run_findKey hkd h1, h2, h3, MapKept.run_keyThatStays (d := .int .i64) (k := .int .i64 m) rfl, MapKept.run_setObj_map _ hb, Result.andThen]
  ·rw [MapKept.modify_keys j _ (fun e' he' => by rw [h2] at he'; cases he'; exact h3.symm)]
   exact hu
end
set_option maxHeartbeats 4000000 in
theorem k103_ (s : StateR) (w : World) (f_s : okStateR 549755813888 w s) (hT : totState s.dat ≤ 1048576) :
    Calls Tryz.prog 60 #[.agg #[i64 s.W, i64 s.H, i64 s.Limit, i64 s.Next, .slice s.Panes.A s.Panes.n s.Panes.c, .slice s.Wins.A s.Wins.n s.Wins.c, .slice s.Sess.A s.Sess.n s.Sess.c]] w fun e w' => e = .returned (.bool (panesOkI s.dat)) ∧ St w [] [] w' := by
 have nb_s_Panes := f_s.Panes_n
 have nl_s_Panes := f_s.Panes.sl.len
 have nb_s_Wins := f_s.Wins_n
 have nl_s_Wins := f_s.Wins.sl.len
 have nb_s_Sess := f_s.Sess_n
 have nl_s_Sess := f_s.Sess.sl.len
 have hsm0 : smState 1048576 s.dat := totState_sm hT
 have hlP : s.dat.Panes.length = s.Panes.xs.length := List.length_map _
 have hlW : s.dat.Wins.length = s.Wins.xs.length := List.length_map _
 have hlS : s.dat.Sess.length = s.Sess.xs.length := List.length_map _
 have hnP : s.dat.Panes.length ≤ 1048576 := hsm0.1
 have hnW : s.dat.Wins.length ≤ 1048576 := hsm0.2.2.1
 have hnS : s.dat.Sess.length ≤ 1048576 := hsm0.2.2.2.2.1
 have hWn : ∀ y, y ∈ s.Wins.xs → y.Tree.n ≤ 1048576 := fun y hy => by have h1 := (f_s.Wins.all y hy).Tree.len; have h2 : y.Tree.xs.length ≤ 1048576 := (hsm0.2.2.2.1 _ (List.mem_map_of_mem hy)).2; omega
 refine enter 83 Tryz.func60 rfl Tryz.ntmps60 rfl rfl ?_
 have hs1 := St.init w
 refine WC.sr (WL.bx hs1 rfl (fun b2 _ hs3 => WL.r 1 hs3 [] rfl (WL.nil (WC.sr (WL.makeMap hs3 rfl rfl rfl rfl (fun b4 whs5 hs5 => WL.r 1 hs5 [] rfl (WL.nil ?_)))))))
 refine WC.seq (fun K6 hK6 => WC.r1 hs5 [1] rfl (WC.block ?_))
 have hM7 := (St.grp0 [_] ((hs5.fb b2).fb b4))
 refine WC.lV [1, 3, 8, 9] rfl hM7 (fun k_ (a_ : Hp) f => ∃ (i : Nat) (es : Array MapEntry) (ck : Nat), k_ = s.Panes.n - i ∧ a_ = [(b4, .map es ck)] ∧ (i ≤ s.Panes.n) ∧ (BM es (fun x => decide (x ∈ (pidsL ((s.Panes.xs.take (i)).map PaneR.dat))))) ∧ ((es.toList.map (·.key)).Nodup) ∧ (∀ j, j < i → paneB s.dat (gat encPaneR s.Panes.xs j).dat = true ∧ (0 < j → (gat encPaneR s.Panes.xs (j - 1)).Id < (gat encPaneR s.Panes.xs j).Id) ∧ hasI (wIds s.dat) (gat encPaneR s.Panes.xs j).Id = false) ∧ ((pidsL ((s.Panes.xs.take (i)).map PaneR.dat)).Nodup) ∧ Sub [(10, .int .i64 i)] f) (((fun (i : Nat) (es : Array MapEntry) (ck : Nat) => s.Panes.n - i) (0) (#[]) (0))) ?_ ?_
 ·refine ⟨0, #[], 0, rfl, rfl, ?_, ?_, ?_, ?_, ?_, ⟨rfl, trivial⟩⟩
  · exact Nat.zero_le _
  · exact BM.cast BM.nil (fun x => (decide_eq_false (by rw [List.take_zero]; exact List.not_mem_nil)).symm)
  · exact List.nodup_nil
  · exact fun j hj => absurd hj (by omega)
  · rw [List.take_zero]; exact List.nodup_nil
 rintro _ _ f w ⟨i, es, ck, rfl, rfl, p0, p1, p2, p3, p4, hG⟩ hF hs8
 refine WC.sub _ (hG.app hF) ?_
 clear hG hF
 replace hs8 := St.ungrp0 [_] hs8
 have hs9 := ((hs8.fb b2).fb b4)
 refine WC.r1 hs9 [] rfl (WC.seq (fun K10 hK10 => ?_))
 refine WC.cq rfl (fun h11 qh11 => ?_) (fun h11 qh11 => ?_)
 ·have hTm := (SlN.nth f_s.Panes (show i < s.Panes.n by omega))
  refine WC.skip (hK10 _ _ (WC.seq (fun K12 hK12 => WC.block (WC.sr (WL.r 1 hs9 [] rfl ?_)))))
  refine WL.val rfl rfl rfl (Run.idxN Tryz.runUnderlying29 Tryz.sizeOf93 rfl rfl rfl ?_ ?_ ?_) ?_
  · exact SlF.some_ (SlF.st0 f_s.Panes.sl hs9)
  · omega
  · omega
  refine WL.val rfl rfl rfl (Run.loadA Tryz.isAgg93 Tryz.sizeOf93 rfl rfl (SlF.whole (SlF.st0 f_s.Panes.sl hs9) ?_)) ?_
  · omega
  refine WL.al hs9 Tryz.zeroValue93 rfl rfl (fun b13 _ hs14 => WL.r 1 hs14 [] rfl (WL.st tbk hs14 0 rfl rfl (fun _ hs15 => WL.nil (WC.seq (fun K16 hK16 => WC.sq1 hs15 (WQ.r 1 [0] rfl ?_))))))
  refine WQ.call rfl rfl rfl (fun w_ hs_ => (Run.call Tryz.call121 rfl rfl rfl)) (fun w_ hs_ => (k101_ (gat encPaneR s.Panes.xs i) _ (okPaneR.st0 (SlN.nth f_s.Panes (by omega)) (hs_ : St _ _ _ _))).mono fun e_ w_ h_ => ⟨h_.1, (hs_ : St _ _ _ _).call0 h_.2⟩) ?_
  refine WQ.r 2 [] rfl (WQ.pO tbk 5 Acts.nil [0, 2] rfl rfl rfl rfl (fun g_ => ⟨rfl, rfl, trivial⟩) (WQ.r 1 [] rfl ?_))
  apply WQ.gO 14 Acts.nil rfl
  ·intro g17 J18
   have qg17 := g17
   try simp only [bf, within_iff, within_not] at qg17
   refine WQ.runA tbk 3 (Acts.nil.cons (j := 10) rfl g17) [] rfl trivial ?_
   apply WQ.gA 10 (Acts.nil.cons (j := 10) rfl g17) rfl
   ·intro g19 J20
    have qg19 := g19
    try simp only [bf, within_iff, within_not] at qg19
    refine WQ.runA tbk 4 (Acts.nil.cons (j := 13) rfl g19) [2] rfl ⟨by omega, rfl, trivial⟩ ?_
    refine WQ.val (wantT rfl g19) rfl rfl (fun w_ hs_ => (Run.idxK ((i - 1)) Tryz.runUnderlying29 Tryz.sizeOf93 rfl rfl rfl ?_ ?_ ?_)) ?_
    · exact SlF.some_ (SlF.st0 f_s.Panes.sl (hs_ : St _ _ _ _))
    · omega
    · omega
    refine WQ.val (wantT rfl g19) rfl rfl (fun w_ hs_ => (Run.fieldO Tryz.runUnderlying93 rfl rfl rfl Tryz.sizeOf3 rfl)) ?_
    refine WQ.val (wantT rfl g19) rfl rfl (fun w_ hs_ => (Run.load Tryz.isAgg3 rfl rfl (SlF.fld (SlF.st0 f_s.Panes.sl (hs_ : St _ _ _ _)) ?_ rfl))) ?_
    · omega
    refine WQ.runA tbk 3 (Acts.nil.cons (j := 13) rfl g19) [0] rfl ⟨rfl, trivial⟩ (WQ.eA 10 (Acts.nil.cons (j := 10) rfl g17) J20 g19 rfl rfl)
   exact WQ.eO 4 Acts.nil J18 g17 rfl rfl
  refine WQ.r 1 [] rfl ?_
  apply WQ.gO 5 Acts.nil rfl
  ·intro g21 J22
   have qg21 := g21
   try simp only [bf, within_iff, within_not] at qg21
   refine WQ.runA tbk 3 (Acts.nil.cons (j := 26) rfl g21) [2, 0] rfl ⟨rfl, rfl, trivial⟩ ?_
   refine WQ.call (wantF rfl g21) rfl rfl (fun w_ hs_ => (Run.call Tryz.call122 rfl rfl rfl)) (fun w_ hs_ => (k60_ s _ _ (okStateR.st0 f_s (hs_ : St _ _ _ _))).mono fun e_ w_ h_ => ⟨h_.1, (hs_ : St _ _ _ _).call0 h_.2⟩) ?_
   refine WQ.runA tbk 1 (Acts.nil.cons (j := 26) rfl g21) [] rfl trivial (WQ.eO 5 Acts.nil J22 g21 rfl rfl)
  refine WQ.r 1 [] rfl (WQ.pO tbk 7 Acts.nil [0, 2] rfl rfl rfl rfl (fun g_ => ⟨rfl, rfl, trivial⟩) (WQ.nil (fun _ (hs23 : St _ _ _ _) => ?_)))
  refine WC.cq rfl (fun h24 qh24 => ?_) (fun h24 qh24 => ?_)
  ·have hbad : panesOkI s.dat = false := panesI_no (i := i) (by omega) (by
     show ((paneOk (gat encPaneR s.Panes.xs i).dat && decide ((gat encPaneR s.Panes.xs i).Id < s.Next)) && decide ((gat encPaneR s.Panes.xs i).Term.S.Limit = s.Limit)) = false ∨ _
     have h9 := h24
     simp only [Bool.or_eq_true, Bool.and_eq_true, Bool.not_eq_true', decide_eq_true_eq, winAt_has, Bool.and_eq_false_iff, decide_eq_false_iff_not, ge_iff_le, gt_iff_lt, Int.not_lt] at h9 ⊢
     grind)
   refine WC.r1 hs23 [] rfl (WC.ret (tkR (ibR (tkR (tkR (ibR (tkR ?_)))))))
   clear hK16 hK12 hK6
   refine rtv rfl rfl hs23 ?_
   rw [hbad]
  have hgood : paneB s.dat (gat encPaneR s.Panes.xs i).dat = true ∧ (0 < i → (gat encPaneR s.Panes.xs (i - 1)).Id < (gat encPaneR s.Panes.xs i).Id) ∧ hasI (wIds s.dat) (gat encPaneR s.Panes.xs i).Id = false := by
    show ((paneOk (gat encPaneR s.Panes.xs i).dat && decide ((gat encPaneR s.Panes.xs i).Id < s.Next)) && decide ((gat encPaneR s.Panes.xs i).Term.S.Limit = s.Limit)) = true ∧ _
    have h9 := h24
    rw [← Bool.not_eq_true (hasI _ _), ← winAt_has]
    simp only [Bool.or_eq_false_iff, Bool.and_eq_true, Bool.not_eq_false', decide_eq_true_eq, decide_eq_false_iff_not, Bool.and_eq_false_iff] at h9 ⊢
    grind
  refine WC.skip (hK16 _ _ (WC.seq (fun K25 hK25 => WC.sr (WL.r 4 hs23 [0] rfl ?_))))
  apply WL.gA 4 Acts.nil hs23 rfl
  ·intro g26 J27
   have qg26 := g26
   try simp only [bf, within_iff, within_not] at qg26
   refine WL.runA tbk 3 (Acts.nil.cons (j := 3) rfl g26) hs23 [0] rfl ⟨rfl, trivial⟩ (WL.val (wantT rfl g26) rfl rfl (Run.askM Tryz.underlying168 Tryz.underlying3 Tryz.zeroValue4 rfl rfl rfl (hs23.own _ (nthL_mem (i := 1) rfl)).1 p1) (WL.eA 4 Acts.nil J27 hs23 g26 rfl rfl))
  intro _ hs28
  refine WL.nil (WC.cq rfl (fun h29 qh29 => ?_) (fun h29 qh29 => ?_))
  ·have hbad : panesOkI s.dat = false := by
     have h9 := h29
     simp only [Bool.and_eq_true, decide_eq_true_eq] at h9
     exact panesI_pid_no (panesI_pid (i := i) (by omega) h9.1 h9.2)
   refine WC.r1 hs28 [] rfl (WC.ret (tkR (ibR (tkR (tkR (ibR (tkR ?_)))))))
   clear hK25 hK12 hK6
   refine rtv rfl rfl hs28 ?_
   rw [hbad]
  have hpid : ¬ ((gat encPaneR s.Panes.xs i).Life = 1 ∧ (gat encPaneR s.Panes.xs i).Pid ∈ (pidsL ((s.Panes.xs.take (i)).map PaneR.dat))) := by
    have h9 := h29
    intro h8
    rw [decide_eq_true h8.1, decide_eq_true h8.2] at h9
    exact absurd h9 (by decide)
  refine WC.skip (hK25 _ _ (WC.region (WL.r 6 hs28 [0, 0] rfl (WL.val rfl rfl rfl (Run.askM Tryz.underlying168 Tryz.underlying3 Tryz.zeroValue4 rfl rfl rfl (hs28.own _ (nthL_mem (i := 1) rfl)).1 p1) (WL.r 1 hs28 [] rfl (WL.pO tbk 3 Acts.nil hs28 [0] rfl rfl rfl rfl (fun g_ => ⟨rfl, trivial⟩) (WL.putM hs28 1 rfl Tryz.underlying168 Tryz.underlying3 rfl rfl rfl rfl rfl rfl (fun _ _ => rfl) p1 p2 (fun es31 ck32 whs30 hq33 hu34 hs30 => ?_))))))))
  refine WL.nil (hK12 _ _ (WC.region (WL.r 2 hs30 [] rfl (WL.nil (tkN ?_)))))
  replace hs30 := hs30.d1
  have hF35 := (St.grp0 [_] ((hs30.fb b2).fb b4))
  refine ⟨sbF rfl, _, hF35, _, ?_, i + 1, es31, ck32, rfl, rfl, ?_, ?_, ?_, ?_, ?_, ⟨rfl, trivial⟩⟩
  · omega
  · omega
  · exact BM.cast hq33 (fun x => by
      rw [pidsL_take (by omega)]
      by_cases hx : x = (gat encPaneR s.Panes.xs i).Pid <;> by_cases hl : (gat encPaneR s.Panes.xs i).Life = 1 <;> simp [hx, hl])
  · exact hu34
  · intro j hj; rcases Nat.lt_or_ge j i with h_ | h_
    · exact p3 j h_
    · obtain rfl : j = i := by omega
      exact hgood
  · rw [pidsL_take (by omega)]; split
    · rename_i hl; exact nodup_snoc p4 (fun hm => hpid ⟨hl, hm⟩)
    · rw [List.append_nil]; exact p4
 have hin : i = s.Panes.xs.length := by omega
 have hall := panesI_all (s := s) (fun j hj => p3 j (by omega)) (pidsC_all (i := i) (by omega) p4)
 refine WC.exit (hK6 _ _ (WC.r1 hs9 [1] rfl (WC.ret (rtv rfl rfl hs9 ?_))))
 rw [hall, nl_s_Panes]
theorem k104_ (A_a : Option Addr) (n_a c_a : Nat) (a : List Int) (A_b : Option Addr) (n_b c_b : Nat) (b : List Int) (w : World) (f_a : SlF encI w A_a n_a a) (f_b : SlF encI w A_b n_b b) (hn : n_a ≤ 1099511627776) :
    Calls Tryz.prog 179 #[.slice A_a n_a c_a, .slice A_b n_b c_b] w fun e w' => e = .returned (.bool (decide (a = b))) ∧ St w [] [] w' := by
 have hla := f_a.len
 have hlb := f_b.len
 refine enter 26 Tryz.func179 rfl Tryz.ntmps179 rfl rfl ?_
 have hs1 := St.init w
 refine WC.r1 hs1 [] rfl (WC.seq (fun K2 hK2 => WC.r1 hs1 [] rfl ?_))
 refine WC.cq rfl (fun h3 qh3 => ?_) (fun h3 qh3 => ?_)
 ·refine WC.r1 hs1 [] rfl (WC.ret (tkR ?_))
  clear hK2
  refine rtv rfl rfl hs1 ?_
  refine congrArg Value.bool ?_; symm; rw [decide_eq_false_iff_not]; intro he; subst he; omega
 refine WC.skip (hK2 _ _ (WC.seq (fun K4 hK4 => WC.r1 hs1 [] rfl (WC.block ?_))))
 refine WC.lS [0, 1, 10, 12] rfl hs1 (fun k_ f w' => ∃ (i : Nat), k_ = n_a - i ∧ (i ≤ n_a) ∧ (∀ j, j < i → gat encI a j = gat encI b j) ∧ Sub [(13, .int .i64 i)] f) ((fun (i : Nat) => n_a - i) (0)) ?_ ?_
 ·refine ⟨0, rfl, ?_, ?_, ⟨rfl, trivial⟩⟩
  · exact Nat.zero_le _
  · exact fun j hj => absurd hj (by omega)
 clear hs1
 rintro _ f w ⟨i, rfl, p0, p1, hG⟩ hF hs5
 refine WC.sub _ (hG.app hF) ?_
 clear hG hF
 refine WC.r1 hs5 [] rfl (WC.seq (fun K6 hK6 => ?_))
 refine WC.cq rfl (fun h7 qh7 => ?_) (fun h7 qh7 => ?_)
 ·refine WC.skip (hK6 _ _ (WC.seq (fun K8 hK8 => WC.block (WC.r1 hs5 [] rfl (WC.sq1 hs5 (WQ.r 2 [] rfl ?_))))))
  refine WQ.val rfl rfl rfl (fun w_ hs_ => (Run.idxN Tryz.runUnderlying60 Tryz.sizeOf3 rfl rfl rfl ?_ ?_ ?_)) ?_
  · exact SlF.some_ (SlF.st0 f_a (hs_ : St _ _ _ _))
  · omega
  · omega
  refine WQ.val rfl rfl rfl (fun w_ hs_ => (Run.load Tryz.isAgg3 rfl rfl (SlF.one1 (SlF.st0 f_a (hs_ : St _ _ _ _)) ?_ rfl))) ?_
  · omega
  refine WQ.r 2 [] rfl ?_
  refine WQ.val rfl rfl rfl (fun w_ hs_ => (Run.idxN Tryz.runUnderlying60 Tryz.sizeOf3 rfl rfl rfl ?_ ?_ ?_)) ?_
  · exact SlF.some_ (SlF.st0 f_b (hs_ : St _ _ _ _))
  · omega
  · omega
  refine WQ.val rfl rfl rfl (fun w_ hs_ => (Run.load Tryz.isAgg3 rfl rfl (SlF.one1 (SlF.st0 f_b (hs_ : St _ _ _ _)) ?_ rfl))) ?_
  · omega
  refine WQ.r 1 [] rfl (WQ.nil (fun _ (hs9 : St _ _ _ _) => ?_))
  refine WC.cq rfl (fun h10 qh10 => ?_) (fun h10 qh10 => ?_)
  ·refine WC.r1 hs9 [] rfl (WC.ret (ibR (tkR (tkR (ibR (tkR ?_))))))
   clear hK8 hK4
   refine rtv rfl rfl hs9 ?_
   refine congrArg Value.bool ?_; symm; rw [decide_eq_false_iff_not]; intro he; subst he; simp at h10
  refine WC.skip (hK8 _ _ (WC.region (WL.r 2 hs9 [] rfl (WL.nil (tkN ?_)))))
  refine ⟨sbF rfl, hs9, _, ?_, i + 1, rfl, ?_, ?_, ⟨rfl, trivial⟩⟩
  · omega
  · omega
  · intro j hj; rcases Nat.lt_or_ge j i with h_ | h_
    · exact p1 j h_
    · obtain rfl : j = i := by omega
      exact (by simpa using h10)
 refine WC.exit (hK4 _ _ (WC.r1 hs5 [] rfl (WC.ret (rtv rfl rfl hs5 ?_))))
 refine congrArg Value.bool ?_; symm; rw [decide_eq_true_eq]; exact gat_ext (F := encI) (by omega) (fun j hj => p1 j (by omega))
theorem k105_ (A_a : Option Addr) (n_a c_a : Nat) (a : List Int) (A_b : Option Addr) (n_b c_b : Nat) (b : List Int) (w : World) (f_a : SlF encI w A_a n_a a) (f_b : SlF encI w A_b n_b b) (h1 : n_a ≤ 268435456) (h2 : n_b ≤ 268435456) :
    Calls Tryz.prog 124 #[.slice A_a n_a c_a, .slice A_b n_b c_b] w fun e w' => e = .returned (.bool (decide (sortI a = sortI b))) ∧ St w [] [] w' := by
 have hla := f_a.len
 have hlb := f_b.len
 have hsa := sortI_len a
 have hsb := sortI_len b
 refine enter 18 Tryz.func124 rfl Tryz.ntmps124 rfl rfl ?_
 have hs1 := St.init w
 refine WC.r1 hs1 [] rfl (WC.sr (WL.r 1 hs1 [] rfl (WL.cl Tryz.call149 rfl (k24_ _ _ _ _ _ (SlF.st0 f_a hs1) ?_) ?_)))
 · first | assumption | rfl | omega
 rintro _ whs2 ⟨A3, c4, L1_5, rfl, hs2, ho6⟩
 replace hs2 := hs1.callF hs2
 refine ⟨_, rfl, WL.r 1 hs2 [] rfl (WL.cl Tryz.call149 rfl (k24_ _ _ _ _ _ (SlF.st0 f_b hs2) ?_) ?_)⟩
 · first | assumption | rfl | omega
 rintro _ whs7 ⟨A8, c9, L1_10, rfl, hs7, ho11⟩
 replace hs7 := hs2.callF hs7
 refine ⟨_, rfl, WL.r 2 hs7 [] rfl (WL.nil (WC.sr (WL.r 1 hs7 [] rfl (WL.cl Tryz.call166 rfl (k30_ _ _ _ _ ho6 (hs7.ow L1_5) ?_) ?_))))⟩
 · first | omega | assumption
 rintro _ whs12 ⟨L1_13, rfl, hs12, ho14⟩
 replace hs12 := St.lend (hs7.fr L1_5) hs12
 refine ⟨_, rfl, WL.nil (WC.sr (WL.r 1 hs12 [] rfl (WL.cl Tryz.call166 rfl (k30_ _ _ _ _ ho11 (hs12.ow L1_10) ?_) ?_)))⟩
 · first | omega | assumption
 rintro _ whs15 ⟨L1_16, rfl, hs15, ho17⟩
 replace hs15 := St.lend (hs12.fr L1_10) hs15
 refine ⟨_, rfl, WL.nil (WC.sr (WL.r 2 hs15 [] rfl (WL.cl Tryz.call179 rfl (k104_ _ _ _ _ _ _ _ _ _ (SlF.ofOwn ho14 (hs15.ow L1_13)) (SlF.ofOwn ho17 (hs15.ow L1_16)) ?_) ?_)))⟩
 · first | assumption | rfl | omega
 rintro _ whs18 ⟨rfl, hs18⟩
 replace hs18 := hs15.call0 hs18
 refine ⟨_, rfl, WL.r 1 hs18 [] rfl (WL.nil (WC.ret (rtv rfl rfl hs18 ?_)))⟩
 rfl
theorem ext_idx (s : ByteArray) (c : Int) (w : World) : (callFunc 289 #[.string s, .int .u8 c]).run Tryz.prog w = .ok (.value (.int .i64 (firstIdx s c.toNat.toUInt8))) w := by
  rw [run_callFunc_extern Tryz.func289 (by kernel_rfl) (by kernel_rfl) (by kernel_rfl) (e := Extern.BytealgIndexByte.indexByte) (by kernel_rfl), run_indexByte_string]
  rfl
theorem k106_ (s : ByteArray) (c : Int) (w : World) :
    Calls Tryz.prog 265 #[.string s, .int .u8 c] w fun e w' => e = .returned (.int .i64 (firstIdx s c.toNat.toUInt8)) ∧ St w [] [] w' := by
 refine enter 8 Tryz.func265 rfl Tryz.ntmps265 rfl rfl ?_
 have hs1 := St.init w
 refine WC.r1 hs1 [] rfl (WC.sr (WL.r 2 hs1 [] rfl (WL.val rfl rfl rfl (Run.ext (ext_idx _ _) rfl rfl rfl) (WL.r 1 hs1 [] rfl (WL.nil (WC.ret (retV1 rfl (resV.tmp rfl) ?_)))))))
 refine ⟨congrArg Ending.returned ?_, hs1.nil⟩
 rfl
theorem k107_ (s : ByteArray) (c : Int) (w : World) :
    Calls Tryz.prog 216 #[.string s, .int .u8 c] w fun e w' => e = .returned (.int .i64 (firstIdx s c.toNat.toUInt8)) ∧ St w [] [] w' := by
 refine enter 8 Tryz.func216 rfl Tryz.ntmps216 rfl rfl ?_
 have hs1 := St.init w
 refine WC.r1 hs1 [] rfl (WC.sr (WL.r 2 hs1 [] rfl (WL.cl Tryz.call265 rfl (k106_ _ _ _) ?_)))
 rintro _ whs2 ⟨rfl, hs2⟩
 replace hs2 := hs1.call0 hs2
 refine ⟨_, rfl, WL.r 1 hs2 [] rfl (WL.nil (WC.ret (rtv rfl rfl hs2 ?_)))⟩
 rfl
theorem k108_ (s : ByteArray) (most : Int) (more : ByteArray) (w : World) (hz : s.size ≤ 1099511627776) :
    Calls Tryz.prog 178 #[.string s, i64 most, .string more] w fun e w' => e = .returned (.bool (isPlain s most more)) ∧ St w [] [] w' := by
 refine enter 43 Tryz.func178 rfl Tryz.ntmps178 rfl rfl ?_
 have hs1 := St.init w
 refine WC.r1 hs1 [] rfl (WC.seq (fun K2 hK2 => WC.r1 hs1 [] rfl (WC.block ?_)))
 refine WC.lS [0, 1, 2, 10] rfl hs1 (fun k_ f w' => ∃ (i : Nat), k_ = s.size - i ∧ (i ≤ s.size) ∧ (upto (plainB more) s i) ∧ Sub [(11, .int .i64 i)] f) ((fun (i : Nat) => s.size - i) (0)) ?_ ?_
 ·refine ⟨0, rfl, ?_, ?_, ⟨rfl, trivial⟩⟩
  · exact Nat.zero_le _
  · exact upto_zero
 clear hs1
 rintro _ f w ⟨i, rfl, p0, p1, hG⟩ hF hs3
 refine WC.sub _ (hG.app hF) ?_
 clear hG hF
 refine WC.r1 hs3 [] rfl (WC.seq (fun K4 hK4 => ?_))
 refine WC.cD rfl (fun qh5 => ?_) (fun qh5 => ?_)
 ·refine WC.skip (hK4 _ _ (WC.seq (fun K6 hK6 => WC.block (WC.r1 hs3 [] rfl (WC.sr (WL.r 2 hs3 [] rfl ?_))))))
  refine WL.val rfl rfl rfl (Run.idxStr Tryz.runUnderlying9 rfl rfl rfl ?_ ?_) ?_
  · omega
  · omega
  refine WL.r 1 hs3 [] rfl (WL.nil (WC.sr (WL.r 3 hs3 [] rfl (WL.pA tbk 2 Acts.nil hs3 [] rfl rfl rfl rfl (fun g_ => trivial) (WL.r 1 hs3 [] rfl ?_)))))
  apply WL.gO 6 Acts.nil hs3 rfl
  ·intro g7 J8
   refine WL.runA tbk 3 (Acts.nil.cons (j := 6) rfl g7) hs3 [] rfl trivial (WL.pA tbk 2 (Acts.nil.cons (j := 6) rfl g7) hs3 [] rfl rfl rfl rfl (fun g_ => trivial) (WL.eO 4 Acts.nil J8 hs3 g7 rfl rfl))
  intro _ hs9
  refine WL.r 1 hs9 [] rfl ?_
  apply WL.gO 4 Acts.nil hs9 rfl
  ·intro g10 J11
   refine WL.runA tbk 2 (Acts.nil.cons (j := 14) rfl g10) hs9 [] rfl trivial (WL.call (wantF rfl g10) rfl rfl (Run.call Tryz.call216 rfl rfl rfl) (k107_ _ _ _) ?_)
   rintro _ whs12 ⟨rfl, hs12⟩
   replace hs12 := hs9.call0 hs12
   refine ⟨_, rfl, WL.runA tbk 1 (Acts.nil.cons (j := 14) rfl g10) hs12 [] rfl trivial (WL.eO 4 Acts.nil J11 hs12 g10 rfl rfl)⟩
  intro _ hs13
  refine WL.r 1 hs13 [] rfl (WL.nil (WC.cq rfl (fun h14 qh14 => ?_) (fun h14 qh14 => ?_)))
  ·refine WC.r1 hs13 [] rfl (WC.ret (ibR (tkR (tkR (ibR (tkR ?_))))))
   clear hK6 hK2
   refine rtv rfl rfl hs13 ?_
   have e : plainB more (sbyte s i) = false := by simpa [plainB, wordB] using qh14
   simp [isPlain, allB_false (by omega) e]
  refine WC.skip (hK6 _ _ (WC.region (WL.r 2 hs13 [] rfl (WL.nil (tkN ?_)))))
  refine ⟨sbF rfl, hs13, _, ?_, i + 1, rfl, ?_, ?_, ⟨rfl, trivial⟩⟩
  · omega
  · omega
  · refine upto_succ p1 ?_; simpa [plainB, wordB] using qh14
 refine WC.exit (hK2 _ _ (WC.sr (WL.r 3 hs3 [] rfl (WL.cl Tryz.call58 rfl (k0_ _ _ _ _) ?_))))
 rintro _ whs15 ⟨rfl, hs15⟩
 replace hs15 := hs3.call0 hs15
 refine ⟨_, rfl, WL.r 1 hs15 [] rfl (WL.nil (WC.ret (rtv rfl rfl hs15 ?_)))⟩
 simp [isPlain, allB_true p1 (by omega)]
theorem k109_ (s : ByteArray) (w : World) (hz : s.size ≤ 1099511627776) :
    Calls Tryz.prog 123 #[.string s] w fun e w' => e = .returned (.bool (wordOk s)) ∧ St w [] [] w' := by
 refine enter 5 Tryz.func123 rfl Tryz.ntmps123 rfl rfl ?_
 have hs1 := St.init w
 refine WC.r1 hs1 [] rfl (WC.sr (WL.r 1 hs1 [] rfl (WL.cl Tryz.call178 rfl (k108_ _ _ _ _ ?_) ?_)))
 · first | assumption | rfl | omega
 rintro _ whs2 ⟨rfl, hs2⟩
 replace hs2 := hs1.call0 hs2
 refine ⟨_, rfl, WL.r 1 hs2 [] rfl (WL.nil (WC.ret (rtv rfl rfl hs2 ?_)))⟩
 rfl
theorem k110_ (s : ByteArray) (w : World) (hz : s.size ≤ 1099511627776) :
    Calls Tryz.prog 117 #[.string s] w fun e w' => e = .returned (.bool (wordOk s)) ∧ St w [] [] w' := by
 refine enter 40 Tryz.func117 rfl Tryz.ntmps117 rfl rfl ?_
 have hs1 := St.init w
 refine WC.r1 hs1 [] rfl (WC.seq (fun K2 hK2 => WC.r1 hs1 [] rfl (WC.block ?_)))
 refine WC.lS [0] rfl hs1 (fun k_ f w' => ∃ (i : Nat), k_ = s.size - i ∧ (i ≤ s.size) ∧ (upto (plainB ByteArray.empty) s i) ∧ Sub [(3, .int .i64 i)] f) ((fun (i : Nat) => s.size - i) (0)) ?_ ?_
 ·refine ⟨0, rfl, ?_, ?_, ⟨rfl, trivial⟩⟩
  · exact Nat.zero_le _
  · exact upto_zero
 clear hs1
 rintro _ f w ⟨i, rfl, p0, p1, hG⟩ hF hs3
 refine WC.sub _ (hG.app hF) ?_
 clear hG hF
 refine WC.seq (fun K4 hK4 => WC.r1 hs3 [] rfl ?_)
 refine WC.cond rfl (fun h5 => ?_) (fun h5 => ?_)
 ·have qh5 := h5
  try simp only [decide_eq_true_eq, decide_eq_false_iff_not] at qh5
  refine WC.skip (hK4 _ _ (WC.seq (fun K6 hK6 => WC.block (WC.sr (WL.r 2 hs3 [] rfl ?_)))))
  refine WL.val rfl rfl rfl (Run.idxStr Tryz.runUnderlying9 rfl rfl rfl ?_ ?_) ?_
  · omega
  · omega
  refine WL.r 2 hs3 [] rfl ?_
  apply WL.gO 4 Acts.nil hs3 rfl
  ·intro g7 J8
   refine WL.runA tbk 2 (Acts.nil.cons (j := 4) rfl g7) hs3 [] rfl trivial (WL.val (wantF rfl g7) rfl rfl (Run.idxStr Tryz.runUnderlying9 rfl rfl rfl ?_ ?_) ?_)
   · omega
   · omega
   refine WL.runA tbk 1 (Acts.nil.cons (j := 4) rfl g7) hs3 [] rfl trivial (WL.eO 4 Acts.nil J8 hs3 g7 rfl rfl)
  intro _ hs9
  refine WL.r 1 hs9 [] rfl ?_
  apply WL.gA 10 Acts.nil hs9 rfl
  ·intro g10 J11
   refine WL.runA tbk 2 (Acts.nil.cons (j := 10) rfl g10) hs9 [] rfl trivial (WL.val (wantT rfl g10) rfl rfl (Run.idxStr Tryz.runUnderlying9 rfl rfl rfl ?_ ?_) ?_)
   · omega
   · omega
   refine WL.runA tbk 2 (Acts.nil.cons (j := 10) rfl g10) hs9 [] rfl trivial ?_
   apply WL.gO 4 (Acts.nil.cons (j := 10) rfl g10) hs9 rfl
   ·intro g12 J13
    refine WL.runA tbk 2 (Acts.nil.cons (j := 15) rfl g12) hs9 [] rfl trivial (WL.val (wantF rfl g12) rfl rfl (Run.idxStr Tryz.runUnderlying9 rfl rfl rfl ?_ ?_) ?_)
    · omega
    · omega
    refine WL.runA tbk 1 (Acts.nil.cons (j := 15) rfl g12) hs9 [] rfl trivial (WL.eO 4 (Acts.nil.cons (j := 10) rfl g10) J13 hs9 g12 rfl rfl)
   intro _ hs14
   exact WL.eA 6 Acts.nil J11 hs14 g10 rfl rfl
  intro _ hs15
  refine WL.nil (WC.cond rfl (fun h16 => ?_) (fun h16 => ?_))
  ·have qh16 := h16
   try simp only [decide_eq_true_eq, decide_eq_false_iff_not] at qh16
   refine WC.r1 hs15 [] rfl (WC.ret (ibR (tkR (tkR (ibR (tkR ?_))))))
   clear hK6 hK2
   refine rtv rfl rfl hs15 ?_
   have e : plainB ByteArray.empty (sbyte s i) = false := by rw [plainB_empty]; simp only [Int.toNat_natCast] at qh16; exact wordB_not qh16
   simp [wordOk, isPlain, allB_false (by omega) e]
  have qh16 := h16
  try simp only [decide_eq_true_eq, decide_eq_false_iff_not] at qh16
  refine WC.skip (hK6 _ _ (WC.region (WL.r 3 hs15 [] rfl (WL.nil (tkN ?_)))))
  refine ⟨sbF rfl, hs15, _, ?_, i + 1, rfl, ?_, ?_, ⟨rfl, trivial⟩⟩
  · omega
  · omega
  · refine upto_succ p1 ?_; rw [plainB_empty]; simp only [Int.toNat_natCast] at qh16; exact wordB_of qh16
 have qh5 := h5
 try simp only [decide_eq_true_eq, decide_eq_false_iff_not] at qh5
 refine WC.exit (hK2 _ _ (WC.sr (WL.r 4 hs3 [] rfl (WL.pA tbk 3 Acts.nil hs3 [] rfl rfl rfl rfl (fun g_ => trivial) (WL.r 1 hs3 [] rfl (WL.nil (WC.ret ?_)))))))
 refine rtv rfl rfl hs3 ?_
 simp only [wordOk, isPlain, allB_true p1 (by omega), Bool.true_and]; rfl
set_option maxHeartbeats 4000000 in
theorem k111_ (s : StateR) (w : World) (f_s : okStateR 549755813888 w s) (hT : totState s.dat ≤ 1048576) :
    Calls Tryz.prog 61 #[.agg #[i64 s.W, i64 s.H, i64 s.Limit, i64 s.Next, .slice s.Panes.A s.Panes.n s.Panes.c, .slice s.Wins.A s.Wins.n s.Wins.c, .slice s.Sess.A s.Sess.n s.Sess.c]] w fun e w' => e = .returned (.bool (winsOkI s.dat)) ∧ St w [] [] w' := by
 have nb_s_Panes := f_s.Panes_n
 have nl_s_Panes := f_s.Panes.sl.len
 have nb_s_Wins := f_s.Wins_n
 have nl_s_Wins := f_s.Wins.sl.len
 have nb_s_Sess := f_s.Sess_n
 have nl_s_Sess := f_s.Sess.sl.len
 have hsm0 : smState 1048576 s.dat := totState_sm hT
 have hlP : s.dat.Panes.length = s.Panes.xs.length := List.length_map _
 have hlW : s.dat.Wins.length = s.Wins.xs.length := List.length_map _
 have hlS : s.dat.Sess.length = s.Sess.xs.length := List.length_map _
 have hnP : s.dat.Panes.length ≤ 1048576 := hsm0.1
 have hnW : s.dat.Wins.length ≤ 1048576 := hsm0.2.2.1
 have hnS : s.dat.Sess.length ≤ 1048576 := hsm0.2.2.2.2.1
 have hWn : ∀ y, y ∈ s.Wins.xs → y.Tree.n ≤ 1048576 := fun y hy => by have h1 := (f_s.Wins.all y hy).Tree.len; have h2 : y.Tree.xs.length ≤ 1048576 := (hsm0.2.2.2.1 _ (List.mem_map_of_mem hy)).2; omega
 have hWnm : ∀ y, y ∈ s.Wins.xs → y.Name.size ≤ 1048576 := fun y hy => (hsm0.2.2.2.1 _ (List.mem_map_of_mem hy)).1
 refine enter 104 Tryz.func61 rfl Tryz.ntmps61 rfl rfl ?_
 have hs1 := St.init w
 refine WC.sr (WL.bx hs1 rfl (fun b2 _ hs3 => WL.r 1 hs3 [] rfl (WL.nil (WC.sr (WL.buildF (F := encI) hs3 ([]) Tryz.runUnderlying60 Tryz.sizeOf3 Tryz.zeroValue3 rfl rfl rfl rfl rfl rfl rfl rfl rfl rfl rfl rfl (fun A7 c8 L4 whs5 hs5 ho6 => ?_))))))
 replace hs5 := St.back [_] hs5
 refine WL.buildF (F := encI) hs5 ([]) Tryz.runUnderlying60 Tryz.sizeOf3 Tryz.zeroValue3 rfl rfl rfl rfl rfl rfl rfl rfl rfl rfl rfl rfl (fun A12 c13 L9 whs10 hs10 ho11 => ?_)
 replace hs10 := St.back [_] hs10
 refine WL.r 2 hs10 [] rfl (WL.nil (WC.seq (fun K14 hK14 => WC.r1 hs10 [0] rfl (WC.block ?_))))
 refine WC.lO [1, 4, 14, 15] rfl (hs10.fr L4) (fun k_ f L_ => ∃ (zs : List Int) (i : Nat) (A15 : Option Addr) (c16 : Nat), k_ = s.Wins.n - i ∧ (i ≤ s.Wins.n) ∧ (zs = (treesL ((s.Wins.xs.take (i)).map WinR.dat))) ∧ (zs.length ≤ 31 * i) ∧ (∀ j, j < i → winB s.dat (gat encWinR s.Wins.xs j).dat = true ∧ (0 < j → (gat encWinR s.Wins.xs (j - 1)).Id < (gat encWinR s.Wins.xs j).Id)) ∧ OwnF encI 3 (.slice A15 (zs.length) c16) (zs) L_ ∧ Sub [(3, .slice A15 (zs.length) c16), (16, .int .i64 i)] f) (((fun (zs : List Int) (i : Nat) => s.Wins.n - i) ([]) (0))) ?_ ?_
 ·refine ⟨[], 0, _, _, rfl, ?_, ?_, ?_, ?_, ho6, ⟨rfl, rfl, trivial⟩⟩
  · exact Nat.zero_le _
  · rfl
  · exact Nat.le_refl _
  · exact fun j hj => absurd hj (by omega)
 clear hs10
 rintro _ f w L17 ⟨zs, i, A15, c16, rfl, p0, p1, p2, p3, ho18, hG⟩ hF hs19
 refine WC.sub _ (hG.app hF) ?_
 clear hG hF
 replace hs19 := St.back [_] hs19
 refine WC.r1 hs19 [] rfl (WC.seq (fun K20 hK20 => ?_))
 refine WC.cq rfl (fun h21 qh21 => ?_) (fun h21 qh21 => ?_)
 ·have hTm := (SlN.nth f_s.Wins (show i < s.Wins.n by omega))
  have hTl := hTm.Tree.len
  have hWi := hWn (gat encWinR s.Wins.xs i) (gat_mem (by omega))
  have hWj := hWnm (gat encWinR s.Wins.xs i) (gat_mem (by omega))
  have hll := leavesL_len (gat encWinR s.Wins.xs i).Tree.xs
  have hpll := panesL_len (gat encWinR s.Wins.xs i).Tree.xs
  refine WC.skip (hK20 _ _ (WC.seq (fun K22 hK22 => WC.block (WC.sr (WL.r 1 hs19 [] rfl ?_)))))
  refine WL.val rfl rfl rfl (Run.idxN Tryz.runUnderlying30 Tryz.sizeOf58 rfl rfl rfl ?_ ?_ ?_) ?_
  · exact SlF.some_ (SlF.st0 f_s.Wins.sl hs19)
  · first | omega | (simp only [decide_eq_true_eq] at *; omega)
  · first | omega | (simp only [decide_eq_true_eq] at *; omega)
  refine WL.val rfl rfl rfl (Run.loadA Tryz.isAgg58 Tryz.sizeOf58 rfl rfl (SlF.whole (SlF.st0 f_s.Wins.sl hs19) ?_)) ?_
  · first | omega | (simp only [decide_eq_true_eq] at *; omega)
  refine WL.al hs19 Tryz.zeroValue58 rfl rfl (fun b23 _ hs24 => WL.r 1 hs24 [] rfl (WL.st tbk hs24 0 rfl rfl (fun _ hs25 => WL.nil (WC.sr (WL.r 6 hs25 [0, 1, 1] rfl ?_)))))
  refine WL.cl Tryz.call112 rfl (k49_ _ _ _ _ _ _ _ (SlF.st0 (SlN.nth f_s.Wins (by first | omega | (simp only [decide_eq_true_eq] at *; omega))).Tree hs25) ?_) ?_
  · first | assumption | rfl | omega
  rintro _ whs26 ⟨A27, c28, L1_29, rfl, hs26, ho30⟩
  replace hs26 := hs25.callF hs26
  refine ⟨_, rfl, ?_⟩
  replace hs26 := St.back [_, _] hs26
  refine WL.r 5 hs26 [] rfl (WL.nil (WC.seq (fun K31 hK31 => WC.seq (fun K32 hK32 => WC.rH hs26 hs26 (fun _ hs33 => ?_)))))
  refine WH.rn [0, 1, 2, 3] hs33 [0] rfl rfl (WH.split 34 rfl (fun g34 => ?_) (fun g34 => ?_))
  ·refine WH.takeSkip 4 rfl (by kernel_rfl) (wantNF rfl g34) rfl rfl hs33 (WH.takeSkip 5 rfl (by kernel_rfl) (wantNF rfl g34) rfl rfl hs33 (WH.takeSkip 6 rfl (by kernel_rfl) (wantNF rfl g34) rfl rfl hs33 (WH.takeSkip 7 rfl (by kernel_rfl) (wantNF rfl g34) rfl rfl hs33 (WH.takeSkip 8 rfl (by kernel_rfl) (wantNF rfl g34) rfl rfl hs33 ?_))))
   refine WH.take 9 rfl (by kernel_rfl) rfl rfl rfl hs33 (fun w_ hs_ => (Run.pickT rfl rfl g34 rfl)) ?_
   refine WH.rn [10] hs33 [] rfl rfl (WH.takeSkip 11 rfl (by kernel_rfl) (wantNF rfl rfl) rfl rfl hs33 (WH.takeSkip 12 rfl (by kernel_rfl) (wantNF rfl rfl) rfl rfl hs33 (WH.takeSkip 13 rfl (by kernel_rfl) (wantNF rfl rfl) rfl rfl hs33 (WH.takeSkip 14 rfl (by kernel_rfl) rfl rfl rfl hs33 (WH.takeSkip 15 rfl (by kernel_rfl) rfl rfl rfl hs33 (WH.takeSkip 16 rfl (by kernel_rfl) rfl rfl rfl hs33 (WH.takeSkip 17 rfl (by kernel_rfl) rfl rfl rfl hs33 ?_)))))))
   refine WH.takeSkip 18 rfl (by kernel_rfl) rfl rfl rfl hs33 (WH.takeSkip 19 rfl (by kernel_rfl) rfl rfl rfl hs33 (WH.takeSkip 20 rfl (by kernel_rfl) rfl rfl rfl hs33 (WH.takeSkip 21 rfl (by kernel_rfl) rfl rfl rfl hs33 (WH.takeSkip 22 rfl (by kernel_rfl) rfl rfl rfl hs33 (WH.takeSkip 23 rfl (by kernel_rfl) rfl rfl rfl hs33 (WH.takeSkip 24 rfl (by kernel_rfl) (wantNF rfl rfl) rfl rfl hs33 ?_))))))
   refine WH.take 25 rfl (by kernel_rfl) rfl rfl rfl hs33 (fun w_ hs_ => (Run.pickT rfl rfl rfl rfl)) ?_
   refine WH.rn [26] hs33 [] rfl rfl (WH.takeSkip 27 rfl (by kernel_rfl) (wantNF rfl rfl) rfl rfl hs33 (WH.takeSkip 28 rfl (by kernel_rfl) (wantNF rfl rfl) rfl rfl hs33 (WH.o1 29 rfl (WL.skip (wantNF rfl rfl) rfl rfl (WL.nil ⟨hs33, WH.takeSkip 30 rfl (by kernel_rfl) (wantNF rfl rfl) rfl rfl hs33 ?_⟩)))))
   refine WH.take 31 rfl (by kernel_rfl) rfl rfl rfl hs33 (fun w_ hs_ => (Run.pickT rfl rfl rfl rfl)) ?_
   refine WH.rn [32] hs33 [] rfl rfl (WH.takeSkip 33 rfl (by kernel_rfl) (wantNF rfl rfl) rfl rfl hs33 (WH.takeSkip 34 rfl (by kernel_rfl) (wantNF rfl rfl) rfl rfl hs33 ?_))
   refine WH.take 35 rfl (by kernel_rfl) rfl rfl rfl hs33 (fun w_ hs_ => (Run.pickT rfl rfl rfl rfl)) ?_
   refine WH.rn [36] hs33 [] rfl rfl (WH.takeSkip 37 rfl (by kernel_rfl) (wantNF rfl rfl) rfl rfl hs33 (WH.takeSkip 38 rfl (by kernel_rfl) (wantNF rfl rfl) rfl rfl hs33 (WH.takeSkip 40 rfl (by kernel_rfl) (wantNF rfl rfl) rfl rfl hs33 (WH.takeSkip 41 rfl (by kernel_rfl) (wantNF rfl rfl) rfl rfl hs33 (WH.o1 39 rfl (WL.skip (wantNF rfl rfl) rfl rfl (WL.nil ⟨hs33, ?_⟩)))))))
   refine WH.o1 42 rfl (WL.skip (wantNF rfl rfl) rfl rfl (WL.nil ⟨hs33, WH.takeSkip 43 rfl (by kernel_rfl) (wantNF rfl rfl) rfl rfl hs33 ?_⟩))
   refine WH.take 44 rfl (by kernel_rfl) rfl rfl rfl hs33 (fun w_ hs_ => (Run.pickT rfl rfl rfl rfl)) ?_
   refine WH.dn (hK32 _ _ (WC.condT rfl rfl ?_))
   have hbad : winsC s.dat = false := winsI_no (i := i) (by omega) (by
     show (((decide (1 ≤ (gat encWinR s.Wins.xs i).Id) && decide ((gat encWinR s.Wins.xs i).Id < s.Next)) && (wordOk (gat encWinR s.Wins.xs i).Name && placesOk (gat encWinR s.Wins.xs i).Tree.xs s.W s.H)) && hasI (panesL (gat encWinR s.Wins.xs i).Tree.xs) (gat encWinR s.Wins.xs i).Active) = false ∨ _
     grind)
   have hbadI : winsOkI s.dat = false := by unfold winsOkI; rw [hbad, Bool.false_and]
   refine WC.r1 hs33 [] rfl (WC.ret (tkR (ibR (tkR (tkR (ibR (tkR ?_)))))))
   clear hK31 hK22 hK14
   refine rtv rfl rfl hs33 ?_
   first | rw [hbadI] | (rw [htr, hys]; unfold winsOkI perm1; rw [hWc, Bool.true_and]; congr 2; rw [decide_eq_decide]; omega)
  refine WH.rnA (Acts.nil.cons (j := 3) rfl g34) [4, 5, 6, 7, 8] hs33 [0, 1] rfl rfl ?_
  refine WH.take 9 rfl (by kernel_rfl) rfl rfl rfl hs33 (fun w_ hs_ => (Run.pick rfl rfl rfl rfl)) ?_
  refine WH.rn [10] hs33 [] rfl rfl (WH.split 41 rfl (fun g36 => ?_) (fun g36 => ?_))
  ·refine WH.takeSkip 11 rfl (by kernel_rfl) (wantNF rfl g36) rfl rfl hs33 (WH.takeSkip 12 rfl (by kernel_rfl) (wantNF rfl g36) rfl rfl hs33 (WH.takeSkip 13 rfl (by kernel_rfl) (wantNF rfl g36) rfl rfl hs33 (WH.takeSkip 14 rfl (by kernel_rfl) rfl rfl rfl hs33 (WH.takeSkip 15 rfl (by kernel_rfl) rfl rfl rfl hs33 (WH.takeSkip 16 rfl (by kernel_rfl) rfl rfl rfl hs33 (WH.takeSkip 17 rfl (by kernel_rfl) rfl rfl rfl hs33 (WH.takeSkip 18 rfl (by kernel_rfl) rfl rfl rfl hs33 ?_)))))))
   refine WH.takeSkip 19 rfl (by kernel_rfl) rfl rfl rfl hs33 (WH.takeSkip 20 rfl (by kernel_rfl) rfl rfl rfl hs33 (WH.takeSkip 21 rfl (by kernel_rfl) rfl rfl rfl hs33 (WH.takeSkip 22 rfl (by kernel_rfl) rfl rfl rfl hs33 (WH.takeSkip 23 rfl (by kernel_rfl) rfl rfl rfl hs33 (WH.takeSkip 24 rfl (by kernel_rfl) (wantNF rfl g36) rfl rfl hs33 ?_)))))
   refine WH.take 25 rfl (by kernel_rfl) rfl rfl rfl hs33 (fun w_ hs_ => (Run.pickT rfl rfl g36 rfl)) ?_
   refine WH.rn [26] hs33 [] rfl rfl (WH.takeSkip 27 rfl (by kernel_rfl) (wantNF rfl rfl) rfl rfl hs33 (WH.takeSkip 28 rfl (by kernel_rfl) (wantNF rfl rfl) rfl rfl hs33 (WH.o1 29 rfl (WL.skip (wantNF rfl rfl) rfl rfl (WL.nil ⟨hs33, WH.takeSkip 30 rfl (by kernel_rfl) (wantNF rfl rfl) rfl rfl hs33 ?_⟩)))))
   refine WH.take 31 rfl (by kernel_rfl) rfl rfl rfl hs33 (fun w_ hs_ => (Run.pickT rfl rfl rfl rfl)) ?_
   refine WH.rn [32] hs33 [] rfl rfl (WH.takeSkip 33 rfl (by kernel_rfl) (wantNF rfl rfl) rfl rfl hs33 (WH.takeSkip 34 rfl (by kernel_rfl) (wantNF rfl rfl) rfl rfl hs33 ?_))
   refine WH.take 35 rfl (by kernel_rfl) rfl rfl rfl hs33 (fun w_ hs_ => (Run.pickT rfl rfl rfl rfl)) ?_
   refine WH.rn [36] hs33 [] rfl rfl (WH.takeSkip 37 rfl (by kernel_rfl) (wantNF rfl rfl) rfl rfl hs33 (WH.takeSkip 38 rfl (by kernel_rfl) (wantNF rfl rfl) rfl rfl hs33 (WH.takeSkip 40 rfl (by kernel_rfl) (wantNF rfl rfl) rfl rfl hs33 (WH.takeSkip 41 rfl (by kernel_rfl) (wantNF rfl rfl) rfl rfl hs33 (WH.o1 39 rfl (WL.skip (wantNF rfl rfl) rfl rfl (WL.nil ⟨hs33, ?_⟩)))))))
   refine WH.o1 42 rfl (WL.skip (wantNF rfl rfl) rfl rfl (WL.nil ⟨hs33, WH.takeSkip 43 rfl (by kernel_rfl) (wantNF rfl rfl) rfl rfl hs33 ?_⟩))
   refine WH.take 44 rfl (by kernel_rfl) rfl rfl rfl hs33 (fun w_ hs_ => (Run.pickT rfl rfl rfl rfl)) ?_
   refine WH.dn (hK32 _ _ (WC.condT rfl rfl ?_))
   have hbad : winsC s.dat = false := winsI_no (i := i) (by omega) (by
     show (((decide (1 ≤ (gat encWinR s.Wins.xs i).Id) && decide ((gat encWinR s.Wins.xs i).Id < s.Next)) && (wordOk (gat encWinR s.Wins.xs i).Name && placesOk (gat encWinR s.Wins.xs i).Tree.xs s.W s.H)) && hasI (panesL (gat encWinR s.Wins.xs i).Tree.xs) (gat encWinR s.Wins.xs i).Active) = false ∨ _
     grind)
   have hbadI : winsOkI s.dat = false := by unfold winsOkI; rw [hbad, Bool.false_and]
   refine WC.r1 hs33 [] rfl (WC.ret (tkR (ibR (tkR (tkR (ibR (tkR ?_)))))))
   clear hK31 hK22 hK14
   refine rtv rfl rfl hs33 ?_
   first | rw [hbadI] | (rw [htr, hys]; unfold winsOkI perm1; rw [hWc, Bool.true_and]; congr 2; rw [decide_eq_decide]; omega)
  refine WH.rnA (Acts.nil.cons (j := 10) rfl g36) [11, 12, 13] hs33 [] rfl rfl (WH.split 44 rfl (fun g38 => ?_) (fun g38 => ?_))
  ·refine WH.rnA (Acts.nil.cons (j := 13) rfl g38) [14, 15, 16, 17] hs33 [1] rfl rfl ?_
   refine WH.take 18 rfl (by kernel_rfl) (wantT rfl g38) rfl rfl hs33 (fun w_ hs_ => (Run.idxK ((i - 1)) Tryz.runUnderlying30 Tryz.sizeOf58 rfl rfl rfl ?_ ?_ ?_)) ?_
   · exact SlF.some_ (SlF.st0 f_s.Wins.sl (hs_ : St _ _ _ _))
   · first | omega | (simp only [decide_eq_true_eq] at *; omega)
   · first | omega | (simp only [decide_eq_true_eq] at *; omega)
   refine WH.take 19 rfl (by kernel_rfl) (wantT rfl g38) rfl rfl hs33 (fun w_ hs_ => (Run.fieldO Tryz.runUnderlying58 rfl rfl rfl Tryz.sizeOf3 rfl)) ?_
   refine WH.take 20 rfl (by kernel_rfl) (wantT rfl g38) rfl rfl hs33 (fun w_ hs_ => (Run.load Tryz.isAgg3 rfl rfl (SlF.fld (SlF.st0 f_s.Wins.sl (hs_ : St _ _ _ _)) ?_ rfl))) ?_
   · first | omega | (simp only [decide_eq_true_eq] at *; omega)
   refine WH.rnA (Acts.nil.cons (j := 13) rfl g38) [21, 22, 23] hs33 [0] rfl rfl ?_
   refine WH.take 24 rfl (by kernel_rfl) (wantF rfl g36) rfl rfl hs33 (fun w_ hs_ => (Run.pick rfl rfl rfl rfl)) ?_
   refine WH.take 25 rfl (by kernel_rfl) rfl rfl rfl hs33 (fun w_ hs_ => (Run.pick rfl rfl rfl rfl)) ?_
   refine WH.rn [26] hs33 [] rfl rfl (WH.split 57 rfl (fun g39 => ?_) (fun g39 => ?_))
   ·refine WH.takeSkip 27 rfl (by kernel_rfl) (wantNF rfl g39) rfl rfl hs33 (WH.takeSkip 28 rfl (by kernel_rfl) (wantNF rfl g39) rfl rfl hs33 (WH.o1 29 rfl (WL.skip (wantNF rfl g39) rfl rfl (WL.nil ⟨hs33, WH.takeSkip 30 rfl (by kernel_rfl) (wantNF rfl g39) rfl rfl hs33 ?_⟩))))
    refine WH.take 31 rfl (by kernel_rfl) rfl rfl rfl hs33 (fun w_ hs_ => (Run.pickT rfl rfl g39 rfl)) ?_
    refine WH.rn [32] hs33 [] rfl rfl (WH.takeSkip 33 rfl (by kernel_rfl) (wantNF rfl rfl) rfl rfl hs33 (WH.takeSkip 34 rfl (by kernel_rfl) (wantNF rfl rfl) rfl rfl hs33 ?_))
    refine WH.take 35 rfl (by kernel_rfl) rfl rfl rfl hs33 (fun w_ hs_ => (Run.pickT rfl rfl rfl rfl)) ?_
    refine WH.rn [36] hs33 [] rfl rfl (WH.takeSkip 37 rfl (by kernel_rfl) (wantNF rfl rfl) rfl rfl hs33 (WH.takeSkip 38 rfl (by kernel_rfl) (wantNF rfl rfl) rfl rfl hs33 (WH.takeSkip 40 rfl (by kernel_rfl) (wantNF rfl rfl) rfl rfl hs33 (WH.takeSkip 41 rfl (by kernel_rfl) (wantNF rfl rfl) rfl rfl hs33 (WH.o1 39 rfl (WL.skip (wantNF rfl rfl) rfl rfl (WL.nil ⟨hs33, ?_⟩)))))))
    refine WH.o1 42 rfl (WL.skip (wantNF rfl rfl) rfl rfl (WL.nil ⟨hs33, WH.takeSkip 43 rfl (by kernel_rfl) (wantNF rfl rfl) rfl rfl hs33 ?_⟩))
    refine WH.take 44 rfl (by kernel_rfl) rfl rfl rfl hs33 (fun w_ hs_ => (Run.pickT rfl rfl rfl rfl)) ?_
    refine WH.dn (hK32 _ _ (WC.condT rfl rfl ?_))
    have hbad : winsC s.dat = false := winsI_no (i := i) (by omega) (by
      show (((decide (1 ≤ (gat encWinR s.Wins.xs i).Id) && decide ((gat encWinR s.Wins.xs i).Id < s.Next)) && (wordOk (gat encWinR s.Wins.xs i).Name && placesOk (gat encWinR s.Wins.xs i).Tree.xs s.W s.H)) && hasI (panesL (gat encWinR s.Wins.xs i).Tree.xs) (gat encWinR s.Wins.xs i).Active) = false ∨ _
      grind)
    have hbadI : winsOkI s.dat = false := by unfold winsOkI; rw [hbad, Bool.false_and]
    refine WC.r1 hs33 [] rfl (WC.ret (tkR (ibR (tkR (tkR (ibR (tkR ?_)))))))
    clear hK31 hK22 hK14
    refine rtv rfl rfl hs33 ?_
    first | rw [hbadI] | (rw [htr, hys]; unfold winsOkI perm1; rw [hWc, Bool.true_and]; congr 2; rw [decide_eq_decide]; omega)
   refine WH.rnA (Acts.nil.cons (j := 26) rfl g39) [27, 28] hs33 [0] rfl rfl (WH.o1 29 rfl (WL.call (wantF rfl g39) rfl rfl (Run.call Tryz.call123 rfl rfl rfl) (k109_ _ _ ?_) ?_))
   · first | assumption | rfl | omega
   rintro _ whs41 ⟨rfl, hs41⟩
   replace hs41 := hs33.call0 hs41
   refine ⟨_, rfl, WL.nil ⟨hs41, WH.rnA (Acts.nil.cons (j := 26) rfl g39) [30] hs41 [] rfl rfl ?_⟩⟩
   refine WH.take 31 rfl (by kernel_rfl) rfl rfl rfl hs41 (fun w_ hs_ => (Run.pick rfl rfl rfl rfl)) ?_
   refine WH.rn [32] hs41 [] rfl rfl (WH.split 63 rfl (fun g42 => ?_) (fun g42 => ?_))
   ·refine WH.takeSkip 33 rfl (by kernel_rfl) (wantNF rfl g42) rfl rfl hs41 (WH.takeSkip 34 rfl (by kernel_rfl) (wantNF rfl g42) rfl rfl hs41 ?_)
    refine WH.take 35 rfl (by kernel_rfl) rfl rfl rfl hs41 (fun w_ hs_ => (Run.pickT rfl rfl g42 rfl)) ?_
    refine WH.rn [36] hs41 [] rfl rfl (WH.takeSkip 37 rfl (by kernel_rfl) (wantNF rfl rfl) rfl rfl hs41 (WH.takeSkip 38 rfl (by kernel_rfl) (wantNF rfl rfl) rfl rfl hs41 (WH.takeSkip 40 rfl (by kernel_rfl) (wantNF rfl rfl) rfl rfl hs41 (WH.takeSkip 41 rfl (by kernel_rfl) (wantNF rfl rfl) rfl rfl hs41 (WH.o1 39 rfl (WL.skip (wantNF rfl rfl) rfl rfl (WL.nil ⟨hs41, ?_⟩)))))))
    refine WH.o1 42 rfl (WL.skip (wantNF rfl rfl) rfl rfl (WL.nil ⟨hs41, WH.takeSkip 43 rfl (by kernel_rfl) (wantNF rfl rfl) rfl rfl hs41 ?_⟩))
    refine WH.take 44 rfl (by kernel_rfl) rfl rfl rfl hs41 (fun w_ hs_ => (Run.pickT rfl rfl rfl rfl)) ?_
    refine WH.dn (hK32 _ _ (WC.condT rfl rfl ?_))
    have hbad : winsC s.dat = false := winsI_no (i := i) (by omega) (by
      show (((decide (1 ≤ (gat encWinR s.Wins.xs i).Id) && decide ((gat encWinR s.Wins.xs i).Id < s.Next)) && (wordOk (gat encWinR s.Wins.xs i).Name && placesOk (gat encWinR s.Wins.xs i).Tree.xs s.W s.H)) && hasI (panesL (gat encWinR s.Wins.xs i).Tree.xs) (gat encWinR s.Wins.xs i).Active) = false ∨ _
      grind)
    have hbadI : winsOkI s.dat = false := by unfold winsOkI; rw [hbad, Bool.false_and]
    refine WC.r1 hs41 [] rfl (WC.ret (tkR (ibR (tkR (tkR (ibR (tkR ?_)))))))
    clear hK31 hK22 hK14
    refine rtv rfl rfl hs41 ?_
    first | rw [hbadI] | (rw [htr, hys]; unfold winsOkI perm1; rw [hWc, Bool.true_and]; congr 2; rw [decide_eq_decide]; omega)
   refine WH.rnA (Acts.nil.cons (j := 32) rfl g42) [33, 34] hs41 [] rfl rfl ?_
   refine WH.take 35 rfl (by kernel_rfl) rfl rfl rfl hs41 (fun w_ hs_ => (Run.pick rfl rfl rfl rfl)) ?_
   refine WH.rn [36] hs41 [] rfl rfl (WH.split 67 rfl (fun g44 => ?_) (fun g44 => ?_))
   ·refine WH.takeSkip 37 rfl (by kernel_rfl) (wantNF rfl g44) rfl rfl hs41 (WH.takeSkip 38 rfl (by kernel_rfl) (wantNF rfl g44) rfl rfl hs41 (WH.takeSkip 40 rfl (by kernel_rfl) (wantNF rfl g44) rfl rfl hs41 (WH.takeSkip 41 rfl (by kernel_rfl) (wantNF rfl g44) rfl rfl hs41 (WH.o1 39 rfl (WL.skip (wantNF rfl g44) rfl rfl (WL.nil ⟨hs41, WH.o1 42 rfl ?_⟩))))))
    refine WL.skip (wantNF rfl g44) rfl rfl (WL.nil ⟨hs41, WH.takeSkip 43 rfl (by kernel_rfl) (wantNF rfl g44) rfl rfl hs41 ?_⟩)
    refine WH.take 44 rfl (by kernel_rfl) rfl rfl rfl hs41 (fun w_ hs_ => (Run.pickT rfl rfl g44 rfl)) ?_
    refine WH.dn (hK32 _ _ (WC.condT rfl rfl ?_))
    have hbad : winsC s.dat = false := winsI_no (i := i) (by omega) (by
      show (((decide (1 ≤ (gat encWinR s.Wins.xs i).Id) && decide ((gat encWinR s.Wins.xs i).Id < s.Next)) && (wordOk (gat encWinR s.Wins.xs i).Name && placesOk (gat encWinR s.Wins.xs i).Tree.xs s.W s.H)) && hasI (panesL (gat encWinR s.Wins.xs i).Tree.xs) (gat encWinR s.Wins.xs i).Active) = false ∨ _
      grind)
    have hbadI : winsOkI s.dat = false := by unfold winsOkI; rw [hbad, Bool.false_and]
    refine WC.r1 hs41 [] rfl (WC.ret (tkR (ibR (tkR (tkR (ibR (tkR ?_)))))))
    clear hK31 hK22 hK14
    refine rtv rfl rfl hs41 ?_
    first | rw [hbadI] | (rw [htr, hys]; unfold winsOkI perm1; rw [hWc, Bool.true_and]; congr 2; rw [decide_eq_decide]; omega)
   refine WH.rnA (Acts.nil.cons (j := 36) rfl g44) [37, 38, 40, 41] hs41 [0, 0] rfl rfl (WH.o1 39 rfl ?_)
   refine WL.call (wantF rfl g44) rfl rfl (Run.call Tryz.call107 rfl rfl rfl) (k22_ _ _ _ _ _ (SlF.st0 (SlN.nth f_s.Wins (by first | omega | (simp only [decide_eq_true_eq] at *; omega))).Tree hs41) ?_) ?_
   · first | assumption | rfl | omega
   rintro _ whs46 ⟨A47, c48, L1_49, rfl, hs46, ho50⟩
   replace hs46 := hs41.callF hs46
   refine ⟨_, rfl, ?_⟩
   replace hs46 := St.back [_, _] hs46
   refine WL.nil ⟨(hs46.rm L1_49), WH.o1 42 rfl (WL.call (wantF rfl g44) rfl rfl (Run.call Tryz.call46 rfl rfl rfl) (k26_ _ _ _ _ _ _ (SlF.ofOwn ho50 (hs46.ow L1_49)) ?_) ?_)⟩
   · first | assumption | rfl | omega
   rintro _ whs51 ⟨rfl, hs51⟩
   replace hs51 := hs46.call0 hs51
   refine ⟨_, rfl, WL.nil ⟨(hs51.rm L1_49), WH.rnA (Acts.nil.cons (j := 36) rfl g44) [43] (hs51.rm L1_49) [] rfl rfl ?_⟩⟩
   refine WH.take 44 rfl (by kernel_rfl) rfl rfl rfl (hs51.rm L1_49) (fun w_ hs_ => (Run.pick rfl rfl rfl rfl)) ?_
   refine WH.dn (hK32 _ _ ?_)
   refine WC.cq rfl (fun h52 qh52 => ?_) (fun h52 qh52 => ?_)
   ·have hbad : winsC s.dat = false := winsI_no (i := i) (by omega) (by
      show (((decide (1 ≤ (gat encWinR s.Wins.xs i).Id) && decide ((gat encWinR s.Wins.xs i).Id < s.Next)) && (wordOk (gat encWinR s.Wins.xs i).Name && placesOk (gat encWinR s.Wins.xs i).Tree.xs s.W s.H)) && hasI (panesL (gat encWinR s.Wins.xs i).Tree.xs) (gat encWinR s.Wins.xs i).Active) = false ∨ _
      grind)
    have hbadI : winsOkI s.dat = false := by unfold winsOkI; rw [hbad, Bool.false_and]
    refine WC.r1 hs51 [] rfl (WC.ret (tkR (ibR (tkR (tkR (ibR (tkR ?_)))))))
    clear hK31 hK22 hK14
    refine rtv rfl rfl hs51 ?_
    first | rw [hbadI] | (rw [htr, hys]; unfold winsOkI perm1; rw [hWc, Bool.true_and]; congr 2; rw [decide_eq_decide]; omega)
   have hgood : winB s.dat (gat encWinR s.Wins.xs i).dat = true ∧ (0 < i → (gat encWinR s.Wins.xs (i - 1)).Id < (gat encWinR s.Wins.xs i).Id) := by
     show (((decide (1 ≤ (gat encWinR s.Wins.xs i).Id) && decide ((gat encWinR s.Wins.xs i).Id < s.Next)) && (wordOk (gat encWinR s.Wins.xs i).Name && placesOk (gat encWinR s.Wins.xs i).Tree.xs s.W s.H)) && hasI (panesL (gat encWinR s.Wins.xs i).Tree.xs) (gat encWinR s.Wins.xs i).Active) = true ∧ _
     grind
   have hk31 : (panesL (gat encWinR s.Wins.xs i).Tree.xs).length ≤ 31 := by
     have h1_ : (((decide (1 ≤ (gat encWinR s.Wins.xs i).Id) && decide ((gat encWinR s.Wins.xs i).Id < s.Next)) && (wordOk (gat encWinR s.Wins.xs i).Name && placesOk (gat encWinR s.Wins.xs i).Tree.xs s.W s.H)) && hasI (panesL (gat encWinR s.Wins.xs i).Tree.xs) (gat encWinR s.Wins.xs i).Active) = true := hgood.1
     simp only [Bool.and_eq_true, placesOk, sidesOk] at h1_
     have h2_ := treeOk_len h1_.1.2.2.1.1.1
     have h3_ := panesL_len (gat encWinR s.Wins.xs i).Tree.xs
     omega
   refine WC.skip (hK31 _ _ (WC.region (WL.r 3 hs51 [0] rfl ?_)))
   refine WL.cl Tryz.call107 rfl (k22_ _ _ _ _ _ (SlF.st0 (SlN.nth f_s.Wins (by first | omega | (simp only [decide_eq_true_eq] at *; omega))).Tree hs51) ?_) ?_
   · first | assumption | rfl | omega
   rintro _ whs53 ⟨A54, c55, L1_56, rfl, hs53, ho57⟩
   replace hs53 := hs51.callF hs53
   refine ⟨_, rfl, ?_⟩
   replace hs53 := St.back [_, _] hs53
   refine WL.appendG (hs53.fr L17) ho18 (SlF.src (SlF.ofOwn ho57 (hs53.ow L1_56)) Tryz.underlying60) Tryz.underlying60 inf3 rfl rfl rfl rfl rfl rfl rfl rfl rfl rfl ?_ (fun A61 c62 L58 whs59 hs59 ho60 => ?_)
   · first | omega | (simp only [List.length_append, List.length_cons, List.length_nil]; omega)
   replace hs59 := St.back [_, _] hs59
   refine WL.r 1 hs59 [] rfl (WL.nil (hK22 _ _ (WC.region (WL.r 2 hs59 [] rfl (WL.nil (tkN ?_))))))
   replace hs59 := (((hs59.d1.rm L1_56).rm L1_49).rm L1_29)
   refine ⟨sbF rfl, _, (hs59.fr L58), _, ?_, _, i + 1, _, _, rfl, ?_, ?_, ?_, ?_, ho60, ⟨rfl, rfl, trivial⟩⟩
   · omega
   · omega
   · rw [treesL_snoc (by omega), p1]
   · rw [List.length_append]; omega
   · intro j hj; rcases Nat.lt_or_ge j i with h_ | h_
     · exact p3 j h_
     · obtain rfl : j = i := by omega
       exact hgood
  refine WH.takeSkip 14 rfl (by kernel_rfl) (wantNT rfl g38) rfl rfl hs33 (WH.takeSkip 15 rfl (by kernel_rfl) (wantNT rfl g38) rfl rfl hs33 (WH.takeSkip 16 rfl (by kernel_rfl) (wantNT rfl g38) rfl rfl hs33 (WH.takeSkip 17 rfl (by kernel_rfl) (wantNT rfl g38) rfl rfl hs33 (WH.takeSkip 18 rfl (by kernel_rfl) (wantNT rfl g38) rfl rfl hs33 (WH.takeSkip 19 rfl (by kernel_rfl) (wantNT rfl g38) rfl rfl hs33 (WH.takeSkip 20 rfl (by kernel_rfl) (wantNT rfl g38) rfl rfl hs33 (WH.takeSkip 21 rfl (by kernel_rfl) (wantNT rfl g38) rfl rfl hs33 ?_)))))))
  refine WH.takeSkip 22 rfl (by kernel_rfl) (wantNT rfl g38) rfl rfl hs33 (WH.takeSkip 23 rfl (by kernel_rfl) (wantNT rfl g38) rfl rfl hs33 ?_)
  refine WH.take 24 rfl (by kernel_rfl) (wantF rfl g36) rfl rfl hs33 (fun w_ hs_ => (Run.pickF rfl rfl g38 rfl)) ?_
  refine WH.take 25 rfl (by kernel_rfl) rfl rfl rfl hs33 (fun w_ hs_ => (Run.pick rfl rfl rfl rfl)) ?_
  refine WH.rn [26] hs33 [] rfl rfl (WH.split 57 rfl (fun g63 => ?_) (fun g63 => ?_))
  ·refine WH.takeSkip 27 rfl (by kernel_rfl) (wantNF rfl g63) rfl rfl hs33 (WH.takeSkip 28 rfl (by kernel_rfl) (wantNF rfl g63) rfl rfl hs33 (WH.o1 29 rfl (WL.skip (wantNF rfl g63) rfl rfl (WL.nil ⟨hs33, WH.takeSkip 30 rfl (by kernel_rfl) (wantNF rfl g63) rfl rfl hs33 ?_⟩))))
   refine WH.take 31 rfl (by kernel_rfl) rfl rfl rfl hs33 (fun w_ hs_ => (Run.pickT rfl rfl g63 rfl)) ?_
   refine WH.rn [32] hs33 [] rfl rfl (WH.takeSkip 33 rfl (by kernel_rfl) (wantNF rfl rfl) rfl rfl hs33 (WH.takeSkip 34 rfl (by kernel_rfl) (wantNF rfl rfl) rfl rfl hs33 ?_))
   refine WH.take 35 rfl (by kernel_rfl) rfl rfl rfl hs33 (fun w_ hs_ => (Run.pickT rfl rfl rfl rfl)) ?_
   refine WH.rn [36] hs33 [] rfl rfl (WH.takeSkip 37 rfl (by kernel_rfl) (wantNF rfl rfl) rfl rfl hs33 (WH.takeSkip 38 rfl (by kernel_rfl) (wantNF rfl rfl) rfl rfl hs33 (WH.takeSkip 40 rfl (by kernel_rfl) (wantNF rfl rfl) rfl rfl hs33 (WH.takeSkip 41 rfl (by kernel_rfl) (wantNF rfl rfl) rfl rfl hs33 (WH.o1 39 rfl (WL.skip (wantNF rfl rfl) rfl rfl (WL.nil ⟨hs33, ?_⟩)))))))
   refine WH.o1 42 rfl (WL.skip (wantNF rfl rfl) rfl rfl (WL.nil ⟨hs33, WH.takeSkip 43 rfl (by kernel_rfl) (wantNF rfl rfl) rfl rfl hs33 ?_⟩))
   refine WH.take 44 rfl (by kernel_rfl) rfl rfl rfl hs33 (fun w_ hs_ => (Run.pickT rfl rfl rfl rfl)) ?_
   refine WH.dn (hK32 _ _ (WC.condT rfl rfl ?_))
   have hbad : winsC s.dat = false := winsI_no (i := i) (by omega) (by
     show (((decide (1 ≤ (gat encWinR s.Wins.xs i).Id) && decide ((gat encWinR s.Wins.xs i).Id < s.Next)) && (wordOk (gat encWinR s.Wins.xs i).Name && placesOk (gat encWinR s.Wins.xs i).Tree.xs s.W s.H)) && hasI (panesL (gat encWinR s.Wins.xs i).Tree.xs) (gat encWinR s.Wins.xs i).Active) = false ∨ _
     grind)
   have hbadI : winsOkI s.dat = false := by unfold winsOkI; rw [hbad, Bool.false_and]
   refine WC.r1 hs33 [] rfl (WC.ret (tkR (ibR (tkR (tkR (ibR (tkR ?_)))))))
   clear hK31 hK22 hK14
   refine rtv rfl rfl hs33 ?_
   first | rw [hbadI] | (rw [htr, hys]; unfold winsOkI perm1; rw [hWc, Bool.true_and]; congr 2; rw [decide_eq_decide]; omega)
  refine WH.rnA (Acts.nil.cons (j := 26) rfl g63) [27, 28] hs33 [0] rfl rfl (WH.o1 29 rfl (WL.call (wantF rfl g63) rfl rfl (Run.call Tryz.call123 rfl rfl rfl) (k109_ _ _ ?_) ?_))
  · first | assumption | rfl | omega
  rintro _ whs65 ⟨rfl, hs65⟩
  replace hs65 := hs33.call0 hs65
  refine ⟨_, rfl, WL.nil ⟨hs65, WH.rnA (Acts.nil.cons (j := 26) rfl g63) [30] hs65 [] rfl rfl ?_⟩⟩
  refine WH.take 31 rfl (by kernel_rfl) rfl rfl rfl hs65 (fun w_ hs_ => (Run.pick rfl rfl rfl rfl)) ?_
  refine WH.rn [32] hs65 [] rfl rfl (WH.split 63 rfl (fun g66 => ?_) (fun g66 => ?_))
  ·refine WH.takeSkip 33 rfl (by kernel_rfl) (wantNF rfl g66) rfl rfl hs65 (WH.takeSkip 34 rfl (by kernel_rfl) (wantNF rfl g66) rfl rfl hs65 ?_)
   refine WH.take 35 rfl (by kernel_rfl) rfl rfl rfl hs65 (fun w_ hs_ => (Run.pickT rfl rfl g66 rfl)) ?_
   refine WH.rn [36] hs65 [] rfl rfl (WH.takeSkip 37 rfl (by kernel_rfl) (wantNF rfl rfl) rfl rfl hs65 (WH.takeSkip 38 rfl (by kernel_rfl) (wantNF rfl rfl) rfl rfl hs65 (WH.takeSkip 40 rfl (by kernel_rfl) (wantNF rfl rfl) rfl rfl hs65 (WH.takeSkip 41 rfl (by kernel_rfl) (wantNF rfl rfl) rfl rfl hs65 (WH.o1 39 rfl (WL.skip (wantNF rfl rfl) rfl rfl (WL.nil ⟨hs65, ?_⟩)))))))
   refine WH.o1 42 rfl (WL.skip (wantNF rfl rfl) rfl rfl (WL.nil ⟨hs65, WH.takeSkip 43 rfl (by kernel_rfl) (wantNF rfl rfl) rfl rfl hs65 ?_⟩))
   refine WH.take 44 rfl (by kernel_rfl) rfl rfl rfl hs65 (fun w_ hs_ => (Run.pickT rfl rfl rfl rfl)) ?_
   refine WH.dn (hK32 _ _ (WC.condT rfl rfl ?_))
   have hbad : winsC s.dat = false := winsI_no (i := i) (by omega) (by
     show (((decide (1 ≤ (gat encWinR s.Wins.xs i).Id) && decide ((gat encWinR s.Wins.xs i).Id < s.Next)) && (wordOk (gat encWinR s.Wins.xs i).Name && placesOk (gat encWinR s.Wins.xs i).Tree.xs s.W s.H)) && hasI (panesL (gat encWinR s.Wins.xs i).Tree.xs) (gat encWinR s.Wins.xs i).Active) = false ∨ _
     grind)
   have hbadI : winsOkI s.dat = false := by unfold winsOkI; rw [hbad, Bool.false_and]
   refine WC.r1 hs65 [] rfl (WC.ret (tkR (ibR (tkR (tkR (ibR (tkR ?_)))))))
   clear hK31 hK22 hK14
   refine rtv rfl rfl hs65 ?_
   first | rw [hbadI] | (rw [htr, hys]; unfold winsOkI perm1; rw [hWc, Bool.true_and]; congr 2; rw [decide_eq_decide]; omega)
  refine WH.rnA (Acts.nil.cons (j := 32) rfl g66) [33, 34] hs65 [] rfl rfl ?_
  refine WH.take 35 rfl (by kernel_rfl) rfl rfl rfl hs65 (fun w_ hs_ => (Run.pick rfl rfl rfl rfl)) ?_
  refine WH.rn [36] hs65 [] rfl rfl (WH.split 67 rfl (fun g68 => ?_) (fun g68 => ?_))
  ·refine WH.takeSkip 37 rfl (by kernel_rfl) (wantNF rfl g68) rfl rfl hs65 (WH.takeSkip 38 rfl (by kernel_rfl) (wantNF rfl g68) rfl rfl hs65 (WH.takeSkip 40 rfl (by kernel_rfl) (wantNF rfl g68) rfl rfl hs65 (WH.takeSkip 41 rfl (by kernel_rfl) (wantNF rfl g68) rfl rfl hs65 (WH.o1 39 rfl (WL.skip (wantNF rfl g68) rfl rfl (WL.nil ⟨hs65, WH.o1 42 rfl ?_⟩))))))
   refine WL.skip (wantNF rfl g68) rfl rfl (WL.nil ⟨hs65, WH.takeSkip 43 rfl (by kernel_rfl) (wantNF rfl g68) rfl rfl hs65 ?_⟩)
   refine WH.take 44 rfl (by kernel_rfl) rfl rfl rfl hs65 (fun w_ hs_ => (Run.pickT rfl rfl g68 rfl)) ?_
   refine WH.dn (hK32 _ _ (WC.condT rfl rfl ?_))
   have hbad : winsC s.dat = false := winsI_no (i := i) (by omega) (by
     show (((decide (1 ≤ (gat encWinR s.Wins.xs i).Id) && decide ((gat encWinR s.Wins.xs i).Id < s.Next)) && (wordOk (gat encWinR s.Wins.xs i).Name && placesOk (gat encWinR s.Wins.xs i).Tree.xs s.W s.H)) && hasI (panesL (gat encWinR s.Wins.xs i).Tree.xs) (gat encWinR s.Wins.xs i).Active) = false ∨ _
     grind)
   have hbadI : winsOkI s.dat = false := by unfold winsOkI; rw [hbad, Bool.false_and]
   refine WC.r1 hs65 [] rfl (WC.ret (tkR (ibR (tkR (tkR (ibR (tkR ?_)))))))
   clear hK31 hK22 hK14
   refine rtv rfl rfl hs65 ?_
   first | rw [hbadI] | (rw [htr, hys]; unfold winsOkI perm1; rw [hWc, Bool.true_and]; congr 2; rw [decide_eq_decide]; omega)
  refine WH.rnA (Acts.nil.cons (j := 36) rfl g68) [37, 38, 40, 41] hs65 [0, 0] rfl rfl (WH.o1 39 rfl ?_)
  refine WL.call (wantF rfl g68) rfl rfl (Run.call Tryz.call107 rfl rfl rfl) (k22_ _ _ _ _ _ (SlF.st0 (SlN.nth f_s.Wins (by first | omega | (simp only [decide_eq_true_eq] at *; omega))).Tree hs65) ?_) ?_
  · first | assumption | rfl | omega
  rintro _ whs70 ⟨A71, c72, L1_73, rfl, hs70, ho74⟩
  replace hs70 := hs65.callF hs70
  refine ⟨_, rfl, ?_⟩
  replace hs70 := St.back [_, _] hs70
  refine WL.nil ⟨(hs70.rm L1_73), WH.o1 42 rfl (WL.call (wantF rfl g68) rfl rfl (Run.call Tryz.call46 rfl rfl rfl) (k26_ _ _ _ _ _ _ (SlF.ofOwn ho74 (hs70.ow L1_73)) ?_) ?_)⟩
  · first | assumption | rfl | omega
  rintro _ whs75 ⟨rfl, hs75⟩
  replace hs75 := hs70.call0 hs75
  refine ⟨_, rfl, WL.nil ⟨(hs75.rm L1_73), WH.rnA (Acts.nil.cons (j := 36) rfl g68) [43] (hs75.rm L1_73) [] rfl rfl ?_⟩⟩
  refine WH.take 44 rfl (by kernel_rfl) rfl rfl rfl (hs75.rm L1_73) (fun w_ hs_ => (Run.pick rfl rfl rfl rfl)) ?_
  refine WH.dn (hK32 _ _ ?_)
  refine WC.cq rfl (fun h76 qh76 => ?_) (fun h76 qh76 => ?_)
  ·have hbad : winsC s.dat = false := winsI_no (i := i) (by omega) (by
     show (((decide (1 ≤ (gat encWinR s.Wins.xs i).Id) && decide ((gat encWinR s.Wins.xs i).Id < s.Next)) && (wordOk (gat encWinR s.Wins.xs i).Name && placesOk (gat encWinR s.Wins.xs i).Tree.xs s.W s.H)) && hasI (panesL (gat encWinR s.Wins.xs i).Tree.xs) (gat encWinR s.Wins.xs i).Active) = false ∨ _
     grind)
   have hbadI : winsOkI s.dat = false := by unfold winsOkI; rw [hbad, Bool.false_and]
   refine WC.r1 hs75 [] rfl (WC.ret (tkR (ibR (tkR (tkR (ibR (tkR ?_)))))))
   clear hK31 hK22 hK14
   refine rtv rfl rfl hs75 ?_
   first | rw [hbadI] | (rw [htr, hys]; unfold winsOkI perm1; rw [hWc, Bool.true_and]; congr 2; rw [decide_eq_decide]; omega)
  have hgood : winB s.dat (gat encWinR s.Wins.xs i).dat = true ∧ (0 < i → (gat encWinR s.Wins.xs (i - 1)).Id < (gat encWinR s.Wins.xs i).Id) := by
    show (((decide (1 ≤ (gat encWinR s.Wins.xs i).Id) && decide ((gat encWinR s.Wins.xs i).Id < s.Next)) && (wordOk (gat encWinR s.Wins.xs i).Name && placesOk (gat encWinR s.Wins.xs i).Tree.xs s.W s.H)) && hasI (panesL (gat encWinR s.Wins.xs i).Tree.xs) (gat encWinR s.Wins.xs i).Active) = true ∧ _
    grind
  have hk31 : (panesL (gat encWinR s.Wins.xs i).Tree.xs).length ≤ 31 := by
    have h1_ : (((decide (1 ≤ (gat encWinR s.Wins.xs i).Id) && decide ((gat encWinR s.Wins.xs i).Id < s.Next)) && (wordOk (gat encWinR s.Wins.xs i).Name && placesOk (gat encWinR s.Wins.xs i).Tree.xs s.W s.H)) && hasI (panesL (gat encWinR s.Wins.xs i).Tree.xs) (gat encWinR s.Wins.xs i).Active) = true := hgood.1
    simp only [Bool.and_eq_true, placesOk, sidesOk] at h1_
    have h2_ := treeOk_len h1_.1.2.2.1.1.1
    have h3_ := panesL_len (gat encWinR s.Wins.xs i).Tree.xs
    omega
  refine WC.skip (hK31 _ _ (WC.region (WL.r 3 hs75 [0] rfl ?_)))
  refine WL.cl Tryz.call107 rfl (k22_ _ _ _ _ _ (SlF.st0 (SlN.nth f_s.Wins (by first | omega | (simp only [decide_eq_true_eq] at *; omega))).Tree hs75) ?_) ?_
  · first | assumption | rfl | omega
  rintro _ whs77 ⟨A78, c79, L1_80, rfl, hs77, ho81⟩
  replace hs77 := hs75.callF hs77
  refine ⟨_, rfl, ?_⟩
  replace hs77 := St.back [_, _] hs77
  refine WL.appendG (hs77.fr L17) ho18 (SlF.src (SlF.ofOwn ho81 (hs77.ow L1_80)) Tryz.underlying60) Tryz.underlying60 inf3 rfl rfl rfl rfl rfl rfl rfl rfl rfl rfl ?_ (fun A85 c86 L82 whs83 hs83 ho84 => ?_)
  · first | omega | (simp only [List.length_append, List.length_cons, List.length_nil]; omega)
  replace hs83 := St.back [_, _] hs83
  refine WL.r 1 hs83 [] rfl (WL.nil (hK22 _ _ (WC.region (WL.r 2 hs83 [] rfl (WL.nil (tkN ?_))))))
  replace hs83 := (((hs83.d1.rm L1_80).rm L1_73).rm L1_29)
  refine ⟨sbF rfl, _, (hs83.fr L82), _, ?_, _, i + 1, _, _, rfl, ?_, ?_, ?_, ?_, ho84, ⟨rfl, rfl, trivial⟩⟩
  · omega
  · omega
  · rw [treesL_snoc (by omega), p1]
  · rw [List.length_append]; omega
  · intro j hj; rcases Nat.lt_or_ge j i with h_ | h_
    · exact p3 j h_
    · obtain rfl : j = i := by omega
      exact hgood
 have hWc : winsC s.dat = true := winsC_iff.2 fun j hj => p3 j (by omega)
 have htr : zs = treesL s.dat.Wins := by rw [p1, List.take_of_length_le (by omega)]; rfl
 refine WC.exit (hK14 _ _ (WC.seq (fun K87 hK87 => WC.r1 hs19 [0] rfl (WC.block ?_))))
 refine WC.lO [1, 3, 17, 83, 84] rfl (hs19.fr L9) (fun k_ f L_ => ∃ (ys : List Int) (j : Nat) (A88 : Option Addr) (c89 : Nat), k_ = s.Panes.n - j ∧ (j ≤ s.Panes.n) ∧ (ys = (s.Panes.xs.take j).map (·.Id)) ∧ (ys.length ≤ j) ∧ OwnF encI 3 (.slice A88 (ys.length) c89) (ys) L_ ∧ Sub [(4, .slice A88 (ys.length) c89), (85, .int .i64 j)] f) (((fun (ys : List Int) (j : Nat) => s.Panes.n - j) ([]) (0))) ?_ ?_
 ·refine ⟨[], 0, _, _, rfl, ?_, ?_, ?_, ho11, ⟨rfl, rfl, trivial⟩⟩
  · exact Nat.zero_le _
  · rfl
  · exact Nat.le_refl _
 clear hs19
 rintro _ f w L90 ⟨ys, j, A88, c89, rfl, r0, r1, r2, ho91, hG⟩ hF hs92
 refine WC.sub _ (hG.app hF) ?_
 clear hG hF
 replace hs92 := St.back [_] hs92
 refine WC.r1 hs92 [] rfl (WC.seq (fun K93 hK93 => ?_))
 refine WC.cq rfl (fun h94 qh94 => ?_) (fun h94 qh94 => ?_)
 ·refine WC.skip (hK93 _ _ (WC.seq (fun K95 hK95 => WC.block (WC.sr ?_))))
  refine WL.val rfl rfl rfl (Run.idxN Tryz.runUnderlying29 Tryz.sizeOf93 rfl rfl rfl ?_ ?_ ?_) ?_
  · exact SlF.some_ (SlF.st0 f_s.Panes.sl hs92)
  · first | omega | (simp only [decide_eq_true_eq] at *; omega)
  · first | omega | (simp only [decide_eq_true_eq] at *; omega)
  refine WL.val rfl rfl rfl (Run.loadA Tryz.isAgg93 Tryz.sizeOf93 rfl rfl (SlF.whole (SlF.st0 f_s.Panes.sl hs92) ?_)) ?_
  · first | omega | (simp only [decide_eq_true_eq] at *; omega)
  refine WL.al hs92 Tryz.zeroValue93 rfl rfl (fun b96 _ hs97 => WL.st tbk hs97 0 rfl rfl (fun _ hs98 => WL.nil (WC.region (WL.r 3 hs98 [0] rfl (WL.buildSlice hs98 Tryz.runUnderlying60 Tryz.sizeOf3 Tryz.zeroValue3 rfl rfl rfl rfl rfl rfl rfl rfl rfl rfl (fun b99 whs100 hs100 => ?_))))))
  refine WL.appendG (hs100.fr L90) ho91 (srcI1 Tryz.underlying60 (hs100.own _ (nthL_mem (i := 0) rfl)).1) Tryz.underlying60 inf3 rfl rfl rfl rfl rfl rfl rfl rfl rfl rfl ?_ (fun A104 c105 L101 whs102 hs102 ho103 => ?_)
  · first | omega | (simp only [List.length_append, List.length_cons, List.length_nil]; omega)
  replace hs102 := St.back [_, _, _] hs102
  refine WL.r 1 hs102 [] rfl (WL.nil (hK95 _ _ (WC.region (WL.r 2 hs102 [] rfl (WL.nil (tkN ?_))))))
  replace hs102 := hs102.d1.d1
  refine ⟨sbF rfl, _, (hs102.fr L101), _, ?_, _, j + 1, _, _, rfl, ?_, ?_, ?_, ho103, ⟨rfl, rfl, trivial⟩⟩
  · omega
  · omega
  · rw [ids_take (F := encPaneR) (by omega), r1]
  · rw [List.length_append]; simp only [List.length_cons, List.length_nil]; omega
 have hys : ys = pIds s.dat := by rw [r1, List.take_of_length_le (by omega), pIds_R]
 refine WC.exit (hK87 _ _ (WC.sr (WL.r 5 hs92 [0] rfl ?_)))
 apply WL.gA 3 Acts.nil hs92 rfl
 ·intro g106 J107
  have qg106 := g106
  try simp only [bf, within_iff, within_not] at qg106
  refine WL.runA tbk 2 (Acts.nil.cons (j := 4) rfl g106) hs92 [] rfl trivial (WL.call (wantT rfl g106) rfl rfl (Run.call Tryz.call124 rfl rfl rfl) (k105_ _ _ _ _ _ _ _ _ _ (SlF.ofOwn ho18 (hs92.ow L17)) (SlF.ofOwn ho91 (hs92.ow L90)) ?_ ?_) ?_)
  iterate 2 first | assumption | rfl | omega
  rintro _ whs108 ⟨rfl, hs108⟩
  replace hs108 := hs92.call0 hs108
  refine ⟨_, rfl, WL.eA 3 Acts.nil J107 hs108 g106 rfl rfl⟩
 intro _ hs109
 refine WL.r 1 hs109 [] rfl (WL.nil (WC.ret (rtv rfl rfl hs109 ?_)))
 first | rw [hbadI] | (rw [htr, hys]; unfold winsOkI perm1; rw [hWc, Bool.true_and]; congr 2; rw [decide_eq_decide]; omega)
set_option maxHeartbeats 4000000 in
theorem k112_ (s : StateR) (w : World) (f_s : okStateR 549755813888 w s) (hT : totState s.dat ≤ 1048576) :
    Calls Tryz.prog 62 #[.agg #[i64 s.W, i64 s.H, i64 s.Limit, i64 s.Next, .slice s.Panes.A s.Panes.n s.Panes.c, .slice s.Wins.A s.Wins.n s.Wins.c, .slice s.Sess.A s.Sess.n s.Sess.c]] w fun e w' => e = .returned (.bool (sessOkI s.dat)) ∧ St w [] [] w' := by
 have nb_s_Panes := f_s.Panes_n
 have nl_s_Panes := f_s.Panes.sl.len
 have nb_s_Wins := f_s.Wins_n
 have nl_s_Wins := f_s.Wins.sl.len
 have nb_s_Sess := f_s.Sess_n
 have nl_s_Sess := f_s.Sess.sl.len
 have hsm0 : smState 1048576 s.dat := totState_sm hT
 have hlP : s.dat.Panes.length = s.Panes.xs.length := List.length_map _
 have hlW : s.dat.Wins.length = s.Wins.xs.length := List.length_map _
 have hlS : s.dat.Sess.length = s.Sess.xs.length := List.length_map _
 have hnP : s.dat.Panes.length ≤ 1048576 := hsm0.1
 have hnW : s.dat.Wins.length ≤ 1048576 := hsm0.2.2.1
 have hnS : s.dat.Sess.length ≤ 1048576 := hsm0.2.2.2.2.1
 have hWn : ∀ y, y ∈ s.Wins.xs → y.Tree.n ≤ 1048576 := fun y hy => by have h1 := (f_s.Wins.all y hy).Tree.len; have h2 : y.Tree.xs.length ≤ 1048576 := (hsm0.2.2.2.1 _ (List.mem_map_of_mem hy)).2; omega
 have hSnm : ∀ y, y ∈ s.Sess.xs → y.Name.size ≤ 1048576 ∧ y.Wins.xs.length ≤ 1048576 := fun y hy => hsm0.2.2.2.2.2 _ (List.mem_map_of_mem hy)
 refine enter 66 Tryz.func62 rfl Tryz.ntmps62 rfl rfl ?_
 have hs1 := St.init w
 refine WC.sr (WL.bx hs1 rfl (fun b2 _ hs3 => WL.r 1 hs3 [] rfl (WL.nil (WC.sr (WL.buildF (F := encI) hs3 ([]) Tryz.runUnderlying60 Tryz.sizeOf3 Tryz.zeroValue3 rfl rfl rfl rfl rfl rfl rfl rfl rfl rfl rfl rfl (fun A7 c8 L4 whs5 hs5 ho6 => ?_))))))
 replace hs5 := St.back [_] hs5
 refine WL.buildF (F := encI) hs5 ([]) Tryz.runUnderlying60 Tryz.sizeOf3 Tryz.zeroValue3 rfl rfl rfl rfl rfl rfl rfl rfl rfl rfl rfl rfl (fun A12 c13 L9 whs10 hs10 ho11 => ?_)
 replace hs10 := St.back [_] hs10
 refine WL.r 2 hs10 [] rfl (WL.nil (WC.seq (fun K14 hK14 => WC.r1 hs10 [0] rfl (WC.block ?_))))
 refine WC.lO [1, 4, 12, 13] rfl (hs10.fr L4) (fun k_ f L_ => ∃ (zs : List Int) (i : Nat) (A15 : Option Addr) (c16 : Nat), k_ = s.Sess.n - i ∧ (i ≤ s.Sess.n) ∧ (zs = (sessL ((s.Sess.xs.take (i)).map SessR.dat))) ∧ (∀ j, j < i → sessB (gat encSessR s.Sess.xs j).dat = true ∧ findI (fun q : SessD => decide (q.Name = (gat encSessR s.Sess.xs j).Name)) s.dat.Sess = j) ∧ OwnF encI 3 (.slice A15 (zs.length) c16) (zs) L_ ∧ Sub [(3, .slice A15 (zs.length) c16), (14, .int .i64 i)] f) (((fun (zs : List Int) (i : Nat) => s.Sess.n - i) ([]) (0))) ?_ ?_
 ·refine ⟨[], 0, _, _, rfl, ?_, ?_, ?_, ho6, ⟨rfl, rfl, trivial⟩⟩
  · exact Nat.zero_le _
  · rfl
  · exact fun j hj => absurd hj (by omega)
 clear hs10
 rintro _ f w L17 ⟨zs, i, A15, c16, rfl, p0, p1, p2, ho18, hG⟩ hF hs19
 refine WC.sub _ (hG.app hF) ?_
 clear hG hF
 replace hs19 := St.back [_] hs19
 refine WC.r1 hs19 [] rfl (WC.seq (fun K20 hK20 => ?_))
 refine WC.cq rfl (fun h21 qh21 => ?_) (fun h21 qh21 => ?_)
 ·have hTm := (SlN.nth f_s.Sess (show i < s.Sess.n by omega))
  have hTl := hTm.Wins.len
  have hWi := hSnm (gat encSessR s.Sess.xs i) (gat_mem (by omega))
  have hzl := sessL_take_le (i := i) hT
  rw [← p1] at hzl
  have hzl2 := sessL_take_le (i := i + 1) hT
  rw [sessL_snoc (by omega), List.length_append, ← p1] at hzl2
  refine WC.skip (hK20 _ _ (WC.seq (fun K22 hK22 => WC.block (WC.sr (WL.r 1 hs19 [] rfl ?_)))))
  refine WL.val rfl rfl rfl (Run.idxN Tryz.runUnderlying31 Tryz.sizeOf106 rfl rfl rfl ?_ ?_ ?_) ?_
  · exact SlF.some_ (SlF.st0 f_s.Sess.sl hs19)
  · first | omega | (simp only [decide_eq_true_eq] at *; omega)
  · first | omega | (simp only [decide_eq_true_eq] at *; omega)
  refine WL.val rfl rfl rfl (Run.loadA Tryz.isAgg106 Tryz.sizeOf106 rfl rfl (SlF.whole (SlF.st0 f_s.Sess.sl hs19) ?_)) ?_
  · first | omega | (simp only [decide_eq_true_eq] at *; omega)
  refine WL.al hs19 Tryz.zeroValue106 rfl rfl (fun b23 _ hs24 => WL.r 1 hs24 [] rfl (WL.st tbk hs24 0 rfl rfl (fun _ hs25 => WL.nil (WC.seq (fun K26 hK26 => WC.sr (WL.r 2 hs25 [0] rfl ?_))))))
  refine WL.cl Tryz.call123 rfl (k109_ _ _ ?_) ?_
  · first | assumption | rfl | omega | (rw [p1]; omega)
  rintro _ whs27 ⟨rfl, hs27⟩
  replace hs27 := hs25.call0 hs27
  refine ⟨_, rfl, WL.r 2 hs27 [] rfl ?_⟩
  apply WL.gO 6 Acts.nil hs27 rfl
  ·intro g28 J29
   have qg28 := g28
   try simp only [bf, within_iff, within_not] at qg28
   refine WL.runA tbk 3 (Acts.nil.cons (j := 4) rfl g28) hs27 [1, 0] rfl ⟨rfl, rfl, trivial⟩ (WL.call (wantF rfl g28) rfl rfl (Run.call Tryz.call125 rfl rfl rfl) (k64_ s _ _ (okStateR.st0 f_s hs27)) ?_)
   rintro _ whs30 ⟨rfl, hs30⟩
   replace hs30 := hs27.call0 hs30
   refine ⟨_, rfl, WL.runA tbk 2 (Acts.nil.cons (j := 4) rfl g28) hs30 [] rfl trivial (WL.eO 6 Acts.nil J29 hs30 g28 rfl rfl)⟩
  intro _ hs31
  refine WL.r 1 hs31 [] rfl ?_
  apply WL.gO 6 Acts.nil hs31 rfl
  ·intro g32 J33
   have qg32 := g32
   try simp only [bf, within_iff, within_not] at qg32
   refine WL.runA tbk 4 (Acts.nil.cons (j := 12) rfl g32) hs31 [0, 0] rfl ⟨rfl, rfl, trivial⟩ ?_
   refine WL.call (wantF rfl g32) rfl rfl (Run.call Tryz.call46 rfl rfl rfl) (k26_ _ _ _ _ _ _ (SlF.st0 (SlN.nth f_s.Sess (by first | omega | (simp only [decide_eq_true_eq] at *; omega))).Wins hs31) ?_) ?_
   · first | assumption | rfl | omega | (rw [p1]; omega)
   rintro _ whs34 ⟨rfl, hs34⟩
   replace hs34 := hs31.call0 hs34
   refine ⟨_, rfl, WL.runA tbk 1 (Acts.nil.cons (j := 12) rfl g32) hs34 [] rfl trivial (WL.eO 6 Acts.nil J33 hs34 g32 rfl rfl)⟩
  intro _ hs35
  refine WL.nil (WC.cq rfl (fun h36 qh36 => ?_) (fun h36 qh36 => ?_))
  ·have hbad : sessC s.dat = false := sessC_no (i := i) (by omega) (by
     show (wordOk (gat encSessR s.Sess.xs i).Name && hasI (gat encSessR s.Sess.xs i).Wins.xs (gat encSessR s.Sess.xs i).Active) = false ∨ _
     grind)
   have hbadI : sessOkI s.dat = false := by unfold sessOkI; rw [hbad, Bool.false_and]
   refine WC.r1 hs35 [] rfl (WC.ret (tkR (ibR (tkR (tkR (ibR (tkR ?_)))))))
   clear hK26 hK22 hK14
   refine rtv rfl rfl hs35 ?_
   first | rw [hbadI] | (rw [htr, hys]; unfold sessOkI perm2; rw [hWc, Bool.true_and]; congr 2; rw [decide_eq_decide]; omega)
  have hgood : sessB (gat encSessR s.Sess.xs i).dat = true ∧ findI (fun q : SessD => decide (q.Name = (gat encSessR s.Sess.xs i).Name)) s.dat.Sess = i := by
    show (wordOk (gat encSessR s.Sess.xs i).Name && hasI (gat encSessR s.Sess.xs i).Wins.xs (gat encSessR s.Sess.xs i).Active) = true ∧ _
    grind
  refine WC.skip (hK26 _ _ (WC.region (WL.r 3 hs35 [0] rfl ?_)))
  refine WL.appendG (hs35.fr L17) ho18 (SlF.src (SlF.st0 (SlN.nth f_s.Sess (by first | omega | (simp only [decide_eq_true_eq] at *; omega))).Wins hs35) Tryz.underlying60) Tryz.underlying60 inf3 rfl rfl rfl rfl rfl rfl rfl rfl rfl rfl ?_ (fun A40 c41 L37 whs38 hs38 ho39 => ?_)
  · first | omega | (simp only [List.length_append, List.length_cons, List.length_nil]; omega)
  replace hs38 := St.back [_, _] hs38
  refine WL.r 1 hs38 [] rfl (WL.nil (hK22 _ _ (WC.region (WL.r 2 hs38 [] rfl (WL.nil (tkN ?_))))))
  replace hs38 := hs38.d1
  refine ⟨sbF rfl, _, (hs38.fr L37), _, ?_, _, i + 1, _, _, rfl, ?_, ?_, ?_, ho39, ⟨rfl, rfl, trivial⟩⟩
  · omega
  · omega
  · rw [sessL_snoc (by omega), p1]
  · intro j hj; rcases Nat.lt_or_ge j i with h_ | h_
    · exact p2 j h_
    · obtain rfl : j = i := by omega
      exact hgood
 have hWc : sessC s.dat = true := sessC_yes fun j hj => p2 j (by omega)
 have htr : zs = sessL s.dat.Sess := by rw [p1, List.take_of_length_le (by omega)]; rfl
 refine WC.exit (hK14 _ _ (WC.seq (fun K42 hK42 => WC.r1 hs19 [0] rfl (WC.block ?_))))
 refine WC.lO [1, 3, 15, 45, 46] rfl (hs19.fr L9) (fun k_ f L_ => ∃ (ys : List Int) (j : Nat) (A43 : Option Addr) (c44 : Nat), k_ = s.Wins.n - j ∧ (j ≤ s.Wins.n) ∧ (ys = (s.Wins.xs.take j).map (·.Id)) ∧ (ys.length ≤ j) ∧ OwnF encI 3 (.slice A43 (ys.length) c44) (ys) L_ ∧ Sub [(4, .slice A43 (ys.length) c44), (47, .int .i64 j)] f) (((fun (ys : List Int) (j : Nat) => s.Wins.n - j) ([]) (0))) ?_ ?_
 ·refine ⟨[], 0, _, _, rfl, ?_, ?_, ?_, ho11, ⟨rfl, rfl, trivial⟩⟩
  · exact Nat.zero_le _
  · rfl
  · exact Nat.le_refl _
 clear hs19
 rintro _ f w L45 ⟨ys, j, A43, c44, rfl, r0, r1, r2, ho46, hG⟩ hF hs47
 refine WC.sub _ (hG.app hF) ?_
 clear hG hF
 replace hs47 := St.back [_] hs47
 refine WC.r1 hs47 [] rfl (WC.seq (fun K48 hK48 => ?_))
 refine WC.cq rfl (fun h49 qh49 => ?_) (fun h49 qh49 => ?_)
 ·refine WC.skip (hK48 _ _ (WC.seq (fun K50 hK50 => WC.block (WC.sr ?_))))
  refine WL.val rfl rfl rfl (Run.idxN Tryz.runUnderlying30 Tryz.sizeOf58 rfl rfl rfl ?_ ?_ ?_) ?_
  · exact SlF.some_ (SlF.st0 f_s.Wins.sl hs47)
  · first | omega | (simp only [decide_eq_true_eq] at *; omega)
  · first | omega | (simp only [decide_eq_true_eq] at *; omega)
  refine WL.val rfl rfl rfl (Run.loadA Tryz.isAgg58 Tryz.sizeOf58 rfl rfl (SlF.whole (SlF.st0 f_s.Wins.sl hs47) ?_)) ?_
  · first | omega | (simp only [decide_eq_true_eq] at *; omega)
  refine WL.al hs47 Tryz.zeroValue58 rfl rfl (fun b51 _ hs52 => WL.st tbk hs52 0 rfl rfl (fun _ hs53 => WL.nil (WC.region (WL.r 3 hs53 [0] rfl (WL.buildSlice hs53 Tryz.runUnderlying60 Tryz.sizeOf3 Tryz.zeroValue3 rfl rfl rfl rfl rfl rfl rfl rfl rfl rfl (fun b54 whs55 hs55 => ?_))))))
  refine WL.appendG (hs55.fr L45) ho46 (srcI1 Tryz.underlying60 (hs55.own _ (nthL_mem (i := 0) rfl)).1) Tryz.underlying60 inf3 rfl rfl rfl rfl rfl rfl rfl rfl rfl rfl ?_ (fun A59 c60 L56 whs57 hs57 ho58 => ?_)
  · first | omega | (simp only [List.length_append, List.length_cons, List.length_nil]; omega)
  replace hs57 := St.back [_, _, _] hs57
  refine WL.r 1 hs57 [] rfl (WL.nil (hK50 _ _ (WC.region (WL.r 2 hs57 [] rfl (WL.nil (tkN ?_))))))
  replace hs57 := hs57.d1.d1
  refine ⟨sbF rfl, _, (hs57.fr L56), _, ?_, _, j + 1, _, _, rfl, ?_, ?_, ?_, ho58, ⟨rfl, rfl, trivial⟩⟩
  · omega
  · omega
  · rw [ids_take (F := encWinR) (by omega), r1]
  · rw [List.length_append]; simp only [List.length_cons, List.length_nil]; omega
 have hys : ys = wIds s.dat := by rw [r1, List.take_of_length_le (by omega), wIds_R]
 have hzl := sessL_take_le (i := i) hT
 refine WC.exit (hK42 _ _ (WC.sr (WL.r 5 hs47 [0] rfl ?_)))
 apply WL.gA 3 Acts.nil hs47 rfl
 ·intro g61 J62
  have qg61 := g61
  try simp only [bf, within_iff, within_not] at qg61
  refine WL.runA tbk 2 (Acts.nil.cons (j := 4) rfl g61) hs47 [] rfl trivial (WL.call (wantT rfl g61) rfl rfl (Run.call Tryz.call124 rfl rfl rfl) (k105_ _ _ _ _ _ _ _ _ _ (SlF.ofOwn ho18 (hs47.ow L17)) (SlF.ofOwn ho46 (hs47.ow L45)) ?_ ?_) ?_)
  iterate 2 first | assumption | rfl | omega | (rw [p1]; omega)
  rintro _ whs63 ⟨rfl, hs63⟩
  replace hs63 := hs47.call0 hs63
  refine ⟨_, rfl, WL.eA 3 Acts.nil J62 hs63 g61 rfl rfl⟩
 intro _ hs64
 refine WL.r 1 hs64 [] rfl (WL.nil (WC.ret (rtv rfl rfl hs64 ?_)))
 first | rw [hbadI] | (rw [htr, hys]; unfold sessOkI perm2; rw [hWc, Bool.true_and]; congr 2; rw [decide_eq_decide]; omega)
theorem k113_ (q : PaneR) (b_s : Nat) (s : StateR) (w : World) (f_q : okPaneR 549755813888 w q) (f_b : SlF encStateR w (some ⟨b_s, 0, none⟩) 1 [s]) (f_s : okStateR 549755813888 w s) (hT : totState s.dat ≤ 1048576) :
    Calls Tryz.prog 64 #[.agg #[i64 q.Id, .string q.Cmd, .string q.Dir, i64 q.Life, i64 q.Code, i64 q.Pid, i64 q.Term.P.State, .bool q.Term.P.Mark, .slice q.Term.P.Args.A q.Term.P.Args.n q.Term.P.Args.c, .slice q.Term.P.Part.A q.Term.P.Part.n q.Term.P.Part.c, i64 q.Term.S.W, i64 q.Term.S.H, i64 q.Term.S.Main.W, i64 q.Term.S.Main.H, .slice q.Term.S.Main.Cells.A q.Term.S.Main.Cells.n q.Term.S.Main.Cells.c, i64 q.Term.S.Alt.W, i64 q.Term.S.Alt.H, .slice q.Term.S.Alt.Cells.A q.Term.S.Alt.Cells.n q.Term.S.Alt.Cells.c, .bool q.Term.S.OnAlt, i64 q.Term.S.X, i64 q.Term.S.Y, .bool q.Term.S.Wrap, i64 q.Term.S.A.Fg, i64 q.Term.S.A.Bg, .bool q.Term.S.A.Bold, .bool q.Term.S.A.Under, .bool q.Term.S.A.Turn, i64 q.Term.S.Top, i64 q.Term.S.Bot, .bool q.Term.S.NoWrap, .bool q.Term.S.Hide, i64 q.Term.S.SaveX, i64 q.Term.S.SaveY, i64 q.Term.S.SaveA.Fg, i64 q.Term.S.SaveA.Bg, .bool q.Term.S.SaveA.Bold, .bool q.Term.S.SaveA.Under, .bool q.Term.S.SaveA.Turn, .slice q.Term.S.Tabs.A q.Term.S.Tabs.n q.Term.S.Tabs.c, i64 q.Term.S.Limit, .slice q.Term.S.Back.A q.Term.S.Back.n q.Term.S.Back.c], .pointer (some ⟨b_s, 0, none⟩)] w fun e w' => e = .returned (.bool (!areaB s.dat q.dat)) ∧ St w [] [] w' := by
 have nz_q_Cmd := f_q.Cmd_z
 have nz_q_Dir := f_q.Dir_z
 have nb_q_Term_P_Args := f_q.Term.P.Args_n
 have nl_q_Term_P_Args := f_q.Term.P.Args.len
 have nb_q_Term_P_Part := f_q.Term.P.Part_n
 have nl_q_Term_P_Part := f_q.Term.P.Part.len
 have nb_q_Term_S_Main_Cells := f_q.Term.S.Main.Cells_n
 have nl_q_Term_S_Main_Cells := f_q.Term.S.Main.Cells.len
 have nb_q_Term_S_Alt_Cells := f_q.Term.S.Alt.Cells_n
 have nl_q_Term_S_Alt_Cells := f_q.Term.S.Alt.Cells.len
 have nb_q_Term_S_Tabs := f_q.Term.S.Tabs_n
 have nl_q_Term_S_Tabs := f_q.Term.S.Tabs.len
 have nb_q_Term_S_Back := f_q.Term.S.Back_n
 have nl_q_Term_S_Back := f_q.Term.S.Back.sl.len
 refine enter 27 Tryz.func64 rfl Tryz.ntmps64 rfl rfl ?_
 have hs1 := St.init w
 refine WC.sr (WL.bx hs1 rfl (fun b2 _ hs3 => WL.r 1 hs3 [] rfl (WL.nil (WC.sr (WL.val rfl rfl rfl (Run.loadA Tryz.isAgg33 Tryz.sizeOf33 rfl rfl (SlF.varA (SlF.st0 f_b hs3))) (WL.r 2 hs3 [0] rfl ?_))))))
 refine WL.cl Tryz.call17 rfl (k55_ s _ _ (okStateR.st0 f_s hs3) ?_) ?_
 · first | assumption | rfl | omega
 rintro _ whs4 ⟨rfl, hs4⟩
 replace hs4 := hs3.call0 hs4
 refine ⟨_, rfl, WL.r 5 hs4 [] rfl (WL.nil (WC.sr (WL.r 7 hs4 [0] rfl (WL.pO tbk 6 Acts.nil hs4 [0] rfl rfl rfl rfl (fun g_ => ⟨rfl, trivial⟩) (WL.r 1 hs4 [] rfl (WL.nil ?_))))))⟩
 refine WC.ret (retV1 rfl (resV.tmp rfl) (⟨congrArg Ending.returned (congrArg Value.bool ?_), hs4.nil⟩))
 show _ = !decide (areaD s.dat q.Id = (q.Term.S.W, q.Term.S.H))
 rw [Bool.eq_iff_iff]; simp [Prod.ext_iff]; grind
theorem k114_ (A_s_ : Option Addr) (n_s_ c_s_ : Nat) (s_ : List PaneR) (b_s : Nat) (s : StateR) (w : World) (f_s_ : SlN encPaneR (okPaneR 549755813888) w A_s_ n_s_ s_) (f_b : SlF encStateR w (some ⟨b_s, 0, none⟩) 1 [s]) (f_s : okStateR 549755813888 w s) (hn : n_s_ ≤ 549755813888) (hT : totState s.dat ≤ 1048576) :
    Calls Tryz.prog 126 #[.slice A_s_ n_s_ c_s_, .func (.func 64) #[] #[.pointer (some ⟨b_s, 0, none⟩)]] w fun e w' => e = .returned (.int .i64 (findI (fun q : PaneR => !areaB s.dat q.dat) s_)) ∧ St w [] [] w' := by
 have hsl := f_s_.sl.len
 refine enter 19 Tryz.func126 rfl Tryz.ntmps126 rfl rfl ?_
 have hs1 := St.init w
 refine WC.r1 hs1 [] rfl (WC.seq (fun K2 hK2 => WC.r1 hs1 [] rfl (WC.block ?_)))
 refine WC.lS [0, 1, 7] rfl hs1 (fun k_ f w' => ∃ (i : Nat), k_ = n_s_ - i ∧ (i ≤ n_s_) ∧ (∀ j, j < i → (fun q : PaneR => !areaB s.dat q.dat) (gat encPaneR s_ j) = false) ∧ Sub [(8, .int .i64 i)] f) ((fun (i : Nat) => n_s_ - i) (0)) ?_ ?_
 ·refine ⟨0, rfl, ?_, ?_, ⟨rfl, trivial⟩⟩
  · exact Nat.zero_le _
  · exact fun j hj => absurd hj (by omega)
 clear hs1
 rintro _ f w ⟨i, rfl, p0, p1, hG⟩ hF hs3
 refine WC.sub _ (hG.app hF) ?_
 clear hG hF
 refine WC.r1 hs3 [] rfl (WC.seq (fun K4 hK4 => ?_))
 refine WC.cq rfl (fun h5 qh5 => ?_) (fun h5 qh5 => ?_)
 ·refine WC.skip (hK4 _ _ (WC.seq (fun K6 hK6 => WC.block (WC.r1 hs3 [] rfl (WC.sr (WL.r 3 hs3 [] rfl ?_))))))
  refine WL.val rfl rfl rfl (Run.idxN Tryz.runUnderlying29 Tryz.sizeOf93 rfl rfl rfl ?_ ?_ ?_) ?_
  · exact SlF.some_ (SlF.st0 f_s_.sl hs3)
  · omega
  · omega
  refine WL.val rfl rfl rfl (Run.loadA Tryz.isAgg93 Tryz.sizeOf93 rfl rfl (SlF.whole (SlF.st0 f_s_.sl hs3) ?_)) ?_
  · omega
  refine WL.call rfl rfl rfl (Run.callC Tryz.call64 rfl rfl rfl) (k113_ (gat encPaneR s_ i) _ _ _ (okPaneR.st0 (SlN.nth f_s_ (by omega)) hs3) (SlF.st0 f_b hs3) (okStateR.st0 f_s hs3) ?_) ?_
  · first | assumption | rfl | omega
  rintro _ whs7 ⟨rfl, hs7⟩
  replace hs7 := hs3.call0 hs7
  refine ⟨_, rfl, WL.nil (WC.cq rfl (fun h8 qh8 => ?_) (fun h8 qh8 => ?_))⟩
  ·refine WC.r1 hs7 [] rfl (WC.ret (ibR (tkR (tkR (ibR (tkR ?_))))))
   clear hK6 hK2
   refine rtv rfl rfl hs7 ?_
   rw [findI_some (F := encPaneR) (i := i) (by omega) p1 h8]
  refine WC.skip (hK6 _ _ (WC.region (WL.r 2 hs7 [] rfl (WL.nil (tkN ?_)))))
  refine ⟨sbF rfl, hs7, _, ?_, i + 1, rfl, ?_, ?_, ⟨rfl, trivial⟩⟩
  · omega
  · omega
  · intro j hj; rcases Nat.lt_or_ge j i with h_ | h_
    · exact p1 j h_
    · obtain rfl : j = i := by omega
      exact h8
 refine WC.exit (hK2 _ _ (WC.r1 hs3 [] rfl (WC.ret (rtv rfl rfl hs3 ?_))))
 rw [findI_none (F := encPaneR) (fun j hj => p1 j (by omega))]
theorem k115_ (A_s_ : Option Addr) (n_s_ c_s_ : Nat) (s_ : List PaneR) (b_s : Nat) (s : StateR) (w : World) (f_s_ : SlN encPaneR (okPaneR 549755813888) w A_s_ n_s_ s_) (f_b : SlF encStateR w (some ⟨b_s, 0, none⟩) 1 [s]) (f_s : okStateR 549755813888 w s) (hn : n_s_ ≤ 549755813888) (hT : totState s.dat ≤ 1048576) :
    Calls Tryz.prog 63 #[.slice A_s_ n_s_ c_s_, .func (.func 64) #[] #[.pointer (some ⟨b_s, 0, none⟩)]] w fun e w' => e = .returned (.bool (decide (0 ≤ findI (fun q : PaneR => !areaB s.dat q.dat) s_))) ∧ St w [] [] w' := by
 refine enter 9 Tryz.func63 rfl Tryz.ntmps63 rfl rfl ?_
 have hs1 := St.init w
 refine WC.r1 hs1 [] rfl (WC.sr (WL.r 2 hs1 [] rfl (WL.cl Tryz.call126 rfl (k114_ _ _ _ _ _ _ _ (SlN.st0 okPaneR.st0 f_s_ hs1) (SlF.st0 f_b hs1) (okStateR.st0 f_s hs1) ?_ ?_) ?_)))
 iterate 2 first | assumption | rfl | omega
 rintro _ whs2 ⟨rfl, hs2⟩
 replace hs2 := hs1.call0 hs2
 refine ⟨_, rfl, WL.r 2 hs2 [] rfl (WL.nil (WC.ret (rtv rfl rfl hs2 ?_)))⟩
 rfl
set_option maxHeartbeats 4000000 in
theorem k116_ (s : StateR) (w : World) (f_s : okStateR 549755813888 w s) (hT : totState s.dat ≤ 1048576) :
    Calls Tryz.prog 19 #[.agg #[i64 s.W, i64 s.H, i64 s.Limit, i64 s.Next, .slice s.Panes.A s.Panes.n s.Panes.c, .slice s.Wins.A s.Wins.n s.Wins.c, .slice s.Sess.A s.Sess.n s.Sess.c]] w fun e w' => e = .returned (.bool (stateOk s.dat)) ∧ St w [] [] w' := by
 have nb_s_Panes := f_s.Panes_n
 have nl_s_Panes := f_s.Panes.sl.len
 have nb_s_Wins := f_s.Wins_n
 have nl_s_Wins := f_s.Wins.sl.len
 have nb_s_Sess := f_s.Sess_n
 have nl_s_Sess := f_s.Sess.sl.len
 refine enter 41 Tryz.func19 rfl Tryz.ntmps19 rfl rfl ?_
 have hs1 := St.init w
 refine WC.sr (WL.bx hs1 rfl (fun b2 _ hs3 => WL.r 1 hs3 [] rfl (WL.nil (WC.seq (fun K4 hK4 => WC.sr (WL.r 4 hs3 [0, 0] rfl (WL.cl Tryz.call57 rfl (k87_ _ _ _) ?_)))))))
 rintro _ whs5 ⟨rfl, hs5⟩
 replace hs5 := hs3.call0 hs5
 refine ⟨_, rfl, WL.r 2 hs5 [] rfl ?_⟩
 apply WL.gO 4 Acts.nil hs5 rfl
 ·intro g6 J7
  have qg6 := g6
  try simp only [bf, within_iff, within_not] at qg6
  refine WL.runA tbk 2 (Acts.nil.cons (j := 6) rfl g6) hs5 [0] rfl ⟨rfl, trivial⟩ (WL.call (wantF rfl g6) rfl rfl (Run.call Tryz.call58 rfl rfl rfl) (k0_ _ _ _ _) ?_)
  rintro _ whs8 ⟨rfl, hs8⟩
  replace hs8 := hs5.call0 hs8
  refine ⟨_, rfl, WL.runA tbk 1 (Acts.nil.cons (j := 6) rfl g6) hs8 [] rfl trivial (WL.eO 4 Acts.nil J7 hs8 g6 rfl rfl)⟩
 intro _ hs9
 refine WL.r 1 hs9 [] rfl ?_
 apply WL.gO 4 Acts.nil hs9 rfl
 ·intro g10 J11
  have qg10 := g10
  try simp only [bf, within_iff, within_not] at qg10
  refine WL.runA tbk 2 (Acts.nil.cons (j := 12) rfl g10) hs9 [0] rfl ⟨rfl, trivial⟩ (WL.call (wantF rfl g10) rfl rfl (Run.call Tryz.call59 rfl rfl rfl) (k1_ _ _) ?_)
  rintro _ whs12 ⟨rfl, hs12⟩
  replace hs12 := hs9.call0 hs12
  refine ⟨_, rfl, WL.runA tbk 1 (Acts.nil.cons (j := 12) rfl g10) hs12 [] rfl trivial (WL.eO 4 Acts.nil J11 hs12 g10 rfl rfl)⟩
 intro _ hs13
 refine WL.r 1 hs13 [] rfl ?_
 apply WL.gO 3 Acts.nil hs13 rfl
 ·intro g14 J15
  have qg14 := g14
  try simp only [bf, within_iff, within_not] at qg14
  refine WL.runA tbk 1 (Acts.nil.cons (j := 18) rfl g14) hs13 [0] rfl ⟨rfl, trivial⟩ (WL.call (wantF rfl g14) rfl rfl (Run.call Tryz.call60 rfl rfl rfl) (k103_ s _ (okStateR.st0 f_s hs13) ?_) ?_)
  · first | assumption | rfl | omega
  rintro _ whs16 ⟨rfl, hs16⟩
  replace hs16 := hs13.call0 hs16
  refine ⟨_, rfl, WL.runA tbk 1 (Acts.nil.cons (j := 18) rfl g14) hs16 [] rfl trivial (WL.eO 3 Acts.nil J15 hs16 g14 rfl rfl)⟩
 intro _ hs17
 refine WL.r 1 hs17 [] rfl ?_
 apply WL.gO 3 Acts.nil hs17 rfl
 ·intro g18 J19
  have qg18 := g18
  try simp only [bf, within_iff, within_not] at qg18
  refine WL.runA tbk 1 (Acts.nil.cons (j := 23) rfl g18) hs17 [0] rfl ⟨rfl, trivial⟩ (WL.call (wantF rfl g18) rfl rfl (Run.call Tryz.call61 rfl rfl rfl) (k111_ s _ (okStateR.st0 f_s hs17) ?_) ?_)
  · first | assumption | rfl | omega
  rintro _ whs20 ⟨rfl, hs20⟩
  replace hs20 := hs17.call0 hs20
  refine ⟨_, rfl, WL.runA tbk 1 (Acts.nil.cons (j := 23) rfl g18) hs20 [] rfl trivial (WL.eO 3 Acts.nil J19 hs20 g18 rfl rfl)⟩
 intro _ hs21
 refine WL.r 1 hs21 [] rfl ?_
 apply WL.gO 3 Acts.nil hs21 rfl
 ·intro g22 J23
  have qg22 := g22
  try simp only [bf, within_iff, within_not] at qg22
  refine WL.runA tbk 1 (Acts.nil.cons (j := 28) rfl g22) hs21 [0] rfl ⟨rfl, trivial⟩ (WL.call (wantF rfl g22) rfl rfl (Run.call Tryz.call62 rfl rfl rfl) (k112_ s _ (okStateR.st0 f_s hs21) ?_) ?_)
  · first | assumption | rfl | omega
  rintro _ whs24 ⟨rfl, hs24⟩
  replace hs24 := hs21.call0 hs24
  refine ⟨_, rfl, WL.runA tbk 1 (Acts.nil.cons (j := 28) rfl g22) hs24 [] rfl trivial (WL.eO 3 Acts.nil J23 hs24 g22 rfl rfl)⟩
 intro _ hs25
 refine WL.nil (WC.cq rfl (fun h26 qh26 => ?_) (fun h26 qh26 => ?_))
 ·have hbad : stateOk s.dat = false := by
    have h9 := h26
    show ((((isSize s.W s.H && within s.Limit 0 100) && isId s.Next) && (panesOkI s.dat && (winsOkI s.dat && sessOkI s.dat))) && areasC s.dat) = false
    grind
  refine WC.r1 hs25 [] rfl (WC.ret (tkR ?_))
  clear hK4
  refine rtv rfl rfl hs25 ?_
  rw [hbad]
 have hgood : stateOk s.dat = areasC s.dat := by
   have h9 := h26
   show ((((isSize s.W s.H && within s.Limit 0 100) && isId s.Next) && (panesOkI s.dat && (winsOkI s.dat && sessOkI s.dat))) && areasC s.dat) = areasC s.dat
   grind
 have hAr : areasC s.dat = !decide (0 ≤ findI (fun q : PaneR => !areaB s.dat q.dat) s.Panes.xs) := by
   rw [all_find (p := fun q : PaneR => areaB s.dat q.dat)]
   unfold areasC
   rw [show s.dat.Panes = s.Panes.xs.map PaneR.dat from rfl, List.all_map]
   rfl
 refine WC.skip (hK4 _ _ (WC.sr (WL.r 2 hs25 [0] rfl (WL.val rfl rfl rfl (Run.makeFunc rfl rfl) ?_))))
 refine WL.cl Tryz.call63 rfl (k115_ _ _ _ _ _ _ _ (SlN.st0 okPaneR.st0 f_s.Panes hs25) (SlF.own1 (hs25.own _ (nthL_mem (i := 0) rfl)).1) (okStateR.st0 f_s hs25) ?_ ?_) ?_
 iterate 2 first | assumption | rfl | omega
 rintro _ whs27 ⟨rfl, hs27⟩
 replace hs27 := hs25.call0 hs27
 refine ⟨_, rfl, WL.r 2 hs27 [] rfl (WL.nil (WC.ret (rtv rfl rfl hs27 ?_)))⟩
 rw [hgood, hAr]
set_option maxHeartbeats 4000000 in
theorem k117_ (s : StateR) (w : World) (f_s : okStateR 549755813888 w s) (hT : totState s.dat ≤ 1048576) :
    Calls Tryz.prog 56 #[.agg #[i64 s.W, i64 s.H, i64 s.Limit, i64 s.Next, .slice s.Panes.A s.Panes.n s.Panes.c, .slice s.Wins.A s.Wins.n s.Wins.c, .slice s.Sess.A s.Sess.n s.Sess.c]] w fun e w' => e = .returned (.bool (panesOkS s.dat)) ∧ St w [] [] w' := by
 have nb_s_Panes := f_s.Panes_n
 have nl_s_Panes := f_s.Panes.sl.len
 have nb_s_Wins := f_s.Wins_n
 have nl_s_Wins := f_s.Wins.sl.len
 have nb_s_Sess := f_s.Sess_n
 have nl_s_Sess := f_s.Sess.sl.len
 have hsm0 : smState 1048576 s.dat := totState_sm hT
 have hlP : s.dat.Panes.length = s.Panes.xs.length := List.length_map _
 have hlW : s.dat.Wins.length = s.Wins.xs.length := List.length_map _
 have hlS : s.dat.Sess.length = s.Sess.xs.length := List.length_map _
 have hnP : s.dat.Panes.length ≤ 1048576 := hsm0.1
 have hnW : s.dat.Wins.length ≤ 1048576 := hsm0.2.2.1
 have hnS : s.dat.Sess.length ≤ 1048576 := hsm0.2.2.2.2.1
 have hWn : ∀ y, y ∈ s.Wins.xs → y.Tree.n ≤ 1048576 := fun y hy => by have h1 := (f_s.Wins.all y hy).Tree.len; have h2 : y.Tree.xs.length ≤ 1048576 := (hsm0.2.2.2.1 _ (List.mem_map_of_mem hy)).2; omega
 refine enter 91 Tryz.func56 rfl Tryz.ntmps56 rfl rfl ?_
 have hs1 := St.init w
 refine WC.sr (WL.bx hs1 rfl (fun b2 _ hs3 => WL.r 1 hs3 [] rfl (WL.nil (WC.sr (WL.buildF (F := encI) hs3 ([]) Tryz.runUnderlying60 Tryz.sizeOf3 Tryz.zeroValue3 rfl rfl rfl rfl rfl rfl rfl rfl rfl rfl rfl rfl (fun A7 c8 L4 whs5 hs5 ho6 => ?_))))))
 replace hs5 := St.back [_] hs5
 refine WL.r 1 hs5 [] rfl (WL.nil (WC.seq (fun K9 hK9 => WC.r1 hs5 [0] rfl (WC.block ?_))))
 refine WC.lO [1, 10, 11] rfl (hs5.fr L4) (fun k_ f L_ => ∃ (zs : List Int) (i : Nat) (A10 : Option Addr) (c11 : Nat), k_ = s.Panes.n - i ∧ (i ≤ s.Panes.n) ∧ (zs = (pidsL ((s.Panes.xs.take (i)).map PaneR.dat))) ∧ (zs.length ≤ i) ∧ (∀ j, j < i → (paneB s.dat (gat encPaneR s.Panes.xs j).dat = true ∧ (0 < j → (gat encPaneR s.Panes.xs (j - 1)).Id < (gat encPaneR s.Panes.xs j).Id)) ∧ areaB s.dat (gat encPaneR s.Panes.xs j).dat = true) ∧ (zs.Nodup) ∧ OwnF encI 3 (.slice A10 (zs.length) c11) (zs) L_ ∧ Sub [(3, .slice A10 (zs.length) c11), (12, .int .i64 i)] f) (((fun (zs : List Int) (i : Nat) => s.Panes.n - i) ([]) (0))) ?_ ?_
 ·refine ⟨[], 0, _, _, rfl, ?_, ?_, ?_, ?_, ?_, ho6, ⟨rfl, rfl, trivial⟩⟩
  · exact Nat.zero_le _
  · rfl
  · exact Nat.le_refl _
  · exact fun j hj => absurd hj (by omega)
  · exact List.nodup_nil
 clear hs5
 rintro _ f w L12 ⟨zs, i, A10, c11, rfl, p0, p1, p2, p3, p4, ho13, hG⟩ hF hs14
 refine WC.sub _ (hG.app hF) ?_
 clear hG hF
 replace hs14 := St.back [_] hs14
 refine WC.r1 hs14 [] rfl (WC.seq (fun K15 hK15 => ?_))
 refine WC.cq rfl (fun h16 qh16 => ?_) (fun h16 qh16 => ?_)
 ·have hTm := (SlN.nth f_s.Panes (show i < s.Panes.n by omega))
  refine WC.skip (hK15 _ _ (WC.seq (fun K17 hK17 => WC.block (WC.sr (WL.r 1 hs14 [] rfl ?_)))))
  refine WL.val rfl rfl rfl (Run.idxN Tryz.runUnderlying29 Tryz.sizeOf93 rfl rfl rfl ?_ ?_ ?_) ?_
  · exact SlF.some_ (SlF.st0 f_s.Panes.sl hs14)
  · first | omega | (simp only [decide_eq_true_eq] at *; omega)
  · first | omega | (simp only [decide_eq_true_eq] at *; omega)
  refine WL.val rfl rfl rfl (Run.loadA Tryz.isAgg93 Tryz.sizeOf93 rfl rfl (SlF.whole (SlF.st0 f_s.Panes.sl hs14) ?_)) ?_
  · first | omega | (simp only [decide_eq_true_eq] at *; omega)
  refine WL.al hs14 Tryz.zeroValue93 rfl rfl (fun b18 _ hs19 => WL.r 1 hs19 [] rfl (WL.st tbk hs19 0 rfl rfl (fun _ hs20 => WL.nil (WC.seq (fun K21 hK21 => WC.sq1 hs20 (WQ.r 1 [0] rfl ?_))))))
  refine WQ.call rfl rfl rfl (fun w_ hs_ => (Run.call Tryz.call120 rfl rfl rfl)) (fun w_ hs_ => (k102_ (gat encPaneR s.Panes.xs i) _ (okPaneR.st0 (SlN.nth f_s.Panes (by first | omega | (simp only [decide_eq_true_eq] at *; omega))) (hs_ : St _ _ _ _))).mono fun e_ w_ h_ => ⟨h_.1, (hs_ : St _ _ _ _).call0 h_.2⟩) ?_
  refine WQ.r 2 [] rfl (WQ.pO tbk 5 Acts.nil [0, 1] rfl rfl rfl rfl (fun g_ => ⟨rfl, rfl, trivial⟩) (WQ.r 1 [] rfl ?_))
  apply WQ.gO 14 Acts.nil rfl
  ·intro g22 J23
   have qg22 := g22
   try simp only [bf, within_iff, within_not] at qg22
   refine WQ.runA tbk 3 (Acts.nil.cons (j := 10) rfl g22) [] rfl trivial ?_
   apply WQ.gA 10 (Acts.nil.cons (j := 10) rfl g22) rfl
   ·intro g24 J25
    have qg24 := g24
    try simp only [bf, within_iff, within_not] at qg24
    refine WQ.runA tbk 4 (Acts.nil.cons (j := 13) rfl g24) [1] rfl ⟨by omega, rfl, trivial⟩ ?_
    refine WQ.val (wantT rfl g24) rfl rfl (fun w_ hs_ => (Run.idxK ((i - 1)) Tryz.runUnderlying29 Tryz.sizeOf93 rfl rfl rfl ?_ ?_ ?_)) ?_
    · exact SlF.some_ (SlF.st0 f_s.Panes.sl (hs_ : St _ _ _ _))
    · first | omega | (simp only [decide_eq_true_eq] at *; omega)
    · first | omega | (simp only [decide_eq_true_eq] at *; omega)
    refine WQ.val (wantT rfl g24) rfl rfl (fun w_ hs_ => (Run.fieldO Tryz.runUnderlying93 rfl rfl rfl Tryz.sizeOf3 rfl)) ?_
    refine WQ.val (wantT rfl g24) rfl rfl (fun w_ hs_ => (Run.load Tryz.isAgg3 rfl rfl (SlF.fld (SlF.st0 f_s.Panes.sl (hs_ : St _ _ _ _)) ?_ rfl))) ?_
    · first | omega | (simp only [decide_eq_true_eq] at *; omega)
    refine WQ.runA tbk 3 (Acts.nil.cons (j := 13) rfl g24) [0] rfl ⟨rfl, trivial⟩ (WQ.eA 10 (Acts.nil.cons (j := 10) rfl g22) J25 g24 rfl rfl)
   exact WQ.eO 4 Acts.nil J23 g22 rfl rfl
  refine WQ.nil (fun _ (hs26 : St _ _ _ _) => ?_)
  refine WC.cq rfl (fun h27 qh27 => ?_) (fun h27 qh27 => ?_)
  ·have hbad : panesOkS s.dat = false := panesS_no (i := i) (by omega) (by
     show ((paneOk (gat encPaneR s.Panes.xs i).dat && decide ((gat encPaneR s.Panes.xs i).Id < s.Next)) && decide ((gat encPaneR s.Panes.xs i).Term.S.Limit = s.Limit)) = false ∨ _
     have h9 := h27
     grind)
   refine WC.r1 hs26 [] rfl (WC.ret (tkR (ibR (tkR (tkR (ibR (tkR ?_)))))))
   clear hK21 hK17 hK9
   refine rtv rfl rfl hs26 ?_
   first | rw [hbad] | rw [hall]
  have h42 := h27
  refine WC.skip (hK21 _ _ (WC.sr (WL.r 3 hs26 [1, 0] rfl ?_)))
  refine WL.cl Tryz.call16 rfl (k56_ s _ _ (okStateR.st0 f_s hs26) ?_) ?_
  · first | assumption | rfl | omega
  rintro _ whs28 ⟨rfl, hs28⟩
  replace hs28 := hs26.call0 hs28
  refine ⟨_, rfl, WL.r 5 hs28 [] rfl (WL.nil (WC.seq (fun K29 hK29 => WC.sr (WL.r 7 hs28 [0] rfl (WL.pO tbk 6 Acts.nil hs28 [0] rfl rfl rfl rfl (fun g_ => ⟨rfl, trivial⟩) (WL.r 1 hs28 [] rfl ?_))))))⟩
  refine WL.pO tbk 7 Acts.nil hs28 [0, 1] rfl rfl rfl rfl (fun g_ => ⟨rfl, rfl, trivial⟩) (WL.nil (WC.cq rfl (fun h30 qh30 => ?_) (fun h30 qh30 => ?_)))
  ·have hbad : panesOkS s.dat = false := panesS_no (i := i) (by omega) (by
     show ((paneOk (gat encPaneR s.Panes.xs i).dat && decide ((gat encPaneR s.Panes.xs i).Id < s.Next)) && decide ((gat encPaneR s.Panes.xs i).Term.S.Limit = s.Limit)) = false ∨ _ ∨ decide (areaD s.dat (gat encPaneR s.Panes.xs i).Id = ((gat encPaneR s.Panes.xs i).Term.S.W, (gat encPaneR s.Panes.xs i).Term.S.H)) = false
     have h9 := h30
     simp only [Bool.or_eq_true, Bool.not_eq_true', decide_eq_true_eq, decide_eq_false_iff_not, Bool.and_eq_false_iff, Prod.ext_iff] at h9 ⊢
     grind)
   refine WC.r1 hs28 [] rfl (WC.ret (tkR (ibR (tkR (tkR (ibR (tkR ?_)))))))
   clear hK29 hK17 hK9
   refine rtv rfl rfl hs28 ?_
   first | rw [hbad] | rw [hall]
  have hgood : (paneB s.dat (gat encPaneR s.Panes.xs i).dat = true ∧ (0 < i → (gat encPaneR s.Panes.xs (i - 1)).Id < (gat encPaneR s.Panes.xs i).Id)) ∧ areaB s.dat (gat encPaneR s.Panes.xs i).dat = true := by
    show (((paneOk (gat encPaneR s.Panes.xs i).dat && decide ((gat encPaneR s.Panes.xs i).Id < s.Next)) && decide ((gat encPaneR s.Panes.xs i).Term.S.Limit = s.Limit)) = true ∧ _) ∧ decide (areaD s.dat (gat encPaneR s.Panes.xs i).Id = ((gat encPaneR s.Panes.xs i).Term.S.W, (gat encPaneR s.Panes.xs i).Term.S.H)) = true
    have h9 := h30
    simp only [Bool.and_eq_true, Bool.or_eq_false_iff, Bool.not_eq_false', decide_eq_true_eq, decide_eq_false_iff_not, Prod.ext_iff] at h9 ⊢
    grind
  refine WC.skip (hK29 _ _ (WC.seq (fun K31 hK31 => WC.sr (WL.r 4 hs28 [0] rfl ?_))))
  apply WL.gA 4 Acts.nil hs28 rfl
  ·intro g32 J33
   have qg32 := g32
   try simp only [bf, within_iff, within_not] at qg32
   refine WL.runA tbk 3 (Acts.nil.cons (j := 3) rfl g32) hs28 [0] rfl ⟨rfl, trivial⟩ (WL.call (wantT rfl g32) rfl rfl (Run.call Tryz.call39 rfl rfl rfl) (k27_ _ _ _ _ _ _ (SlF.ofOwn ho13 (hs28.ow L12)) ?_) ?_)
   · first | assumption | rfl | omega
   rintro _ whs34 ⟨rfl, hs34⟩
   replace hs34 := hs28.call0 hs34
   refine ⟨_, rfl, WL.eA 4 Acts.nil J33 hs34 g32 rfl rfl⟩
  intro _ hs35
  refine WL.nil (WC.cq rfl (fun h36 qh36 => ?_) (fun h36 qh36 => ?_))
  ·have hbad : panesOkS s.dat = false := by
     have hpq := panesI_pid (s := s) (i := i) (by omega) (by grind) (by rw [← p1]; grind [hasI])
     unfold panesOkS
     rw [hpq, Bool.and_false]
   refine WC.r1 hs35 [] rfl (WC.ret (tkR (ibR (tkR (tkR (ibR (tkR ?_)))))))
   clear hK31 hK17 hK9
   refine rtv rfl rfl hs35 ?_
   first | rw [hbad] | rw [hall]
  have hpid : ¬ ((gat encPaneR s.Panes.xs i).Life = 1 ∧ (gat encPaneR s.Panes.xs i).Pid ∈ zs) := by
    have h9 := h36
    grind [hasI]
  refine WC.skip (hK31 _ _ (WC.r1 hs35 [0] rfl ?_))
  refine WC.cq rfl (fun h37 qh37 => ?_) (fun h37 qh37 => ?_)
  ·refine WC.region (WL.r 3 hs35 [0] rfl (WL.buildSlice hs35 Tryz.runUnderlying60 Tryz.sizeOf3 Tryz.zeroValue3 rfl rfl rfl rfl rfl rfl rfl rfl rfl rfl (fun b38 whs39 hs39 => ?_)))
   refine WL.appendG (hs39.fr L12) ho13 (srcI1 Tryz.underlying60 (hs39.own _ (nthL_mem (i := 0) rfl)).1) Tryz.underlying60 inf3 rfl rfl rfl rfl rfl rfl rfl rfl rfl rfl ?_ (fun A43 c44 L40 whs41 hs41 ho42 => ?_)
   · first | omega | (simp only [List.length_append, List.length_cons, List.length_nil]; omega)
   replace hs41 := St.back [_, _, _] hs41
   refine WL.r 1 hs41 [] rfl (WL.nil (hK17 _ _ (WC.region (WL.r 2 hs41 [] rfl (WL.nil (tkN ?_))))))
   replace hs41 := hs41.d1.d1
   refine ⟨sbF rfl, _, (hs41.fr L40), _, ?_, _, i + 1, _, _, rfl, ?_, ?_, ?_, ?_, ?_, ho42, ⟨rfl, rfl, trivial⟩⟩
   · omega
   · omega
   · rw [pidsL_take (by omega), p1]; first | (rw [if_pos (by grind)]) | (rw [if_neg (by grind), List.append_nil])
   · (try rw [List.length_append]); (try simp only [List.length_cons, List.length_nil]); omega
   · intro j hj; rcases Nat.lt_or_ge j i with h_ | h_
     · exact p3 j h_
     · obtain rfl : j = i := by omega
       exact hgood
   · first | exact p4 | (exact nodup_snoc p4 (fun hm => hpid ⟨by grind, hm⟩))
  refine WC.skip (hK17 _ _ (WC.region (WL.r 2 hs35 [] rfl (WL.nil (tkN ?_)))))
  replace hs35 := hs35.d1
  refine ⟨sbF rfl, _, (hs35.fr L12), _, ?_, _, i + 1, _, _, rfl, ?_, ?_, ?_, ?_, ?_, ho13, ⟨rfl, rfl, trivial⟩⟩
  · omega
  · omega
  · rw [pidsL_take (by omega), p1]; first | (rw [if_pos (by grind)]) | (rw [if_neg (by grind), List.append_nil])
  · (try rw [List.length_append]); (try simp only [List.length_cons, List.length_nil]); omega
  · intro j hj; rcases Nat.lt_or_ge j i with h_ | h_
    · exact p3 j h_
    · obtain rfl : j = i := by omega
      exact hgood
  · first | exact p4 | (exact nodup_snoc p4 (fun hm => hpid ⟨by grind, hm⟩))
 have hpc : pidsC s.dat = true := pidsC_all (i := i) (by omega) (by rw [← p1]; exact p4)
 have hall := panesS_yes (s := s) (fun j hj => p3 j (by omega)) hpc
 refine WC.exit (hK9 _ _ (WC.r1 hs14 [] rfl (WC.ret (rtv rfl rfl hs14 ?_))))
 first | rw [hbad] | rw [hall]
set_option maxHeartbeats 4000000 in
theorem k118_ (s : StateR) (w : World) (f_s : okStateR 549755813888 w s) (hT : totState s.dat ≤ 1048576) :
    Calls Tryz.prog 54 #[.agg #[i64 s.W, i64 s.H, i64 s.Limit, i64 s.Next, .slice s.Panes.A s.Panes.n s.Panes.c, .slice s.Wins.A s.Wins.n s.Wins.c, .slice s.Sess.A s.Sess.n s.Sess.c]] w fun e w' => e = .returned (.bool (winsOkS s.dat)) ∧ St w [] [] w' := by
 have nb_s_Panes := f_s.Panes_n
 have nl_s_Panes := f_s.Panes.sl.len
 have nb_s_Wins := f_s.Wins_n
 have nl_s_Wins := f_s.Wins.sl.len
 have nb_s_Sess := f_s.Sess_n
 have nl_s_Sess := f_s.Sess.sl.len
 have hsm0 : smState 1048576 s.dat := totState_sm hT
 have hlP : s.dat.Panes.length = s.Panes.xs.length := List.length_map _
 have hlW : s.dat.Wins.length = s.Wins.xs.length := List.length_map _
 have hlS : s.dat.Sess.length = s.Sess.xs.length := List.length_map _
 have hnP : s.dat.Panes.length ≤ 1048576 := hsm0.1
 have hnW : s.dat.Wins.length ≤ 1048576 := hsm0.2.2.1
 have hnS : s.dat.Sess.length ≤ 1048576 := hsm0.2.2.2.2.1
 have hWn : ∀ y, y ∈ s.Wins.xs → y.Tree.n ≤ 1048576 := fun y hy => by have h1 := (f_s.Wins.all y hy).Tree.len; have h2 : y.Tree.xs.length ≤ 1048576 := (hsm0.2.2.2.1 _ (List.mem_map_of_mem hy)).2; omega
 have hWnm : ∀ y, y ∈ s.Wins.xs → y.Name.size ≤ 1048576 := fun y hy => (hsm0.2.2.2.1 _ (List.mem_map_of_mem hy)).1
 refine enter 112 Tryz.func54 rfl Tryz.ntmps54 rfl rfl ?_
 have hs1 := St.init w
 refine WC.sr (WL.bx hs1 rfl (fun b2 _ hs3 => WL.r 1 hs3 [] rfl (WL.nil (WC.sr (WL.buildF (F := encI) hs3 ([]) Tryz.runUnderlying60 Tryz.sizeOf3 Tryz.zeroValue3 rfl rfl rfl rfl rfl rfl rfl rfl rfl rfl rfl rfl (fun A7 c8 L4 whs5 hs5 ho6 => ?_))))))
 replace hs5 := St.back [_] hs5
 refine WL.r 1 hs5 [] rfl (WL.nil (WC.seq (fun K9 hK9 => WC.r1 hs5 [0] rfl (WC.block ?_))))
 refine WC.lO [1, 12, 13] rfl (hs5.fr L4) (fun k_ f L_ => ∃ (zs : List Int) (i : Nat) (A10 : Option Addr) (c11 : Nat), k_ = s.Wins.n - i ∧ (i ≤ s.Wins.n) ∧ (zs = (treesL ((s.Wins.xs.take (i)).map WinR.dat))) ∧ (zs.length ≤ 31 * i) ∧ (∀ j, j < i → (winB s.dat (gat encWinR s.Wins.xs j).dat = true ∧ (0 < j → (gat encWinR s.Wins.xs (j - 1)).Id < (gat encWinR s.Wins.xs j).Id)) ∧ hasI (pIds s.dat) (gat encWinR s.Wins.xs j).Id = false) ∧ OwnF encI 3 (.slice A10 (zs.length) c11) (zs) L_ ∧ Sub [(3, .slice A10 (zs.length) c11), (14, .int .i64 i)] f) (((fun (zs : List Int) (i : Nat) => s.Wins.n - i) ([]) (0))) ?_ ?_
 ·refine ⟨[], 0, _, _, rfl, ?_, ?_, ?_, ?_, ho6, ⟨rfl, rfl, trivial⟩⟩
  · exact Nat.zero_le _
  · rfl
  · exact Nat.le_refl _
  · exact fun j hj => absurd hj (by omega)
 clear hs5
 rintro _ f w L12 ⟨zs, i, A10, c11, rfl, p0, p1, p2, p3, ho13, hG⟩ hF hs14
 refine WC.sub _ (hG.app hF) ?_
 clear hG hF
 replace hs14 := St.back [_] hs14
 refine WC.r1 hs14 [] rfl (WC.seq (fun K15 hK15 => ?_))
 refine WC.cq rfl (fun h16 qh16 => ?_) (fun h16 qh16 => ?_)
 ·have hTm := (SlN.nth f_s.Wins (show i < s.Wins.n by omega))
  have hTl := hTm.Tree.len
  have hWi := hWn (gat encWinR s.Wins.xs i) (gat_mem (by omega))
  have hWj := hWnm (gat encWinR s.Wins.xs i) (gat_mem (by omega))
  have hll := leavesL_len (gat encWinR s.Wins.xs i).Tree.xs
  refine WC.skip (hK15 _ _ (WC.seq (fun K17 hK17 => WC.block (WC.sr (WL.r 1 hs14 [] rfl ?_)))))
  refine WL.val rfl rfl rfl (Run.idxN Tryz.runUnderlying30 Tryz.sizeOf58 rfl rfl rfl ?_ ?_ ?_) ?_
  · exact SlF.some_ (SlF.st0 f_s.Wins.sl hs14)
  · first | omega | (simp only [decide_eq_true_eq] at *; omega)
  · first | omega | (simp only [decide_eq_true_eq] at *; omega)
  refine WL.val rfl rfl rfl (Run.loadA Tryz.isAgg58 Tryz.sizeOf58 rfl rfl (SlF.whole (SlF.st0 f_s.Wins.sl hs14) ?_)) ?_
  · first | omega | (simp only [decide_eq_true_eq] at *; omega)
  refine WL.al hs14 Tryz.zeroValue58 rfl rfl (fun b18 _ hs19 => WL.r 1 hs19 [] rfl (WL.st tbk hs19 0 rfl rfl (fun _ hs20 => WL.nil (WC.sr (WL.r 6 hs20 [0, 1, 1] rfl ?_)))))
  refine WL.cl Tryz.call111 rfl (k50_ _ _ _ _ _ _ _ (SlF.st0 (SlN.nth f_s.Wins (by first | omega | (simp only [decide_eq_true_eq] at *; omega))).Tree hs20) ?_) ?_
  · first | assumption | rfl | omega | (rw [List.length_take]; omega)
  rintro _ whs21 ⟨A22, c23, L1_24, rfl, hs21, ho25⟩
  replace hs21 := hs20.callF hs21
  refine ⟨_, rfl, ?_⟩
  replace hs21 := St.back [_, _] hs21
  refine WL.r 5 hs21 [] rfl (WL.nil (WC.seq (fun K26 hK26 => WC.seq (fun K27 hK27 => WC.rH hs21 hs21 (fun _ hs28 => ?_)))))
  refine WH.rn [0, 1, 2] hs28 [] rfl rfl (WH.split 31 rfl (fun g29 => ?_) (fun g29 => ?_))
  ·refine WH.takeSkip 3 rfl (by kernel_rfl) (wantNF rfl g29) rfl rfl hs28 (WH.takeSkip 4 rfl (by kernel_rfl) (wantNF rfl g29) rfl rfl hs28 (WH.takeSkip 5 rfl (by kernel_rfl) (wantNF rfl g29) rfl rfl hs28 ?_))
   refine WH.take 6 rfl (by kernel_rfl) rfl rfl rfl hs28 (fun w_ hs_ => (Run.pickT rfl rfl g29 rfl)) ?_
   refine WH.rn [7] hs28 [] rfl rfl (WH.takeSkip 8 rfl (by kernel_rfl) (wantNF rfl rfl) rfl rfl hs28 (WH.takeSkip 9 rfl (by kernel_rfl) (wantNF rfl rfl) rfl rfl hs28 (WH.takeSkip 10 rfl (by kernel_rfl) (wantNF rfl rfl) rfl rfl hs28 (WH.takeSkip 11 rfl (by kernel_rfl) (wantNF rfl rfl) rfl rfl hs28 (WH.takeSkip 12 rfl (by kernel_rfl) (wantNF rfl rfl) rfl rfl hs28 ?_)))))
   refine WH.take 13 rfl (by kernel_rfl) rfl rfl rfl hs28 (fun w_ hs_ => (Run.pickT rfl rfl rfl rfl)) ?_
   refine WH.rn [14] hs28 [] rfl rfl (WH.takeSkip 15 rfl (by kernel_rfl) (wantNF rfl rfl) rfl rfl hs28 (WH.takeSkip 16 rfl (by kernel_rfl) (wantNF rfl rfl) rfl rfl hs28 (WH.takeSkip 17 rfl (by kernel_rfl) (wantNF rfl rfl) rfl rfl hs28 (WH.takeSkip 18 rfl (by kernel_rfl) rfl rfl rfl hs28 (WH.takeSkip 19 rfl (by kernel_rfl) rfl rfl rfl hs28 (WH.takeSkip 20 rfl (by kernel_rfl) rfl rfl rfl hs28 (WH.takeSkip 21 rfl (by kernel_rfl) rfl rfl rfl hs28 ?_)))))))
   refine WH.takeSkip 22 rfl (by kernel_rfl) rfl rfl rfl hs28 (WH.takeSkip 23 rfl (by kernel_rfl) rfl rfl rfl hs28 (WH.takeSkip 24 rfl (by kernel_rfl) rfl rfl rfl hs28 (WH.takeSkip 25 rfl (by kernel_rfl) rfl rfl rfl hs28 (WH.takeSkip 26 rfl (by kernel_rfl) rfl rfl rfl hs28 (WH.takeSkip 27 rfl (by kernel_rfl) rfl rfl rfl hs28 (WH.takeSkip 28 rfl (by kernel_rfl) (wantNF rfl rfl) rfl rfl hs28 ?_))))))
   refine WH.take 29 rfl (by kernel_rfl) rfl rfl rfl hs28 (fun w_ hs_ => (Run.pickT rfl rfl rfl rfl)) ?_
   refine WH.rn [30] hs28 [] rfl rfl (WH.takeSkip 31 rfl (by kernel_rfl) (wantNF rfl rfl) rfl rfl hs28 (WH.takeSkip 32 rfl (by kernel_rfl) (wantNF rfl rfl) rfl rfl hs28 (WH.takeSkip 33 rfl (by kernel_rfl) (wantNF rfl rfl) rfl rfl hs28 (WH.o1 34 rfl (WL.skip (wantNF rfl rfl) rfl rfl (WL.nil ⟨hs28, WH.takeSkip 35 rfl (by kernel_rfl) (wantNF rfl rfl) rfl rfl hs28 ?_⟩))))))
   refine WH.take 36 rfl (by kernel_rfl) rfl rfl rfl hs28 (fun w_ hs_ => (Run.pickT rfl rfl rfl rfl)) ?_
   refine WH.rn [37] hs28 [] rfl rfl (WH.takeSkip 38 rfl (by kernel_rfl) (wantNF rfl rfl) rfl rfl hs28 (WH.takeSkip 39 rfl (by kernel_rfl) (wantNF rfl rfl) rfl rfl hs28 (WH.o1 40 rfl (WL.skip (wantNF rfl rfl) rfl rfl (WL.nil ⟨hs28, WH.takeSkip 41 rfl (by kernel_rfl) (wantNF rfl rfl) rfl rfl hs28 ?_⟩)))))
   refine WH.take 42 rfl (by kernel_rfl) rfl rfl rfl hs28 (fun w_ hs_ => (Run.pickT rfl rfl rfl rfl)) ?_
   refine WH.rn [43] hs28 [] rfl rfl (WH.takeSkip 44 rfl (by kernel_rfl) (wantNF rfl rfl) rfl rfl hs28 (WH.takeSkip 45 rfl (by kernel_rfl) (wantNF rfl rfl) rfl rfl hs28 (WH.takeSkip 47 rfl (by kernel_rfl) (wantNF rfl rfl) rfl rfl hs28 (WH.takeSkip 48 rfl (by kernel_rfl) (wantNF rfl rfl) rfl rfl hs28 (WH.o1 46 rfl (WL.skip (wantNF rfl rfl) rfl rfl (WL.nil ⟨hs28, ?_⟩)))))))
   refine WH.o1 49 rfl (WL.skip (wantNF rfl rfl) rfl rfl (WL.nil ⟨hs28, WH.takeSkip 50 rfl (by kernel_rfl) (wantNF rfl rfl) rfl rfl hs28 ?_⟩))
   refine WH.take 51 rfl (by kernel_rfl) rfl rfl rfl hs28 (fun w_ hs_ => (Run.pickT rfl rfl rfl rfl)) ?_
   refine WH.dn (hK27 _ _ (WC.condT rfl rfl ?_))
   have hbad : winsOkS s.dat = false := winsS_no (i := i) (by omega) (by
     show (((decide (1 ≤ (gat encWinR s.Wins.xs i).Id) && decide ((gat encWinR s.Wins.xs i).Id < s.Next)) && (wordOk (gat encWinR s.Wins.xs i).Name && placesOk (gat encWinR s.Wins.xs i).Tree.xs s.W s.H)) && hasI (panesL (gat encWinR s.Wins.xs i).Tree.xs) (gat encWinR s.Wins.xs i).Active) = false ∨ _
     rw [← paneAt_has]
     by_cases hpl : placesOk (gat encWinR s.Wins.xs i).Tree.xs s.W s.H = true
     · have hlp := leaves_panes hpl
       grind
     · grind)
   refine WC.r1 hs28 [] rfl (WC.ret (tkR (ibR (tkR (tkR (ibR (tkR ?_)))))))
   clear hK26 hK17 hK9
   refine rtv rfl rfl hs28 ?_
   first | rw [hbad] | (unfold winsOkS; rw [hWc, hall, Bool.true_and]; congr 1; rw [decide_eq_decide]; omega)
  refine WH.rnA (Acts.nil.cons (j := 2) rfl g29) [3, 4, 5] hs28 [0] rfl rfl ?_
  refine WH.take 6 rfl (by kernel_rfl) rfl rfl rfl hs28 (fun w_ hs_ => (Run.pick rfl rfl rfl rfl)) ?_
  refine WH.rn [7] hs28 [] rfl rfl (WH.split 36 rfl (fun g31 => ?_) (fun g31 => ?_))
  ·refine WH.takeSkip 8 rfl (by kernel_rfl) (wantNF rfl g31) rfl rfl hs28 (WH.takeSkip 9 rfl (by kernel_rfl) (wantNF rfl g31) rfl rfl hs28 (WH.takeSkip 10 rfl (by kernel_rfl) (wantNF rfl g31) rfl rfl hs28 (WH.takeSkip 11 rfl (by kernel_rfl) (wantNF rfl g31) rfl rfl hs28 (WH.takeSkip 12 rfl (by kernel_rfl) (wantNF rfl g31) rfl rfl hs28 ?_))))
   refine WH.take 13 rfl (by kernel_rfl) rfl rfl rfl hs28 (fun w_ hs_ => (Run.pickT rfl rfl g31 rfl)) ?_
   refine WH.rn [14] hs28 [] rfl rfl (WH.takeSkip 15 rfl (by kernel_rfl) (wantNF rfl rfl) rfl rfl hs28 (WH.takeSkip 16 rfl (by kernel_rfl) (wantNF rfl rfl) rfl rfl hs28 (WH.takeSkip 17 rfl (by kernel_rfl) (wantNF rfl rfl) rfl rfl hs28 (WH.takeSkip 18 rfl (by kernel_rfl) rfl rfl rfl hs28 (WH.takeSkip 19 rfl (by kernel_rfl) rfl rfl rfl hs28 (WH.takeSkip 20 rfl (by kernel_rfl) rfl rfl rfl hs28 (WH.takeSkip 21 rfl (by kernel_rfl) rfl rfl rfl hs28 ?_)))))))
   refine WH.takeSkip 22 rfl (by kernel_rfl) rfl rfl rfl hs28 (WH.takeSkip 23 rfl (by kernel_rfl) rfl rfl rfl hs28 (WH.takeSkip 24 rfl (by kernel_rfl) rfl rfl rfl hs28 (WH.takeSkip 25 rfl (by kernel_rfl) rfl rfl rfl hs28 (WH.takeSkip 26 rfl (by kernel_rfl) rfl rfl rfl hs28 (WH.takeSkip 27 rfl (by kernel_rfl) rfl rfl rfl hs28 (WH.takeSkip 28 rfl (by kernel_rfl) (wantNF rfl rfl) rfl rfl hs28 ?_))))))
   refine WH.take 29 rfl (by kernel_rfl) rfl rfl rfl hs28 (fun w_ hs_ => (Run.pickT rfl rfl rfl rfl)) ?_
   refine WH.rn [30] hs28 [] rfl rfl (WH.takeSkip 31 rfl (by kernel_rfl) (wantNF rfl rfl) rfl rfl hs28 (WH.takeSkip 32 rfl (by kernel_rfl) (wantNF rfl rfl) rfl rfl hs28 (WH.takeSkip 33 rfl (by kernel_rfl) (wantNF rfl rfl) rfl rfl hs28 (WH.o1 34 rfl (WL.skip (wantNF rfl rfl) rfl rfl (WL.nil ⟨hs28, WH.takeSkip 35 rfl (by kernel_rfl) (wantNF rfl rfl) rfl rfl hs28 ?_⟩))))))
   refine WH.take 36 rfl (by kernel_rfl) rfl rfl rfl hs28 (fun w_ hs_ => (Run.pickT rfl rfl rfl rfl)) ?_
   refine WH.rn [37] hs28 [] rfl rfl (WH.takeSkip 38 rfl (by kernel_rfl) (wantNF rfl rfl) rfl rfl hs28 (WH.takeSkip 39 rfl (by kernel_rfl) (wantNF rfl rfl) rfl rfl hs28 (WH.o1 40 rfl (WL.skip (wantNF rfl rfl) rfl rfl (WL.nil ⟨hs28, WH.takeSkip 41 rfl (by kernel_rfl) (wantNF rfl rfl) rfl rfl hs28 ?_⟩)))))
   refine WH.take 42 rfl (by kernel_rfl) rfl rfl rfl hs28 (fun w_ hs_ => (Run.pickT rfl rfl rfl rfl)) ?_
   refine WH.rn [43] hs28 [] rfl rfl (WH.takeSkip 44 rfl (by kernel_rfl) (wantNF rfl rfl) rfl rfl hs28 (WH.takeSkip 45 rfl (by kernel_rfl) (wantNF rfl rfl) rfl rfl hs28 (WH.takeSkip 47 rfl (by kernel_rfl) (wantNF rfl rfl) rfl rfl hs28 (WH.takeSkip 48 rfl (by kernel_rfl) (wantNF rfl rfl) rfl rfl hs28 (WH.o1 46 rfl (WL.skip (wantNF rfl rfl) rfl rfl (WL.nil ⟨hs28, ?_⟩)))))))
   refine WH.o1 49 rfl (WL.skip (wantNF rfl rfl) rfl rfl (WL.nil ⟨hs28, WH.takeSkip 50 rfl (by kernel_rfl) (wantNF rfl rfl) rfl rfl hs28 ?_⟩))
   refine WH.take 51 rfl (by kernel_rfl) rfl rfl rfl hs28 (fun w_ hs_ => (Run.pickT rfl rfl rfl rfl)) ?_
   refine WH.dn (hK27 _ _ (WC.condT rfl rfl ?_))
   have hbad : winsOkS s.dat = false := winsS_no (i := i) (by omega) (by
     show (((decide (1 ≤ (gat encWinR s.Wins.xs i).Id) && decide ((gat encWinR s.Wins.xs i).Id < s.Next)) && (wordOk (gat encWinR s.Wins.xs i).Name && placesOk (gat encWinR s.Wins.xs i).Tree.xs s.W s.H)) && hasI (panesL (gat encWinR s.Wins.xs i).Tree.xs) (gat encWinR s.Wins.xs i).Active) = false ∨ _
     rw [← paneAt_has]
     by_cases hpl : placesOk (gat encWinR s.Wins.xs i).Tree.xs s.W s.H = true
     · have hlp := leaves_panes hpl
       grind
     · grind)
   refine WC.r1 hs28 [] rfl (WC.ret (tkR (ibR (tkR (tkR (ibR (tkR ?_)))))))
   clear hK26 hK17 hK9
   refine rtv rfl rfl hs28 ?_
   first | rw [hbad] | (unfold winsOkS; rw [hWc, hall, Bool.true_and]; congr 1; rw [decide_eq_decide]; omega)
  refine WH.rnA (Acts.nil.cons (j := 7) rfl g31) [8, 9, 10, 11, 12] hs28 [0, 1] rfl rfl ?_
  refine WH.take 13 rfl (by kernel_rfl) rfl rfl rfl hs28 (fun w_ hs_ => (Run.pick rfl rfl rfl rfl)) ?_
  refine WH.rn [14] hs28 [] rfl rfl (WH.split 43 rfl (fun g33 => ?_) (fun g33 => ?_))
  ·refine WH.takeSkip 15 rfl (by kernel_rfl) (wantNF rfl g33) rfl rfl hs28 (WH.takeSkip 16 rfl (by kernel_rfl) (wantNF rfl g33) rfl rfl hs28 (WH.takeSkip 17 rfl (by kernel_rfl) (wantNF rfl g33) rfl rfl hs28 (WH.takeSkip 18 rfl (by kernel_rfl) rfl rfl rfl hs28 (WH.takeSkip 19 rfl (by kernel_rfl) rfl rfl rfl hs28 (WH.takeSkip 20 rfl (by kernel_rfl) rfl rfl rfl hs28 (WH.takeSkip 21 rfl (by kernel_rfl) rfl rfl rfl hs28 (WH.takeSkip 22 rfl (by kernel_rfl) rfl rfl rfl hs28 ?_)))))))
   refine WH.takeSkip 23 rfl (by kernel_rfl) rfl rfl rfl hs28 (WH.takeSkip 24 rfl (by kernel_rfl) rfl rfl rfl hs28 (WH.takeSkip 25 rfl (by kernel_rfl) rfl rfl rfl hs28 (WH.takeSkip 26 rfl (by kernel_rfl) rfl rfl rfl hs28 (WH.takeSkip 27 rfl (by kernel_rfl) rfl rfl rfl hs28 (WH.takeSkip 28 rfl (by kernel_rfl) (wantNF rfl g33) rfl rfl hs28 ?_)))))
   refine WH.take 29 rfl (by kernel_rfl) rfl rfl rfl hs28 (fun w_ hs_ => (Run.pickT rfl rfl g33 rfl)) ?_
   refine WH.rn [30] hs28 [] rfl rfl (WH.takeSkip 31 rfl (by kernel_rfl) (wantNF rfl rfl) rfl rfl hs28 (WH.takeSkip 32 rfl (by kernel_rfl) (wantNF rfl rfl) rfl rfl hs28 (WH.takeSkip 33 rfl (by kernel_rfl) (wantNF rfl rfl) rfl rfl hs28 (WH.o1 34 rfl (WL.skip (wantNF rfl rfl) rfl rfl (WL.nil ⟨hs28, WH.takeSkip 35 rfl (by kernel_rfl) (wantNF rfl rfl) rfl rfl hs28 ?_⟩))))))
   refine WH.take 36 rfl (by kernel_rfl) rfl rfl rfl hs28 (fun w_ hs_ => (Run.pickT rfl rfl rfl rfl)) ?_
   refine WH.rn [37] hs28 [] rfl rfl (WH.takeSkip 38 rfl (by kernel_rfl) (wantNF rfl rfl) rfl rfl hs28 (WH.takeSkip 39 rfl (by kernel_rfl) (wantNF rfl rfl) rfl rfl hs28 (WH.o1 40 rfl (WL.skip (wantNF rfl rfl) rfl rfl (WL.nil ⟨hs28, WH.takeSkip 41 rfl (by kernel_rfl) (wantNF rfl rfl) rfl rfl hs28 ?_⟩)))))
   refine WH.take 42 rfl (by kernel_rfl) rfl rfl rfl hs28 (fun w_ hs_ => (Run.pickT rfl rfl rfl rfl)) ?_
   refine WH.rn [43] hs28 [] rfl rfl (WH.takeSkip 44 rfl (by kernel_rfl) (wantNF rfl rfl) rfl rfl hs28 (WH.takeSkip 45 rfl (by kernel_rfl) (wantNF rfl rfl) rfl rfl hs28 (WH.takeSkip 47 rfl (by kernel_rfl) (wantNF rfl rfl) rfl rfl hs28 (WH.takeSkip 48 rfl (by kernel_rfl) (wantNF rfl rfl) rfl rfl hs28 (WH.o1 46 rfl (WL.skip (wantNF rfl rfl) rfl rfl (WL.nil ⟨hs28, ?_⟩)))))))
   refine WH.o1 49 rfl (WL.skip (wantNF rfl rfl) rfl rfl (WL.nil ⟨hs28, WH.takeSkip 50 rfl (by kernel_rfl) (wantNF rfl rfl) rfl rfl hs28 ?_⟩))
   refine WH.take 51 rfl (by kernel_rfl) rfl rfl rfl hs28 (fun w_ hs_ => (Run.pickT rfl rfl rfl rfl)) ?_
   refine WH.dn (hK27 _ _ (WC.condT rfl rfl ?_))
   have hbad : winsOkS s.dat = false := winsS_no (i := i) (by omega) (by
     show (((decide (1 ≤ (gat encWinR s.Wins.xs i).Id) && decide ((gat encWinR s.Wins.xs i).Id < s.Next)) && (wordOk (gat encWinR s.Wins.xs i).Name && placesOk (gat encWinR s.Wins.xs i).Tree.xs s.W s.H)) && hasI (panesL (gat encWinR s.Wins.xs i).Tree.xs) (gat encWinR s.Wins.xs i).Active) = false ∨ _
     rw [← paneAt_has]
     by_cases hpl : placesOk (gat encWinR s.Wins.xs i).Tree.xs s.W s.H = true
     · have hlp := leaves_panes hpl
       grind
     · grind)
   refine WC.r1 hs28 [] rfl (WC.ret (tkR (ibR (tkR (tkR (ibR (tkR ?_)))))))
   clear hK26 hK17 hK9
   refine rtv rfl rfl hs28 ?_
   first | rw [hbad] | (unfold winsOkS; rw [hWc, hall, Bool.true_and]; congr 1; rw [decide_eq_decide]; omega)
  refine WH.rnA (Acts.nil.cons (j := 14) rfl g33) [15, 16, 17] hs28 [] rfl rfl (WH.split 46 rfl (fun g35 => ?_) (fun g35 => ?_))
  ·refine WH.rnA (Acts.nil.cons (j := 17) rfl g35) [18, 19, 20, 21] hs28 [1] rfl rfl ?_
   refine WH.take 22 rfl (by kernel_rfl) (wantT rfl g35) rfl rfl hs28 (fun w_ hs_ => (Run.idxK ((i - 1)) Tryz.runUnderlying30 Tryz.sizeOf58 rfl rfl rfl ?_ ?_ ?_)) ?_
   · exact SlF.some_ (SlF.st0 f_s.Wins.sl (hs_ : St _ _ _ _))
   · first | omega | (simp only [decide_eq_true_eq] at *; omega)
   · first | omega | (simp only [decide_eq_true_eq] at *; omega)
   refine WH.take 23 rfl (by kernel_rfl) (wantT rfl g35) rfl rfl hs28 (fun w_ hs_ => (Run.fieldO Tryz.runUnderlying58 rfl rfl rfl Tryz.sizeOf3 rfl)) ?_
   refine WH.take 24 rfl (by kernel_rfl) (wantT rfl g35) rfl rfl hs28 (fun w_ hs_ => (Run.load Tryz.isAgg3 rfl rfl (SlF.fld (SlF.st0 f_s.Wins.sl (hs_ : St _ _ _ _)) ?_ rfl))) ?_
   · first | omega | (simp only [decide_eq_true_eq] at *; omega)
   refine WH.rnA (Acts.nil.cons (j := 17) rfl g35) [25, 26, 27] hs28 [0] rfl rfl ?_
   refine WH.take 28 rfl (by kernel_rfl) (wantF rfl g33) rfl rfl hs28 (fun w_ hs_ => (Run.pick rfl rfl rfl rfl)) ?_
   refine WH.take 29 rfl (by kernel_rfl) rfl rfl rfl hs28 (fun w_ hs_ => (Run.pick rfl rfl rfl rfl)) ?_
   refine WH.rn [30] hs28 [] rfl rfl (WH.split 59 rfl (fun g36 => ?_) (fun g36 => ?_))
   ·refine WH.takeSkip 31 rfl (by kernel_rfl) (wantNF rfl g36) rfl rfl hs28 (WH.takeSkip 32 rfl (by kernel_rfl) (wantNF rfl g36) rfl rfl hs28 (WH.takeSkip 33 rfl (by kernel_rfl) (wantNF rfl g36) rfl rfl hs28 (WH.o1 34 rfl (WL.skip (wantNF rfl g36) rfl rfl (WL.nil ⟨hs28, WH.takeSkip 35 rfl (by kernel_rfl) (wantNF rfl g36) rfl rfl hs28 ?_⟩)))))
    refine WH.take 36 rfl (by kernel_rfl) rfl rfl rfl hs28 (fun w_ hs_ => (Run.pickT rfl rfl g36 rfl)) ?_
    refine WH.rn [37] hs28 [] rfl rfl (WH.takeSkip 38 rfl (by kernel_rfl) (wantNF rfl rfl) rfl rfl hs28 (WH.takeSkip 39 rfl (by kernel_rfl) (wantNF rfl rfl) rfl rfl hs28 (WH.o1 40 rfl (WL.skip (wantNF rfl rfl) rfl rfl (WL.nil ⟨hs28, WH.takeSkip 41 rfl (by kernel_rfl) (wantNF rfl rfl) rfl rfl hs28 ?_⟩)))))
    refine WH.take 42 rfl (by kernel_rfl) rfl rfl rfl hs28 (fun w_ hs_ => (Run.pickT rfl rfl rfl rfl)) ?_
    refine WH.rn [43] hs28 [] rfl rfl (WH.takeSkip 44 rfl (by kernel_rfl) (wantNF rfl rfl) rfl rfl hs28 (WH.takeSkip 45 rfl (by kernel_rfl) (wantNF rfl rfl) rfl rfl hs28 (WH.takeSkip 47 rfl (by kernel_rfl) (wantNF rfl rfl) rfl rfl hs28 (WH.takeSkip 48 rfl (by kernel_rfl) (wantNF rfl rfl) rfl rfl hs28 (WH.o1 46 rfl (WL.skip (wantNF rfl rfl) rfl rfl (WL.nil ⟨hs28, ?_⟩)))))))
    refine WH.o1 49 rfl (WL.skip (wantNF rfl rfl) rfl rfl (WL.nil ⟨hs28, WH.takeSkip 50 rfl (by kernel_rfl) (wantNF rfl rfl) rfl rfl hs28 ?_⟩))
    refine WH.take 51 rfl (by kernel_rfl) rfl rfl rfl hs28 (fun w_ hs_ => (Run.pickT rfl rfl rfl rfl)) ?_
    refine WH.dn (hK27 _ _ (WC.condT rfl rfl ?_))
    have hbad : winsOkS s.dat = false := winsS_no (i := i) (by omega) (by
      show (((decide (1 ≤ (gat encWinR s.Wins.xs i).Id) && decide ((gat encWinR s.Wins.xs i).Id < s.Next)) && (wordOk (gat encWinR s.Wins.xs i).Name && placesOk (gat encWinR s.Wins.xs i).Tree.xs s.W s.H)) && hasI (panesL (gat encWinR s.Wins.xs i).Tree.xs) (gat encWinR s.Wins.xs i).Active) = false ∨ _
      rw [← paneAt_has]
      by_cases hpl : placesOk (gat encWinR s.Wins.xs i).Tree.xs s.W s.H = true
      · have hlp := leaves_panes hpl
        grind
      · grind)
    refine WC.r1 hs28 [] rfl (WC.ret (tkR (ibR (tkR (tkR (ibR (tkR ?_)))))))
    clear hK26 hK17 hK9
    refine rtv rfl rfl hs28 ?_
    first | rw [hbad] | (unfold winsOkS; rw [hWc, hall, Bool.true_and]; congr 1; rw [decide_eq_decide]; omega)
   refine WH.rnA (Acts.nil.cons (j := 30) rfl g36) [31, 32, 33] hs28 [1, 0] rfl rfl (WH.o1 34 rfl (WL.call (wantF rfl g36) rfl rfl (Run.call Tryz.call116 rfl rfl rfl) (k57_ s _ _ (okStateR.st0 f_s hs28)) ?_))
   rintro _ whs38 ⟨rfl, hs38⟩
   replace hs38 := hs28.call0 hs38
   refine ⟨_, rfl, WL.nil ⟨hs38, WH.rnA (Acts.nil.cons (j := 30) rfl g36) [35] hs38 [] rfl rfl ?_⟩⟩
   refine WH.take 36 rfl (by kernel_rfl) rfl rfl rfl hs38 (fun w_ hs_ => (Run.pick rfl rfl rfl rfl)) ?_
   refine WH.rn [37] hs38 [] rfl rfl (WH.split 66 rfl (fun g39 => ?_) (fun g39 => ?_))
   ·refine WH.takeSkip 38 rfl (by kernel_rfl) (wantNF rfl g39) rfl rfl hs38 (WH.takeSkip 39 rfl (by kernel_rfl) (wantNF rfl g39) rfl rfl hs38 (WH.o1 40 rfl (WL.skip (wantNF rfl g39) rfl rfl (WL.nil ⟨hs38, WH.takeSkip 41 rfl (by kernel_rfl) (wantNF rfl g39) rfl rfl hs38 ?_⟩))))
    refine WH.take 42 rfl (by kernel_rfl) rfl rfl rfl hs38 (fun w_ hs_ => (Run.pickT rfl rfl g39 rfl)) ?_
    refine WH.rn [43] hs38 [] rfl rfl (WH.takeSkip 44 rfl (by kernel_rfl) (wantNF rfl rfl) rfl rfl hs38 (WH.takeSkip 45 rfl (by kernel_rfl) (wantNF rfl rfl) rfl rfl hs38 (WH.takeSkip 47 rfl (by kernel_rfl) (wantNF rfl rfl) rfl rfl hs38 (WH.takeSkip 48 rfl (by kernel_rfl) (wantNF rfl rfl) rfl rfl hs38 (WH.o1 46 rfl (WL.skip (wantNF rfl rfl) rfl rfl (WL.nil ⟨hs38, ?_⟩)))))))
    refine WH.o1 49 rfl (WL.skip (wantNF rfl rfl) rfl rfl (WL.nil ⟨hs38, WH.takeSkip 50 rfl (by kernel_rfl) (wantNF rfl rfl) rfl rfl hs38 ?_⟩))
    refine WH.take 51 rfl (by kernel_rfl) rfl rfl rfl hs38 (fun w_ hs_ => (Run.pickT rfl rfl rfl rfl)) ?_
    refine WH.dn (hK27 _ _ (WC.condT rfl rfl ?_))
    have hbad : winsOkS s.dat = false := winsS_no (i := i) (by omega) (by
      show (((decide (1 ≤ (gat encWinR s.Wins.xs i).Id) && decide ((gat encWinR s.Wins.xs i).Id < s.Next)) && (wordOk (gat encWinR s.Wins.xs i).Name && placesOk (gat encWinR s.Wins.xs i).Tree.xs s.W s.H)) && hasI (panesL (gat encWinR s.Wins.xs i).Tree.xs) (gat encWinR s.Wins.xs i).Active) = false ∨ _
      rw [← paneAt_has]
      by_cases hpl : placesOk (gat encWinR s.Wins.xs i).Tree.xs s.W s.H = true
      · have hlp := leaves_panes hpl
        grind
      · grind)
    refine WC.r1 hs38 [] rfl (WC.ret (tkR (ibR (tkR (tkR (ibR (tkR ?_)))))))
    clear hK26 hK17 hK9
    refine rtv rfl rfl hs38 ?_
    first | rw [hbad] | (unfold winsOkS; rw [hWc, hall, Bool.true_and]; congr 1; rw [decide_eq_decide]; omega)
   refine WH.rnA (Acts.nil.cons (j := 37) rfl g39) [38, 39] hs38 [0] rfl rfl (WH.o1 40 rfl (WL.call (wantF rfl g39) rfl rfl (Run.call Tryz.call117 rfl rfl rfl) (k110_ _ _ ?_) ?_))
   · first | assumption | rfl | omega | (rw [List.length_take]; omega)
   rintro _ whs41 ⟨rfl, hs41⟩
   replace hs41 := hs38.call0 hs41
   refine ⟨_, rfl, WL.nil ⟨hs41, WH.rnA (Acts.nil.cons (j := 37) rfl g39) [41] hs41 [] rfl rfl ?_⟩⟩
   refine WH.take 42 rfl (by kernel_rfl) rfl rfl rfl hs41 (fun w_ hs_ => (Run.pick rfl rfl rfl rfl)) ?_
   refine WH.rn [43] hs41 [] rfl rfl (WH.split 72 rfl (fun g42 => ?_) (fun g42 => ?_))
   ·refine WH.takeSkip 44 rfl (by kernel_rfl) (wantNF rfl g42) rfl rfl hs41 (WH.takeSkip 45 rfl (by kernel_rfl) (wantNF rfl g42) rfl rfl hs41 (WH.takeSkip 47 rfl (by kernel_rfl) (wantNF rfl g42) rfl rfl hs41 (WH.takeSkip 48 rfl (by kernel_rfl) (wantNF rfl g42) rfl rfl hs41 (WH.o1 46 rfl (WL.skip (wantNF rfl g42) rfl rfl (WL.nil ⟨hs41, WH.o1 49 rfl ?_⟩))))))
    refine WL.skip (wantNF rfl g42) rfl rfl (WL.nil ⟨hs41, WH.takeSkip 50 rfl (by kernel_rfl) (wantNF rfl g42) rfl rfl hs41 ?_⟩)
    refine WH.take 51 rfl (by kernel_rfl) rfl rfl rfl hs41 (fun w_ hs_ => (Run.pickT rfl rfl g42 rfl)) ?_
    refine WH.dn (hK27 _ _ (WC.condT rfl rfl ?_))
    have hbad : winsOkS s.dat = false := winsS_no (i := i) (by omega) (by
      show (((decide (1 ≤ (gat encWinR s.Wins.xs i).Id) && decide ((gat encWinR s.Wins.xs i).Id < s.Next)) && (wordOk (gat encWinR s.Wins.xs i).Name && placesOk (gat encWinR s.Wins.xs i).Tree.xs s.W s.H)) && hasI (panesL (gat encWinR s.Wins.xs i).Tree.xs) (gat encWinR s.Wins.xs i).Active) = false ∨ _
      rw [← paneAt_has]
      by_cases hpl : placesOk (gat encWinR s.Wins.xs i).Tree.xs s.W s.H = true
      · have hlp := leaves_panes hpl
        grind
      · grind)
    refine WC.r1 hs41 [] rfl (WC.ret (tkR (ibR (tkR (tkR (ibR (tkR ?_)))))))
    clear hK26 hK17 hK9
    refine rtv rfl rfl hs41 ?_
    first | rw [hbad] | (unfold winsOkS; rw [hWc, hall, Bool.true_and]; congr 1; rw [decide_eq_decide]; omega)
   refine WH.rnA (Acts.nil.cons (j := 43) rfl g42) [44, 45, 47, 48] hs41 [0, 0] rfl rfl (WH.o1 46 rfl ?_)
   refine WL.call (wantF rfl g42) rfl rfl (Run.call Tryz.call40 rfl rfl rfl) (k29_ _ _ _ _ _ (SlF.st0 (SlN.nth f_s.Wins (by first | omega | (simp only [decide_eq_true_eq] at *; omega))).Tree hs41) ?_) ?_
   · first | assumption | rfl | omega | (rw [List.length_take]; omega)
   rintro _ whs44 ⟨A45, c46, L1_47, rfl, hs44, ho48⟩
   replace hs44 := hs41.callF hs44
   refine ⟨_, rfl, ?_⟩
   replace hs44 := St.back [_, _] hs44
   refine WL.nil ⟨(hs44.rm L1_47), WH.o1 49 rfl (WL.call (wantF rfl g42) rfl rfl (Run.call Tryz.call39 rfl rfl rfl) (k27_ _ _ _ _ _ _ (SlF.ofOwn ho48 (hs44.ow L1_47)) ?_) ?_)⟩
   · first | assumption | rfl | omega | (rw [List.length_take]; omega)
   rintro _ whs49 ⟨rfl, hs49⟩
   replace hs49 := hs44.call0 hs49
   refine ⟨_, rfl, WL.nil ⟨(hs49.rm L1_47), WH.rnA (Acts.nil.cons (j := 43) rfl g42) [50] (hs49.rm L1_47) [] rfl rfl ?_⟩⟩
   refine WH.take 51 rfl (by kernel_rfl) rfl rfl rfl (hs49.rm L1_47) (fun w_ hs_ => (Run.pick rfl rfl rfl rfl)) ?_
   refine WH.dn (hK27 _ _ ?_)
   refine WC.cq rfl (fun h50 qh50 => ?_) (fun h50 qh50 => ?_)
   ·have hbad : winsOkS s.dat = false := winsS_no (i := i) (by omega) (by
      show (((decide (1 ≤ (gat encWinR s.Wins.xs i).Id) && decide ((gat encWinR s.Wins.xs i).Id < s.Next)) && (wordOk (gat encWinR s.Wins.xs i).Name && placesOk (gat encWinR s.Wins.xs i).Tree.xs s.W s.H)) && hasI (panesL (gat encWinR s.Wins.xs i).Tree.xs) (gat encWinR s.Wins.xs i).Active) = false ∨ _
      rw [← paneAt_has]
      by_cases hpl : placesOk (gat encWinR s.Wins.xs i).Tree.xs s.W s.H = true
      · have hlp := leaves_panes hpl
        grind
      · grind)
    refine WC.r1 hs49 [] rfl (WC.ret (tkR (ibR (tkR (tkR (ibR (tkR ?_)))))))
    clear hK26 hK17 hK9
    refine rtv rfl rfl hs49 ?_
    first | rw [hbad] | (unfold winsOkS; rw [hWc, hall, Bool.true_and]; congr 1; rw [decide_eq_decide]; omega)
   have hpl : placesOk (gat encWinR s.Wins.xs i).Tree.xs s.W s.H = true := by grind
   have hlp := leaves_panes hpl
   have hgood : (winB s.dat (gat encWinR s.Wins.xs i).dat = true ∧ (0 < i → (gat encWinR s.Wins.xs (i - 1)).Id < (gat encWinR s.Wins.xs i).Id)) ∧ hasI (pIds s.dat) (gat encWinR s.Wins.xs i).Id = false := by
     show ((((decide (1 ≤ (gat encWinR s.Wins.xs i).Id) && decide ((gat encWinR s.Wins.xs i).Id < s.Next)) && (wordOk (gat encWinR s.Wins.xs i).Name && placesOk (gat encWinR s.Wins.xs i).Tree.xs s.W s.H)) && hasI (panesL (gat encWinR s.Wins.xs i).Tree.xs) (gat encWinR s.Wins.xs i).Active) = true ∧ _) ∧ _
     rw [← Bool.not_eq_true (hasI (pIds _) _), ← paneAt_has]
     grind
   refine WC.skip (hK26 _ _ (WC.region (WL.r 3 hs49 [0] rfl ?_)))
   refine WL.cl Tryz.call40 rfl (k29_ _ _ _ _ _ (SlF.st0 (SlN.nth f_s.Wins (by first | omega | (simp only [decide_eq_true_eq] at *; omega))).Tree hs49) ?_) ?_
   · first | assumption | rfl | omega | (rw [List.length_take]; omega)
   rintro _ whs51 ⟨A52, c53, L1_54, rfl, hs51, ho55⟩
   replace hs51 := hs49.callF hs51
   refine ⟨_, rfl, ?_⟩
   replace hs51 := St.back [_, _] hs51
   refine WL.appendG (hs51.fr L12) ho13 (SlF.src (SlF.ofOwn ho55 (hs51.ow L1_54)) Tryz.underlying60) Tryz.underlying60 inf3 rfl rfl rfl rfl rfl rfl rfl rfl rfl rfl ?_ (fun A59 c60 L56 whs57 hs57 ho58 => ?_)
   · first | omega | (simp only [List.length_append, List.length_cons, List.length_nil]; omega)
   replace hs57 := St.back [_, _] hs57
   refine WL.r 1 hs57 [] rfl (WL.nil (hK17 _ _ (WC.region (WL.r 2 hs57 [] rfl (WL.nil (tkN ?_))))))
   replace hs57 := (((hs57.d1.rm L1_54).rm L1_47).rm L1_24)
   refine ⟨sbF rfl, _, (hs57.fr L56), _, ?_, _, i + 1, _, _, rfl, ?_, ?_, ?_, ?_, ho58, ⟨rfl, rfl, trivial⟩⟩
   · omega
   · omega
   · rw [treesL_snoc (by omega), p1, leaves_panes hpl]
   · rw [List.length_append]; omega
   · intro j hj; rcases Nat.lt_or_ge j i with h_ | h_
     · exact p3 j h_
     · obtain rfl : j = i := by omega
       exact hgood
  refine WH.takeSkip 18 rfl (by kernel_rfl) (wantNT rfl g35) rfl rfl hs28 (WH.takeSkip 19 rfl (by kernel_rfl) (wantNT rfl g35) rfl rfl hs28 (WH.takeSkip 20 rfl (by kernel_rfl) (wantNT rfl g35) rfl rfl hs28 (WH.takeSkip 21 rfl (by kernel_rfl) (wantNT rfl g35) rfl rfl hs28 (WH.takeSkip 22 rfl (by kernel_rfl) (wantNT rfl g35) rfl rfl hs28 (WH.takeSkip 23 rfl (by kernel_rfl) (wantNT rfl g35) rfl rfl hs28 (WH.takeSkip 24 rfl (by kernel_rfl) (wantNT rfl g35) rfl rfl hs28 (WH.takeSkip 25 rfl (by kernel_rfl) (wantNT rfl g35) rfl rfl hs28 ?_)))))))
  refine WH.takeSkip 26 rfl (by kernel_rfl) (wantNT rfl g35) rfl rfl hs28 (WH.takeSkip 27 rfl (by kernel_rfl) (wantNT rfl g35) rfl rfl hs28 ?_)
  refine WH.take 28 rfl (by kernel_rfl) (wantF rfl g33) rfl rfl hs28 (fun w_ hs_ => (Run.pickF rfl rfl g35 rfl)) ?_
  refine WH.take 29 rfl (by kernel_rfl) rfl rfl rfl hs28 (fun w_ hs_ => (Run.pick rfl rfl rfl rfl)) ?_
  refine WH.rn [30] hs28 [] rfl rfl (WH.split 59 rfl (fun g61 => ?_) (fun g61 => ?_))
  ·refine WH.takeSkip 31 rfl (by kernel_rfl) (wantNF rfl g61) rfl rfl hs28 (WH.takeSkip 32 rfl (by kernel_rfl) (wantNF rfl g61) rfl rfl hs28 (WH.takeSkip 33 rfl (by kernel_rfl) (wantNF rfl g61) rfl rfl hs28 (WH.o1 34 rfl (WL.skip (wantNF rfl g61) rfl rfl (WL.nil ⟨hs28, WH.takeSkip 35 rfl (by kernel_rfl) (wantNF rfl g61) rfl rfl hs28 ?_⟩)))))
   refine WH.take 36 rfl (by kernel_rfl) rfl rfl rfl hs28 (fun w_ hs_ => (Run.pickT rfl rfl g61 rfl)) ?_
   refine WH.rn [37] hs28 [] rfl rfl (WH.takeSkip 38 rfl (by kernel_rfl) (wantNF rfl rfl) rfl rfl hs28 (WH.takeSkip 39 rfl (by kernel_rfl) (wantNF rfl rfl) rfl rfl hs28 (WH.o1 40 rfl (WL.skip (wantNF rfl rfl) rfl rfl (WL.nil ⟨hs28, WH.takeSkip 41 rfl (by kernel_rfl) (wantNF rfl rfl) rfl rfl hs28 ?_⟩)))))
   refine WH.take 42 rfl (by kernel_rfl) rfl rfl rfl hs28 (fun w_ hs_ => (Run.pickT rfl rfl rfl rfl)) ?_
   refine WH.rn [43] hs28 [] rfl rfl (WH.takeSkip 44 rfl (by kernel_rfl) (wantNF rfl rfl) rfl rfl hs28 (WH.takeSkip 45 rfl (by kernel_rfl) (wantNF rfl rfl) rfl rfl hs28 (WH.takeSkip 47 rfl (by kernel_rfl) (wantNF rfl rfl) rfl rfl hs28 (WH.takeSkip 48 rfl (by kernel_rfl) (wantNF rfl rfl) rfl rfl hs28 (WH.o1 46 rfl (WL.skip (wantNF rfl rfl) rfl rfl (WL.nil ⟨hs28, ?_⟩)))))))
   refine WH.o1 49 rfl (WL.skip (wantNF rfl rfl) rfl rfl (WL.nil ⟨hs28, WH.takeSkip 50 rfl (by kernel_rfl) (wantNF rfl rfl) rfl rfl hs28 ?_⟩))
   refine WH.take 51 rfl (by kernel_rfl) rfl rfl rfl hs28 (fun w_ hs_ => (Run.pickT rfl rfl rfl rfl)) ?_
   refine WH.dn (hK27 _ _ (WC.condT rfl rfl ?_))
   have hbad : winsOkS s.dat = false := winsS_no (i := i) (by omega) (by
     show (((decide (1 ≤ (gat encWinR s.Wins.xs i).Id) && decide ((gat encWinR s.Wins.xs i).Id < s.Next)) && (wordOk (gat encWinR s.Wins.xs i).Name && placesOk (gat encWinR s.Wins.xs i).Tree.xs s.W s.H)) && hasI (panesL (gat encWinR s.Wins.xs i).Tree.xs) (gat encWinR s.Wins.xs i).Active) = false ∨ _
     rw [← paneAt_has]
     by_cases hpl : placesOk (gat encWinR s.Wins.xs i).Tree.xs s.W s.H = true
     · have hlp := leaves_panes hpl
       grind
     · grind)
   refine WC.r1 hs28 [] rfl (WC.ret (tkR (ibR (tkR (tkR (ibR (tkR ?_)))))))
   clear hK26 hK17 hK9
   refine rtv rfl rfl hs28 ?_
   first | rw [hbad] | (unfold winsOkS; rw [hWc, hall, Bool.true_and]; congr 1; rw [decide_eq_decide]; omega)
  refine WH.rnA (Acts.nil.cons (j := 30) rfl g61) [31, 32, 33] hs28 [1, 0] rfl rfl (WH.o1 34 rfl (WL.call (wantF rfl g61) rfl rfl (Run.call Tryz.call116 rfl rfl rfl) (k57_ s _ _ (okStateR.st0 f_s hs28)) ?_))
  rintro _ whs63 ⟨rfl, hs63⟩
  replace hs63 := hs28.call0 hs63
  refine ⟨_, rfl, WL.nil ⟨hs63, WH.rnA (Acts.nil.cons (j := 30) rfl g61) [35] hs63 [] rfl rfl ?_⟩⟩
  refine WH.take 36 rfl (by kernel_rfl) rfl rfl rfl hs63 (fun w_ hs_ => (Run.pick rfl rfl rfl rfl)) ?_
  refine WH.rn [37] hs63 [] rfl rfl (WH.split 66 rfl (fun g64 => ?_) (fun g64 => ?_))
  ·refine WH.takeSkip 38 rfl (by kernel_rfl) (wantNF rfl g64) rfl rfl hs63 (WH.takeSkip 39 rfl (by kernel_rfl) (wantNF rfl g64) rfl rfl hs63 (WH.o1 40 rfl (WL.skip (wantNF rfl g64) rfl rfl (WL.nil ⟨hs63, WH.takeSkip 41 rfl (by kernel_rfl) (wantNF rfl g64) rfl rfl hs63 ?_⟩))))
   refine WH.take 42 rfl (by kernel_rfl) rfl rfl rfl hs63 (fun w_ hs_ => (Run.pickT rfl rfl g64 rfl)) ?_
   refine WH.rn [43] hs63 [] rfl rfl (WH.takeSkip 44 rfl (by kernel_rfl) (wantNF rfl rfl) rfl rfl hs63 (WH.takeSkip 45 rfl (by kernel_rfl) (wantNF rfl rfl) rfl rfl hs63 (WH.takeSkip 47 rfl (by kernel_rfl) (wantNF rfl rfl) rfl rfl hs63 (WH.takeSkip 48 rfl (by kernel_rfl) (wantNF rfl rfl) rfl rfl hs63 (WH.o1 46 rfl (WL.skip (wantNF rfl rfl) rfl rfl (WL.nil ⟨hs63, ?_⟩)))))))
   refine WH.o1 49 rfl (WL.skip (wantNF rfl rfl) rfl rfl (WL.nil ⟨hs63, WH.takeSkip 50 rfl (by kernel_rfl) (wantNF rfl rfl) rfl rfl hs63 ?_⟩))
   refine WH.take 51 rfl (by kernel_rfl) rfl rfl rfl hs63 (fun w_ hs_ => (Run.pickT rfl rfl rfl rfl)) ?_
   refine WH.dn (hK27 _ _ (WC.condT rfl rfl ?_))
   have hbad : winsOkS s.dat = false := winsS_no (i := i) (by omega) (by
     show (((decide (1 ≤ (gat encWinR s.Wins.xs i).Id) && decide ((gat encWinR s.Wins.xs i).Id < s.Next)) && (wordOk (gat encWinR s.Wins.xs i).Name && placesOk (gat encWinR s.Wins.xs i).Tree.xs s.W s.H)) && hasI (panesL (gat encWinR s.Wins.xs i).Tree.xs) (gat encWinR s.Wins.xs i).Active) = false ∨ _
     rw [← paneAt_has]
     by_cases hpl : placesOk (gat encWinR s.Wins.xs i).Tree.xs s.W s.H = true
     · have hlp := leaves_panes hpl
       grind
     · grind)
   refine WC.r1 hs63 [] rfl (WC.ret (tkR (ibR (tkR (tkR (ibR (tkR ?_)))))))
   clear hK26 hK17 hK9
   refine rtv rfl rfl hs63 ?_
   first | rw [hbad] | (unfold winsOkS; rw [hWc, hall, Bool.true_and]; congr 1; rw [decide_eq_decide]; omega)
  refine WH.rnA (Acts.nil.cons (j := 37) rfl g64) [38, 39] hs63 [0] rfl rfl (WH.o1 40 rfl (WL.call (wantF rfl g64) rfl rfl (Run.call Tryz.call117 rfl rfl rfl) (k110_ _ _ ?_) ?_))
  · first | assumption | rfl | omega | (rw [List.length_take]; omega)
  rintro _ whs66 ⟨rfl, hs66⟩
  replace hs66 := hs63.call0 hs66
  refine ⟨_, rfl, WL.nil ⟨hs66, WH.rnA (Acts.nil.cons (j := 37) rfl g64) [41] hs66 [] rfl rfl ?_⟩⟩
  refine WH.take 42 rfl (by kernel_rfl) rfl rfl rfl hs66 (fun w_ hs_ => (Run.pick rfl rfl rfl rfl)) ?_
  refine WH.rn [43] hs66 [] rfl rfl (WH.split 72 rfl (fun g67 => ?_) (fun g67 => ?_))
  ·refine WH.takeSkip 44 rfl (by kernel_rfl) (wantNF rfl g67) rfl rfl hs66 (WH.takeSkip 45 rfl (by kernel_rfl) (wantNF rfl g67) rfl rfl hs66 (WH.takeSkip 47 rfl (by kernel_rfl) (wantNF rfl g67) rfl rfl hs66 (WH.takeSkip 48 rfl (by kernel_rfl) (wantNF rfl g67) rfl rfl hs66 (WH.o1 46 rfl (WL.skip (wantNF rfl g67) rfl rfl (WL.nil ⟨hs66, WH.o1 49 rfl ?_⟩))))))
   refine WL.skip (wantNF rfl g67) rfl rfl (WL.nil ⟨hs66, WH.takeSkip 50 rfl (by kernel_rfl) (wantNF rfl g67) rfl rfl hs66 ?_⟩)
   refine WH.take 51 rfl (by kernel_rfl) rfl rfl rfl hs66 (fun w_ hs_ => (Run.pickT rfl rfl g67 rfl)) ?_
   refine WH.dn (hK27 _ _ (WC.condT rfl rfl ?_))
   have hbad : winsOkS s.dat = false := winsS_no (i := i) (by omega) (by
     show (((decide (1 ≤ (gat encWinR s.Wins.xs i).Id) && decide ((gat encWinR s.Wins.xs i).Id < s.Next)) && (wordOk (gat encWinR s.Wins.xs i).Name && placesOk (gat encWinR s.Wins.xs i).Tree.xs s.W s.H)) && hasI (panesL (gat encWinR s.Wins.xs i).Tree.xs) (gat encWinR s.Wins.xs i).Active) = false ∨ _
     rw [← paneAt_has]
     by_cases hpl : placesOk (gat encWinR s.Wins.xs i).Tree.xs s.W s.H = true
     · have hlp := leaves_panes hpl
       grind
     · grind)
   refine WC.r1 hs66 [] rfl (WC.ret (tkR (ibR (tkR (tkR (ibR (tkR ?_)))))))
   clear hK26 hK17 hK9
   refine rtv rfl rfl hs66 ?_
   first | rw [hbad] | (unfold winsOkS; rw [hWc, hall, Bool.true_and]; congr 1; rw [decide_eq_decide]; omega)
  refine WH.rnA (Acts.nil.cons (j := 43) rfl g67) [44, 45, 47, 48] hs66 [0, 0] rfl rfl (WH.o1 46 rfl ?_)
  refine WL.call (wantF rfl g67) rfl rfl (Run.call Tryz.call40 rfl rfl rfl) (k29_ _ _ _ _ _ (SlF.st0 (SlN.nth f_s.Wins (by first | omega | (simp only [decide_eq_true_eq] at *; omega))).Tree hs66) ?_) ?_
  · first | assumption | rfl | omega | (rw [List.length_take]; omega)
  rintro _ whs69 ⟨A70, c71, L1_72, rfl, hs69, ho73⟩
  replace hs69 := hs66.callF hs69
  refine ⟨_, rfl, ?_⟩
  replace hs69 := St.back [_, _] hs69
  refine WL.nil ⟨(hs69.rm L1_72), WH.o1 49 rfl (WL.call (wantF rfl g67) rfl rfl (Run.call Tryz.call39 rfl rfl rfl) (k27_ _ _ _ _ _ _ (SlF.ofOwn ho73 (hs69.ow L1_72)) ?_) ?_)⟩
  · first | assumption | rfl | omega | (rw [List.length_take]; omega)
  rintro _ whs74 ⟨rfl, hs74⟩
  replace hs74 := hs69.call0 hs74
  refine ⟨_, rfl, WL.nil ⟨(hs74.rm L1_72), WH.rnA (Acts.nil.cons (j := 43) rfl g67) [50] (hs74.rm L1_72) [] rfl rfl ?_⟩⟩
  refine WH.take 51 rfl (by kernel_rfl) rfl rfl rfl (hs74.rm L1_72) (fun w_ hs_ => (Run.pick rfl rfl rfl rfl)) ?_
  refine WH.dn (hK27 _ _ ?_)
  refine WC.cq rfl (fun h75 qh75 => ?_) (fun h75 qh75 => ?_)
  ·have hbad : winsOkS s.dat = false := winsS_no (i := i) (by omega) (by
     show (((decide (1 ≤ (gat encWinR s.Wins.xs i).Id) && decide ((gat encWinR s.Wins.xs i).Id < s.Next)) && (wordOk (gat encWinR s.Wins.xs i).Name && placesOk (gat encWinR s.Wins.xs i).Tree.xs s.W s.H)) && hasI (panesL (gat encWinR s.Wins.xs i).Tree.xs) (gat encWinR s.Wins.xs i).Active) = false ∨ _
     rw [← paneAt_has]
     by_cases hpl : placesOk (gat encWinR s.Wins.xs i).Tree.xs s.W s.H = true
     · have hlp := leaves_panes hpl
       grind
     · grind)
   refine WC.r1 hs74 [] rfl (WC.ret (tkR (ibR (tkR (tkR (ibR (tkR ?_)))))))
   clear hK26 hK17 hK9
   refine rtv rfl rfl hs74 ?_
   first | rw [hbad] | (unfold winsOkS; rw [hWc, hall, Bool.true_and]; congr 1; rw [decide_eq_decide]; omega)
  have hpl : placesOk (gat encWinR s.Wins.xs i).Tree.xs s.W s.H = true := by grind
  have hlp := leaves_panes hpl
  have hgood : (winB s.dat (gat encWinR s.Wins.xs i).dat = true ∧ (0 < i → (gat encWinR s.Wins.xs (i - 1)).Id < (gat encWinR s.Wins.xs i).Id)) ∧ hasI (pIds s.dat) (gat encWinR s.Wins.xs i).Id = false := by
    show ((((decide (1 ≤ (gat encWinR s.Wins.xs i).Id) && decide ((gat encWinR s.Wins.xs i).Id < s.Next)) && (wordOk (gat encWinR s.Wins.xs i).Name && placesOk (gat encWinR s.Wins.xs i).Tree.xs s.W s.H)) && hasI (panesL (gat encWinR s.Wins.xs i).Tree.xs) (gat encWinR s.Wins.xs i).Active) = true ∧ _) ∧ _
    rw [← Bool.not_eq_true (hasI (pIds _) _), ← paneAt_has]
    grind
  refine WC.skip (hK26 _ _ (WC.region (WL.r 3 hs74 [0] rfl ?_)))
  refine WL.cl Tryz.call40 rfl (k29_ _ _ _ _ _ (SlF.st0 (SlN.nth f_s.Wins (by first | omega | (simp only [decide_eq_true_eq] at *; omega))).Tree hs74) ?_) ?_
  · first | assumption | rfl | omega | (rw [List.length_take]; omega)
  rintro _ whs76 ⟨A77, c78, L1_79, rfl, hs76, ho80⟩
  replace hs76 := hs74.callF hs76
  refine ⟨_, rfl, ?_⟩
  replace hs76 := St.back [_, _] hs76
  refine WL.appendG (hs76.fr L12) ho13 (SlF.src (SlF.ofOwn ho80 (hs76.ow L1_79)) Tryz.underlying60) Tryz.underlying60 inf3 rfl rfl rfl rfl rfl rfl rfl rfl rfl rfl ?_ (fun A84 c85 L81 whs82 hs82 ho83 => ?_)
  · first | omega | (simp only [List.length_append, List.length_cons, List.length_nil]; omega)
  replace hs82 := St.back [_, _] hs82
  refine WL.r 1 hs82 [] rfl (WL.nil (hK17 _ _ (WC.region (WL.r 2 hs82 [] rfl (WL.nil (tkN ?_))))))
  replace hs82 := (((hs82.d1.rm L1_79).rm L1_72).rm L1_24)
  refine ⟨sbF rfl, _, (hs82.fr L81), _, ?_, _, i + 1, _, _, rfl, ?_, ?_, ?_, ?_, ho83, ⟨rfl, rfl, trivial⟩⟩
  · omega
  · omega
  · rw [treesL_snoc (by omega), p1, leaves_panes hpl]
  · rw [List.length_append]; omega
  · intro j hj; rcases Nat.lt_or_ge j i with h_ | h_
    · exact p3 j h_
    · obtain rfl : j = i := by omega
      exact hgood
 have hWc := winsS_yes (s := s) fun j hj => p3 j (by omega)
 have htr : treesL s.dat.Wins = zs := by rw [p1, List.take_of_length_le (by omega)]; rfl
 refine WC.exit (hK9 _ _ (WC.seq (fun K86 hK86 => WC.r1 hs14 [] rfl (WC.block ?_))))
 refine WC.lS [1, 3, 15, 87, 88] rfl hs14 (fun k_ f w' => ∃ (j : Nat), k_ = zs.length - j ∧ (j ≤ zs.length) ∧ (∀ k, k < j → hasI (zs.take k) (iat zs k) = false ∧ hasI (pIds s.dat) (iat zs k) = true) ∧ Sub [(89, .int .i64 j)] f) ((fun (j : Nat) => zs.length - j) (0)) ?_ ?_
 ·refine ⟨0, rfl, ?_, ?_, ⟨rfl, trivial⟩⟩
  · exact Nat.zero_le _
  · exact fun k hk => absurd hk (by omega)
 clear hs14
 rintro _ f w ⟨j, rfl, r0, r1, hG⟩ hF hs87
 refine WC.sub _ (hG.app hF) ?_
 clear hG hF
 refine WC.r1 hs87 [] rfl (WC.seq (fun K88 hK88 => ?_))
 refine WC.cq rfl (fun h89 qh89 => ?_) (fun h89 qh89 => ?_)
 ·refine WC.skip (hK88 _ _ (WC.seq (fun K90 hK90 => WC.block (WC.sr (WL.r 1 hs87 [] rfl ?_)))))
  refine WL.val rfl rfl rfl (Run.idxN Tryz.runUnderlying60 Tryz.sizeOf3 rfl rfl rfl ?_ ?_ ?_) ?_
  · exact SlF.some_ (SlF.ofOwn ho13 (hs87.ow L12))
  · first | omega | (simp only [decide_eq_true_eq] at *; omega)
  · first | omega | (simp only [decide_eq_true_eq] at *; omega)
  refine WL.val rfl rfl rfl (Run.load Tryz.isAgg3 rfl rfl (SlF.one1 (SlF.ofOwn ho13 (hs87.ow L12)) ?_ rfl)) ?_
  · first | omega | (simp only [decide_eq_true_eq] at *; omega)
  refine WL.r 2 hs87 [] rfl (WL.nil (WC.sr (WL.r 2 hs87 [] rfl ?_)))
  have ho91 := OwnF.take (k := j) ho13 (by omega)
  have hcho91 := OwnF.cap ho91
  refine WL.val rfl rfl rfl (Run.sliceH0 (j) Tryz.runUnderlying60 Tryz.sizeOf3 rfl rfl rfl ?_ ?_) ?_
  · first | rfl | (omega)
  · first | (exact Nat.zero_le _) | (omega)
  refine WL.r 1 hs87 [] rfl (WL.cl Tryz.call39 rfl (k27_ _ _ _ _ _ _ (SlF.ofOwn ho91 (hs87.ow L12)) ?_) ?_)
  · first | assumption | rfl | omega | (rw [List.length_take]; omega)
  rintro _ whs92 ⟨rfl, hs92⟩
  replace hs92 := hs87.call0 hs92
  refine ⟨_, rfl, WL.r 1 hs92 [] rfl ?_⟩
  apply WL.gO 4 Acts.nil hs92 rfl
  ·intro g93 J94
   have qg93 := g93
   try simp only [bf, within_iff, within_not] at qg93
   refine WL.runA tbk 2 (Acts.nil.cons (j := 5) rfl g93) hs92 [0] rfl ⟨rfl, trivial⟩ (WL.call (wantF rfl g93) rfl rfl (Run.call Tryz.call116 rfl rfl rfl) (k57_ s _ _ (okStateR.st0 f_s hs92)) ?_)
   rintro _ whs95 ⟨rfl, hs95⟩
   replace hs95 := hs92.call0 hs95
   refine ⟨_, rfl, WL.runA tbk 1 (Acts.nil.cons (j := 5) rfl g93) hs95 [] rfl trivial (WL.eO 4 Acts.nil J94 hs95 g93 rfl rfl)⟩
  intro _ hs96
  refine WL.nil (WC.cq rfl (fun h97 qh97 => ?_) (fun h97 qh97 => ?_))
  ·have hbad : winsOkS s.dat = false := by
     have hno := all1_no (s := s) (i := j) htr (by omega) (by
       rw [← Bool.not_eq_true (hasI (pIds _) _), ← paneAt_has]
       grind)
     unfold winsOkS
     rw [hno, Bool.and_false]
   refine WC.r1 hs96 [] rfl (WC.ret (ibR (tkR (tkR (ibR (tkR ?_))))))
   clear hK90 hK86
   refine rtv rfl rfl hs96 ?_
   first | rw [hbad] | (unfold winsOkS; rw [hWc, hall, Bool.true_and]; congr 1; rw [decide_eq_decide]; omega)
  have hgood2 : hasI (zs.take j) (iat zs j) = false ∧ hasI (pIds s.dat) (iat zs j) = true := by
    rw [← paneAt_has]
    grind
  refine WC.skip (hK90 _ _ (WC.region (WL.r 2 hs96 [] rfl (WL.nil (tkN ?_)))))
  refine ⟨sbF rfl, hs96, _, ?_, j + 1, rfl, ?_, ?_, ⟨rfl, trivial⟩⟩
  · omega
  · omega
  · intro k hk; rcases Nat.lt_or_ge k j with h_ | h_
    · exact r1 k h_
    · obtain rfl : k = j := by omega
      exact hgood2
 have hall := all1_yes (s := s) htr fun k hk => r1 k (by omega)
 refine WC.exit (hK86 _ _ (WC.r1 hs87 [0] rfl (WC.ret (rtv rfl rfl hs87 ?_))))
 first | rw [hbad] | (unfold winsOkS; rw [hWc, hall, Bool.true_and]; congr 1; rw [decide_eq_decide]; omega)
set_option maxHeartbeats 4000000 in
theorem k119_ (s : StateR) (w : World) (f_s : okStateR 549755813888 w s) (hT : totState s.dat ≤ 1048576) :
    Calls Tryz.prog 55 #[.agg #[i64 s.W, i64 s.H, i64 s.Limit, i64 s.Next, .slice s.Panes.A s.Panes.n s.Panes.c, .slice s.Wins.A s.Wins.n s.Wins.c, .slice s.Sess.A s.Sess.n s.Sess.c]] w fun e w' => e = .returned (.bool (sessOkS s.dat)) ∧ St w [] [] w' := by
 have nb_s_Panes := f_s.Panes_n
 have nl_s_Panes := f_s.Panes.sl.len
 have nb_s_Wins := f_s.Wins_n
 have nl_s_Wins := f_s.Wins.sl.len
 have nb_s_Sess := f_s.Sess_n
 have nl_s_Sess := f_s.Sess.sl.len
 have hsm0 : smState 1048576 s.dat := totState_sm hT
 have hlP : s.dat.Panes.length = s.Panes.xs.length := List.length_map _
 have hlW : s.dat.Wins.length = s.Wins.xs.length := List.length_map _
 have hlS : s.dat.Sess.length = s.Sess.xs.length := List.length_map _
 have hnP : s.dat.Panes.length ≤ 1048576 := hsm0.1
 have hnW : s.dat.Wins.length ≤ 1048576 := hsm0.2.2.1
 have hnS : s.dat.Sess.length ≤ 1048576 := hsm0.2.2.2.2.1
 have hWn : ∀ y, y ∈ s.Wins.xs → y.Tree.n ≤ 1048576 := fun y hy => by have h1 := (f_s.Wins.all y hy).Tree.len; have h2 : y.Tree.xs.length ≤ 1048576 := (hsm0.2.2.2.1 _ (List.mem_map_of_mem hy)).2; omega
 have hSnm : ∀ y, y ∈ s.Sess.xs → y.Name.size ≤ 1048576 ∧ y.Wins.xs.length ≤ 1048576 := fun y hy => hsm0.2.2.2.2.2 _ (List.mem_map_of_mem hy)
 refine enter 67 Tryz.func55 rfl Tryz.ntmps55 rfl rfl ?_
 have hs1 := St.init w
 refine WC.sr (WL.bx hs1 rfl (fun b2 _ hs3 => WL.r 1 hs3 [] rfl (WL.nil (WC.sr (WL.buildF (F := encI) hs3 ([]) Tryz.runUnderlying60 Tryz.sizeOf3 Tryz.zeroValue3 rfl rfl rfl rfl rfl rfl rfl rfl rfl rfl rfl rfl (fun A7 c8 L4 whs5 hs5 ho6 => ?_))))))
 replace hs5 := St.back [_] hs5
 refine WL.r 1 hs5 [] rfl (WL.nil (WC.seq (fun K9 hK9 => WC.r1 hs5 [0] rfl (WC.block ?_))))
 refine WC.lO [1, 10, 11] rfl (hs5.fr L4) (fun k_ f L_ => ∃ (zs : List Int) (i : Nat) (A10 : Option Addr) (c11 : Nat), k_ = s.Sess.n - i ∧ (i ≤ s.Sess.n) ∧ (zs = (sessL ((s.Sess.xs.take (i)).map SessR.dat))) ∧ (∀ j, j < i → sessB (gat encSessR s.Sess.xs j).dat = true ∧ findI (fun q : SessD => decide (q.Name = (gat encSessR s.Sess.xs j).Name)) s.dat.Sess = j) ∧ OwnF encI 3 (.slice A10 (zs.length) c11) (zs) L_ ∧ Sub [(3, .slice A10 (zs.length) c11), (12, .int .i64 i)] f) (((fun (zs : List Int) (i : Nat) => s.Sess.n - i) ([]) (0))) ?_ ?_
 ·refine ⟨[], 0, _, _, rfl, ?_, ?_, ?_, ho6, ⟨rfl, rfl, trivial⟩⟩
  · exact Nat.zero_le _
  · rfl
  · exact fun j hj => absurd hj (by omega)
 clear hs5
 rintro _ f w L12 ⟨zs, i, A10, c11, rfl, p0, p1, p2, ho13, hG⟩ hF hs14
 refine WC.sub _ (hG.app hF) ?_
 clear hG hF
 replace hs14 := St.back [_] hs14
 refine WC.r1 hs14 [] rfl (WC.seq (fun K15 hK15 => ?_))
 refine WC.cq rfl (fun h16 qh16 => ?_) (fun h16 qh16 => ?_)
 ·have hTm := (SlN.nth f_s.Sess (show i < s.Sess.n by omega))
  have hTl := hTm.Wins.len
  have hWi := hSnm (gat encSessR s.Sess.xs i) (gat_mem (by omega))
  have hzl := sessL_take_le (i := i) hT
  rw [← p1] at hzl
  have hzl2 := sessL_take_le (i := i + 1) hT
  rw [sessL_snoc (by omega), List.length_append, ← p1] at hzl2
  refine WC.skip (hK15 _ _ (WC.seq (fun K17 hK17 => WC.block (WC.sr (WL.r 1 hs14 [] rfl ?_)))))
  refine WL.val rfl rfl rfl (Run.idxN Tryz.runUnderlying31 Tryz.sizeOf106 rfl rfl rfl ?_ ?_ ?_) ?_
  · exact SlF.some_ (SlF.st0 f_s.Sess.sl hs14)
  · first | omega | (simp only [decide_eq_true_eq] at *; omega)
  · first | omega | (simp only [decide_eq_true_eq] at *; omega)
  refine WL.val rfl rfl rfl (Run.loadA Tryz.isAgg106 Tryz.sizeOf106 rfl rfl (SlF.whole (SlF.st0 f_s.Sess.sl hs14) ?_)) ?_
  · first | omega | (simp only [decide_eq_true_eq] at *; omega)
  refine WL.al hs14 Tryz.zeroValue106 rfl rfl (fun b18 _ hs19 => WL.r 1 hs19 [] rfl (WL.st tbk hs19 0 rfl rfl (fun _ hs20 => WL.nil (WC.seq (fun K21 hK21 => WC.sr (WL.r 2 hs20 [0] rfl ?_))))))
  refine WL.cl Tryz.call117 rfl (k110_ _ _ ?_) ?_
  · first | assumption | rfl | omega | (rw [List.length_take]; omega)
  rintro _ whs22 ⟨rfl, hs22⟩
  replace hs22 := hs20.call0 hs22
  refine ⟨_, rfl, WL.r 2 hs22 [] rfl ?_⟩
  apply WL.gO 6 Acts.nil hs22 rfl
  ·intro g23 J24
   have qg23 := g23
   try simp only [bf, within_iff, within_not] at qg23
   refine WL.runA tbk 3 (Acts.nil.cons (j := 4) rfl g23) hs22 [1, 0] rfl ⟨rfl, rfl, trivial⟩ (WL.call (wantF rfl g23) rfl rfl (Run.call Tryz.call118 rfl rfl rfl) (k65_ s _ _ (okStateR.st0 f_s hs22)) ?_)
   rintro _ whs25 ⟨rfl, hs25⟩
   replace hs25 := hs22.call0 hs25
   refine ⟨_, rfl, WL.runA tbk 2 (Acts.nil.cons (j := 4) rfl g23) hs25 [] rfl trivial (WL.eO 6 Acts.nil J24 hs25 g23 rfl rfl)⟩
  intro _ hs26
  refine WL.r 1 hs26 [] rfl ?_
  apply WL.gO 6 Acts.nil hs26 rfl
  ·intro g27 J28
   have qg27 := g27
   try simp only [bf, within_iff, within_not] at qg27
   refine WL.runA tbk 4 (Acts.nil.cons (j := 12) rfl g27) hs26 [0, 0] rfl ⟨rfl, rfl, trivial⟩ ?_
   refine WL.call (wantF rfl g27) rfl rfl (Run.call Tryz.call39 rfl rfl rfl) (k27_ _ _ _ _ _ _ (SlF.st0 (SlN.nth f_s.Sess (by first | omega | (simp only [decide_eq_true_eq] at *; omega))).Wins hs26) ?_) ?_
   · first | assumption | rfl | omega | (rw [List.length_take]; omega)
   rintro _ whs29 ⟨rfl, hs29⟩
   replace hs29 := hs26.call0 hs29
   refine ⟨_, rfl, WL.runA tbk 1 (Acts.nil.cons (j := 12) rfl g27) hs29 [] rfl trivial (WL.eO 6 Acts.nil J28 hs29 g27 rfl rfl)⟩
  intro _ hs30
  refine WL.nil (WC.cq rfl (fun h31 qh31 => ?_) (fun h31 qh31 => ?_))
  ·have hbad : sessOkS s.dat = false := by
     have hno : sessC s.dat = false := sessC_no (i := i) (by omega) (by
       show (wordOk (gat encSessR s.Sess.xs i).Name && hasI (gat encSessR s.Sess.xs i).Wins.xs (gat encSessR s.Sess.xs i).Active) = false ∨ _
       grind)
     unfold sessOkS
     rw [hno, Bool.false_and]
   refine WC.r1 hs30 [] rfl (WC.ret (tkR (ibR (tkR (tkR (ibR (tkR ?_)))))))
   clear hK21 hK17 hK9
   refine rtv rfl rfl hs30 ?_
   first | rw [hbad] | (unfold sessOkS; rw [hWc, hall, Bool.true_and]; congr 1; rw [decide_eq_decide]; omega)
  have hgood : sessB (gat encSessR s.Sess.xs i).dat = true ∧ findI (fun q : SessD => decide (q.Name = (gat encSessR s.Sess.xs i).Name)) s.dat.Sess = i := by
    show (wordOk (gat encSessR s.Sess.xs i).Name && hasI (gat encSessR s.Sess.xs i).Wins.xs (gat encSessR s.Sess.xs i).Active) = true ∧ _
    grind
  refine WC.skip (hK21 _ _ (WC.region (WL.r 3 hs30 [0] rfl ?_)))
  refine WL.appendG (hs30.fr L12) ho13 (SlF.src (SlF.st0 (SlN.nth f_s.Sess (by first | omega | (simp only [decide_eq_true_eq] at *; omega))).Wins hs30) Tryz.underlying60) Tryz.underlying60 inf3 rfl rfl rfl rfl rfl rfl rfl rfl rfl rfl ?_ (fun A35 c36 L32 whs33 hs33 ho34 => ?_)
  · first | omega | (simp only [List.length_append, List.length_cons, List.length_nil]; omega)
  replace hs33 := St.back [_, _] hs33
  refine WL.r 1 hs33 [] rfl (WL.nil (hK17 _ _ (WC.region (WL.r 2 hs33 [] rfl (WL.nil (tkN ?_))))))
  replace hs33 := hs33.d1
  refine ⟨sbF rfl, _, (hs33.fr L32), _, ?_, _, i + 1, _, _, rfl, ?_, ?_, ?_, ho34, ⟨rfl, rfl, trivial⟩⟩
  · omega
  · omega
  · rw [sessL_snoc (by omega), p1]
  · intro j hj; rcases Nat.lt_or_ge j i with h_ | h_
    · exact p2 j h_
    · obtain rfl : j = i := by omega
      exact hgood
 have hWc : sessC s.dat = true := sessC_yes fun j hj => p2 j (by omega)
 have htr : sessL s.dat.Sess = zs := by rw [p1, List.take_of_length_le (by omega)]; rfl
 have hzl := sessL_take_le (i := i) hT
 rw [← p1] at hzl
 refine WC.exit (hK9 _ _ (WC.seq (fun K37 hK37 => WC.r1 hs14 [] rfl (WC.block ?_))))
 refine WC.lS [1, 3, 13, 42, 43] rfl hs14 (fun k_ f w' => ∃ (j : Nat), k_ = zs.length - j ∧ (j ≤ zs.length) ∧ (∀ k, k < j → hasI (zs.take k) (iat zs k) = false ∧ hasI (wIds s.dat) (iat zs k) = true) ∧ Sub [(44, .int .i64 j)] f) ((fun (j : Nat) => zs.length - j) (0)) ?_ ?_
 ·refine ⟨0, rfl, ?_, ?_, ⟨rfl, trivial⟩⟩
  · exact Nat.zero_le _
  · exact fun k hk => absurd hk (by omega)
 clear hs14
 rintro _ f w ⟨j, rfl, r0, r1, hG⟩ hF hs38
 refine WC.sub _ (hG.app hF) ?_
 clear hG hF
 refine WC.r1 hs38 [] rfl (WC.seq (fun K39 hK39 => ?_))
 refine WC.cq rfl (fun h40 qh40 => ?_) (fun h40 qh40 => ?_)
 ·refine WC.skip (hK39 _ _ (WC.seq (fun K41 hK41 => WC.block (WC.sr (WL.r 1 hs38 [] rfl ?_)))))
  refine WL.val rfl rfl rfl (Run.idxN Tryz.runUnderlying60 Tryz.sizeOf3 rfl rfl rfl ?_ ?_ ?_) ?_
  · exact SlF.some_ (SlF.ofOwn ho13 (hs38.ow L12))
  · first | omega | (simp only [decide_eq_true_eq] at *; omega)
  · first | omega | (simp only [decide_eq_true_eq] at *; omega)
  refine WL.val rfl rfl rfl (Run.load Tryz.isAgg3 rfl rfl (SlF.one1 (SlF.ofOwn ho13 (hs38.ow L12)) ?_ rfl)) ?_
  · first | omega | (simp only [decide_eq_true_eq] at *; omega)
  refine WL.r 2 hs38 [] rfl (WL.nil (WC.sr (WL.r 2 hs38 [] rfl ?_)))
  have ho42 := OwnF.take (k := j) ho13 (by omega)
  have hcho42 := OwnF.cap ho42
  refine WL.val rfl rfl rfl (Run.sliceH0 (j) Tryz.runUnderlying60 Tryz.sizeOf3 rfl rfl rfl ?_ ?_) ?_
  · first | rfl | (omega)
  · first | (exact Nat.zero_le _) | (omega)
  refine WL.r 1 hs38 [] rfl (WL.cl Tryz.call39 rfl (k27_ _ _ _ _ _ _ (SlF.ofOwn ho42 (hs38.ow L12)) ?_) ?_)
  · first | assumption | rfl | omega | (rw [List.length_take]; omega)
  rintro _ whs43 ⟨rfl, hs43⟩
  replace hs43 := hs38.call0 hs43
  refine ⟨_, rfl, WL.r 1 hs43 [] rfl ?_⟩
  apply WL.gO 4 Acts.nil hs43 rfl
  ·intro g44 J45
   have qg44 := g44
   try simp only [bf, within_iff, within_not] at qg44
   refine WL.runA tbk 2 (Acts.nil.cons (j := 5) rfl g44) hs43 [0] rfl ⟨rfl, trivial⟩ (WL.call (wantF rfl g44) rfl rfl (Run.call Tryz.call119 rfl rfl rfl) (k61_ s _ _ (okStateR.st0 f_s hs43)) ?_)
   rintro _ whs46 ⟨rfl, hs46⟩
   replace hs46 := hs43.call0 hs46
   refine ⟨_, rfl, WL.runA tbk 1 (Acts.nil.cons (j := 5) rfl g44) hs46 [] rfl trivial (WL.eO 4 Acts.nil J45 hs46 g44 rfl rfl)⟩
  intro _ hs47
  refine WL.nil (WC.cq rfl (fun h48 qh48 => ?_) (fun h48 qh48 => ?_))
  ·have hbad : sessOkS s.dat = false := by
     have hno := all2_no (s := s) (i := j) htr (by omega) (by
       rw [← Bool.not_eq_true (hasI (wIds _) _), ← winAt_has]
       grind)
     unfold sessOkS
     rw [hno, Bool.and_false]
   refine WC.r1 hs47 [] rfl (WC.ret (ibR (tkR (tkR (ibR (tkR ?_))))))
   clear hK41 hK37
   refine rtv rfl rfl hs47 ?_
   first | rw [hbad] | (unfold sessOkS; rw [hWc, hall, Bool.true_and]; congr 1; rw [decide_eq_decide]; omega)
  have hgood2 : hasI (zs.take j) (iat zs j) = false ∧ hasI (wIds s.dat) (iat zs j) = true := by
    rw [← winAt_has]
    grind
  refine WC.skip (hK41 _ _ (WC.region (WL.r 2 hs47 [] rfl (WL.nil (tkN ?_)))))
  refine ⟨sbF rfl, hs47, _, ?_, j + 1, rfl, ?_, ?_, ⟨rfl, trivial⟩⟩
  · omega
  · omega
  · intro k hk; rcases Nat.lt_or_ge k j with h_ | h_
    · exact r1 k h_
    · obtain rfl : k = j := by omega
      exact hgood2
 have hall := all2_yes (s := s) htr fun k hk => r1 k (by omega)
 refine WC.exit (hK37 _ _ (WC.r1 hs38 [0] rfl (WC.ret (rtv rfl rfl hs38 ?_))))
 first | rw [hbad] | (unfold sessOkS; rw [hWc, hall, Bool.true_and]; congr 1; rw [decide_eq_decide]; omega)
theorem built_164_0 (x0 : Int) : Tryz.prog.built 164 [(0, .int .i64 x0)] = some (List.toArray [.int .i64 x0, .int .i64 0, .int .i64 0, .bool false, .bool false, .bool false]) := by kernel_rfl
theorem built_76 : Tryz.prog.built 76 [] = some (List.toArray [.int .i64 0, .int .i64 0, .slice none 0 0]) := by kernel_rfl
theorem built_76_0_1 (x0 : Int) (x1 : Int) : Tryz.prog.built 76 [(0, .int .i64 x0), (1, .int .i64 x1)] = some (List.toArray [.int .i64 x0, .int .i64 x1, .slice none 0 0]) := by kernel_rfl
theorem k120_  (w : World) :
    Calls Tryz.prog 115 #[] w fun e w' => e = .returned (.agg #[i64 32, i64 0, i64 0, .bool false, .bool false, .bool false]) ∧ St w [] [] w' := by
 refine enter 2 Tryz.func115 rfl Tryz.ntmps115 rfl rfl ?_
 have hs1 := St.init w
 refine WC.sr (WL.al hs1 Tryz.zeroValue164 rfl rfl (fun b2 _ hs3 => WL.nil (WC.sr ?_)))
 refine WL.val rfl rfl rfl (Run.build rfl rfl rfl rfl (built_164_0 _)) (WL.st tbk hs3 0 rfl rfl (fun _ hs4 => WL.nil (WC.ret (retV1 rfl (resV.cellA tbk hs4 0 rfl rfl rfl rfl) (⟨congrArg Ending.returned ?_, hs4.nil⟩)))))
 rfl
theorem k121_ (w_ : Int) (h_ : Int) (w : World) :
    Calls Tryz.prog 53 #[i64 w_, i64 h_] w fun e w' => ∃ r0 L0, e = .returned (.tuple #[.agg #[i64 r0.W, i64 r0.H, .slice r0.Cells.A r0.Cells.n r0.Cells.c], .bool (isSize w_ h_)]) ∧ St w [] (L0) w' ∧ ownGridR r0 L0 ∧ r0.dat = gridRes w_ h_ := by
 refine enter 46 Tryz.func53 rfl Tryz.ntmps53 rfl rfl ?_
 have hs1 := St.init w
 refine WC.sr (WL.al hs1 Tryz.zeroValue76 rfl rfl (fun b2 _ hs3 => WL.r 1 hs3 [] rfl (WL.nil (WC.seq (fun K4 hK4 => WC.sr (WL.r 3 hs3 [] rfl (WL.pO tbk 2 Acts.nil hs3 [] rfl rfl rfl rfl (fun g_ => trivial) ?_)))))))
 refine WL.r 1 hs3 [] rfl (WL.pO tbk 2 Acts.nil hs3 [] rfl rfl rfl rfl (fun g_ => trivial) (WL.r 1 hs3 [] rfl (WL.pO tbk 2 Acts.nil hs3 [] rfl rfl rfl rfl (fun g_ => trivial) (WL.r 1 hs3 [] rfl ?_))))
 apply WL.gO 4 Acts.nil hs3 rfl
 ·intro g5 J6
  have qg5 := g5
  try simp only [bf, within_iff, within_not] at qg5
  refine WL.runA tbk 4 (Acts.nil.cons (j := 14) rfl g5) hs3 [] rfl ⟨?_, trivial⟩ ?_
  · (have h9 := mul_size (w := w_) (h := h_) (by omega) (by omega); constructor <;> omega)
  exact WL.eO 4 Acts.nil J6 hs3 g5 rfl rfl
 intro _ hs7
 refine WL.nil (WC.cq rfl (fun h8 qh8 => ?_) (fun h8 qh8 => ?_))
 ·have hm : isSize w_ h_ = false := by rw [← Bool.not_eq_true, isSize_iff]; have h8 := h8; simp at h8; omega
  refine WC.sr ?_
  refine WL.val rfl rfl rfl (Run.build rfl rfl rfl rfl (built_76)) (WL.st tbk hs7 0 rfl rfl (fun _ hs9 => WL.r 1 hs9 [] rfl (WL.nil (WC.ret (tkR ?_)))))
  clear hK4
  refine retV2 rfl (resV.cellA tbk hs9 0 rfl rfl rfl rfl) (resV.tmp rfl) ?_
  rw [show isSize w_ h_ = false from hm]
  have hv : gridRes w_ h_ = grid0 := by unfold gridRes; rw [hm]; rfl
  refine ⟨⟨0, 0, ⟨none, 0, 0, []⟩⟩, _, rfl, (St.keep1 (hs9.fr ([] : Hp))), ?_, ?_⟩
  · exact (OwnF.nil _ _)
  · rw [hv]; rfl
 have hm : isSize w_ h_ = true := by rw [isSize_iff]; have h8 := h8; simp at h8; omega
 obtain ⟨hw, hh, hm1, hm2⟩ := isSize_bnd hm
 refine WC.skip (hK4 _ _ (WC.sr (WL.r 2 hs7 [] rfl ?_)))
 refine WL.val rfl rfl rfl (Run.build rfl rfl rfl rfl (built_76_0_1 _ _)) (WL.al hs7 Tryz.zeroValue76 rfl rfl (fun b11 _ hs12 => WL.st tbk hs12 0 rfl rfl (fun _ hs13 => WL.nil (WC.seq (fun K14 hK14 => WC.r1 hs13 [] rfl (WC.block ?_))))))
 have hM20 := (St.grp1 (L1 := ([] : Hp)) [_] (((hs13.fb b2).fr ([] : Hp)).fb b11))
 refine WC.lV [0, 1, 4, 5, 6, 27] rfl hM20 (fun k_ (a_ : Hp) f => ∃ (i : Nat) (zs : List CellD) (A16 : Option Addr) (c17 : Nat) (L18 : Hp), k_ = (w_ * h_).toNat - i ∧ a_ = [(b11, .cells (List.toArray [i64 w_, i64 h_, .slice A16 zs.length c17]) 76 (0, 0))] ++ L18 ∧ (i ≤ (w_ * h_).toNat) ∧ (zs = List.replicate i blankC) ∧ OwnF encCell 164 (.slice A16 (zs).length c17) (zs) L18 ∧ Sub [(7, .int .i64 i)] f) (((fun (i : Nat) (zs : List CellD) => (w_ * h_).toNat - i) (0) ([]))) ?_ ?_
 ·refine ⟨0, [], none, 0, ([] : Hp), rfl, rfl, ?_, ?_, (OwnF.nil _ _), ⟨rfl, trivial⟩⟩
  · omega
  · rfl
 rintro _ _ f w ⟨i, zs, A16, c17, L18, rfl, rfl, p0, p1, ho19, hG⟩ hF hs21
 refine WC.sub _ (hG.app hF) ?_
 clear hG hF
 replace hs21 := St.ungrp1 [_] hs21
 have hs22 := ((hs21.fb b2).fb b11)
 have hzl : zs.length = i := by rw [p1]; simp
 refine WC.seq (fun K23 hK23 => WC.r1 hs22 [] rfl ?_)
 refine WC.cq rfl (fun h24 qh24 => ?_) (fun h24 qh24 => ?_)
 ·refine WC.skip (hK23 _ _ (WC.seq (fun K25 hK25 => WC.block (WC.rH (hs22.d1.rm L18) hs22 (fun _ hs26 => ?_)))))
  refine WH.rn [0] (hs26.d1.rm L18) [] rfl rfl (WH.all [1, 2] (by kernel_rfl) rfl (WHs.cons (i := 1) rfl ?_ (WHs.cons (i := 2) rfl ?_ WHs.nil)))
  ·refine WL.r 1 hs26 [0] rfl (WL.nil ⟨(hs26.d1.rm L18), WH.o1 2 rfl (WL.cl Tryz.call115 rfl (k120_ _) ?_)⟩)
   rintro _ whs27 ⟨rfl, hs27⟩
   replace hs27 := hs26.call0 hs27
   refine ⟨_, rfl, WL.nil ⟨(hs27.d1.rm L18), WH.o1 3 rfl (WL.buildF (F := encCell) hs27 ([blankC]) Tryz.runUnderlying74 Tryz.sizeOf164 Tryz.zeroValue164 rfl rfl rfl rfl rfl rfl rfl rfl rfl rfl rfl rfl (fun A31 c32 L28 whs29 hs29 ho30 => ?_))⟩⟩
   replace hs29 := St.back [_, _] hs29
   refine WL.nil ⟨((hs29.d1.rm L28).rm L18), WH.o1 4 rfl (WL.appendG (hs29.fr L18) ho19 (SlF.src (SlF.ofOwn ho30 (hs29.ow L28)) Tryz.underlying74) Tryz.underlying74 inf164 rfl rfl rfl rfl rfl rfl rfl rfl rfl rfl ?_ (fun A36 c37 L33 whs34 hs34 ho35 => ?_))⟩
   · simp; omega
   replace hs34 := St.back [_, _] hs34
   refine WL.nil ⟨((hs34.d1.rm L33).rm L28), WH.rn [5] ((hs34.d1.rm L33).rm L28) [] rfl rfl (WH.o1 6 rfl (WL.st tbk hs34 0 rfl rfl (fun _ hs38 => WL.nil ⟨((hs38.d1.rm L33).rm L28), WH.dn (hK25 _ _ (WC.region ?_))⟩)))⟩
   refine WL.r 3 hs38 [] rfl (WL.nil (tkN ?_))
   replace hs38 := (hs38.rm L28)
   have hF39 := (St.grp1 (L1 := L33) [_] (((hs38.fb b2).fr L33).fb b11))
   refine ⟨sbF rfl, _, hF39, _, ?_, i + 1, _, A36, c37, L33, rfl, rfl, ?_, ?_, ho35, ⟨rfl, trivial⟩⟩
   · omega
   · omega
   · rw [p1]; exact List.replicate_succ'.symm
  refine WL.cl Tryz.call115 rfl (k120_ _) ?_
  rintro _ whs40 ⟨rfl, hs40⟩
  replace hs40 := hs26.call0 hs40
  refine ⟨_, rfl, WL.nil ⟨(hs40.d1.rm L18), WH.all [1, 3] (by kernel_rfl) rfl (WHs.cons (i := 1) rfl ?_ (WHs.cons (i := 3) rfl ?_ WHs.nil))⟩⟩
  ·refine WL.r 1 hs40 [0] rfl (WL.nil ⟨(hs40.d1.rm L18), WH.o1 3 rfl (WL.buildF (F := encCell) hs40 ([blankC]) Tryz.runUnderlying74 Tryz.sizeOf164 Tryz.zeroValue164 rfl rfl rfl rfl rfl rfl rfl rfl rfl rfl rfl rfl (fun A44 c45 L41 whs42 hs42 ho43 => ?_))⟩)
   replace hs42 := St.back [_, _] hs42
   refine WL.nil ⟨((hs42.d1.rm L41).rm L18), WH.o1 4 rfl (WL.appendG (hs42.fr L18) ho19 (SlF.src (SlF.ofOwn ho43 (hs42.ow L41)) Tryz.underlying74) Tryz.underlying74 inf164 rfl rfl rfl rfl rfl rfl rfl rfl rfl rfl ?_ (fun A49 c50 L46 whs47 hs47 ho48 => ?_))⟩
   · simp; omega
   replace hs47 := St.back [_, _] hs47
   refine WL.nil ⟨((hs47.d1.rm L46).rm L41), WH.rn [5] ((hs47.d1.rm L46).rm L41) [] rfl rfl (WH.o1 6 rfl (WL.st tbk hs47 0 rfl rfl (fun _ hs51 => WL.nil ⟨((hs51.d1.rm L46).rm L41), WH.dn (hK25 _ _ (WC.region ?_))⟩)))⟩
   refine WL.r 3 hs51 [] rfl (WL.nil (tkN ?_))
   replace hs51 := (hs51.rm L41)
   have hF52 := (St.grp1 (L1 := L46) [_] (((hs51.fb b2).fr L46).fb b11))
   refine ⟨sbF rfl, _, hF52, _, ?_, i + 1, _, A49, c50, L46, rfl, rfl, ?_, ?_, ho48, ⟨rfl, trivial⟩⟩
   · omega
   · omega
   · rw [p1]; exact List.replicate_succ'.symm
  refine WL.buildF (F := encCell) hs40 ([blankC]) Tryz.runUnderlying74 Tryz.sizeOf164 Tryz.zeroValue164 rfl rfl rfl rfl rfl rfl rfl rfl rfl rfl rfl rfl (fun A56 c57 L53 whs54 hs54 ho55 => ?_)
  replace hs54 := St.back [_, _] hs54
  refine WL.nil ⟨((hs54.d1.rm L53).rm L18), WH.o1 1 rfl (WL.r 1 hs54 [0] rfl (WL.nil ⟨((hs54.d1.rm L53).rm L18), WH.o1 4 rfl (WL.appendG (hs54.fr L18) ho19 (SlF.src (SlF.ofOwn ho55 (hs54.ow L53)) Tryz.underlying74) Tryz.underlying74 inf164 rfl rfl rfl rfl rfl rfl rfl rfl rfl rfl ?_ (fun A61 c62 L58 whs59 hs59 ho60 => ?_))⟩))⟩
  · simp; omega
  replace hs59 := St.back [_, _] hs59
  refine WL.nil ⟨((hs59.d1.rm L58).rm L53), WH.rn [5] ((hs59.d1.rm L58).rm L53) [] rfl rfl (WH.o1 6 rfl (WL.st tbk hs59 0 rfl rfl (fun _ hs63 => WL.nil ⟨((hs63.d1.rm L58).rm L53), WH.dn (hK25 _ _ (WC.region ?_))⟩)))⟩
  refine WL.r 3 hs63 [] rfl (WL.nil (tkN ?_))
  replace hs63 := (hs63.rm L53)
  have hF64 := (St.grp1 (L1 := L58) [_] (((hs63.fb b2).fr L58).fb b11))
  refine ⟨sbF rfl, _, hF64, _, ?_, i + 1, _, A61, c62, L58, rfl, rfl, ?_, ?_, ho60, ⟨rfl, trivial⟩⟩
  · omega
  · omega
  · rw [p1]; exact List.replicate_succ'.symm
 refine WC.exit (hK14 _ _ (WC.sr (WL.r 1 hs22 [0] rfl (WL.st tbk hs22 1 rfl rfl (fun _ hs65 => WL.r 1 hs65 [] rfl (WL.nil (WC.ret ?_)))))))
 refine retV2 rfl (resV.cellA tbk hs65 1 rfl rfl rfl rfl) (resV.tmp rfl) ?_
 rw [hm]
 have hv : gridRes w_ h_ = gridNew w_ h_ := by unfold gridRes; rw [hm]; rfl
 refine ⟨⟨w_, h_, SlD.of ho19⟩, _, rfl, (St.keep1 (hs65.fr L18)), ?_, ?_⟩
 · exact ho19
 · rw [hv]; show GridD.mk w_ h_ zs = _; rw [p1, show i = (w_ * h_).toNat by omega]; rfl
set_option maxHeartbeats 4000000 in
theorem k122_ (s : StateR) (w : World) (f_s : okStateR 549755813888 w s) (hT : totState s.dat ≤ 1048576) :
    Calls Tryz.prog 18 #[.agg #[i64 s.W, i64 s.H, i64 s.Limit, i64 s.Next, .slice s.Panes.A s.Panes.n s.Panes.c, .slice s.Wins.A s.Wins.n s.Wins.c, .slice s.Sess.A s.Sess.n s.Sess.c]] w fun e w' => e = .returned (.bool (stateOk s.dat)) ∧ St w [] [] w' := by
 have nb_s_Panes := f_s.Panes_n
 have nl_s_Panes := f_s.Panes.sl.len
 have nb_s_Wins := f_s.Wins_n
 have nl_s_Wins := f_s.Wins.sl.len
 have nb_s_Sess := f_s.Sess_n
 have nl_s_Sess := f_s.Sess.sl.len
 have hsm0 : smState 1048576 s.dat := totState_sm hT
 have hlP : s.dat.Panes.length = s.Panes.xs.length := List.length_map _
 have hlW : s.dat.Wins.length = s.Wins.xs.length := List.length_map _
 have hlS : s.dat.Sess.length = s.Sess.xs.length := List.length_map _
 have hnP : s.dat.Panes.length ≤ 1048576 := hsm0.1
 have hnW : s.dat.Wins.length ≤ 1048576 := hsm0.2.2.1
 have hnS : s.dat.Sess.length ≤ 1048576 := hsm0.2.2.2.2.1
 refine enter 63 Tryz.func18 rfl Tryz.ntmps18 rfl rfl ?_
 have hs1 := St.init w
 refine WC.sr (WL.bx hs1 rfl (fun b2 _ hs3 => WL.r 1 hs3 [] rfl (WL.nil (WC.sr (WL.r 4 hs3 [0, 0] rfl (WL.cl Tryz.call53 rfl (k121_ _ _ _) ?_))))))
 rintro _ whs4 ⟨r0_5, L0_6, rfl, hs4, ho7, hd0_8⟩
 replace hs4 := hs3.callF hs4
 refine ⟨_, rfl, ?_⟩
 replace hs4 := St.back [_] hs4
 refine WL.r 3 hs4 [] rfl (WL.al hs4 Tryz.zeroValue76 rfl rfl (fun b9 _ hs10 => WL.st tbk hs10 0 rfl rfl (fun _ hs11 => WL.r 1 hs11 [] rfl (WL.nil (WC.seq (fun K12 hK12 => WC.sr (WL.r 3 hs11 [] rfl ?_)))))))
 refine WL.pO tbk 3 Acts.nil hs11 [1] rfl rfl rfl rfl (fun g_ => ⟨rfl, trivial⟩) (WL.r 1 hs11 [] rfl (WL.pO tbk 3 Acts.nil hs11 [1] rfl rfl rfl rfl (fun g_ => ⟨rfl, trivial⟩) (WL.r 1 hs11 [] rfl (WL.pO tbk 3 Acts.nil hs11 [1] rfl rfl rfl rfl (fun g_ => ⟨rfl, trivial⟩) (WL.r 1 hs11 [] rfl (WL.pO tbk 3 Acts.nil hs11 [1] rfl rfl rfl rfl (fun g_ => ⟨rfl, trivial⟩) (WL.r 1 hs11 [] rfl ?_)))))))
 refine WL.pO tbk 4 Acts.nil hs11 [1] rfl rfl rfl rfl (fun g_ => ⟨rfl, trivial⟩) (WL.r 1 hs11 [] rfl (WL.pO tbk 4 Acts.nil hs11 [1] rfl rfl rfl rfl (fun g_ => ⟨rfl, trivial⟩) (WL.r 1 hs11 [] rfl (WL.pO tbk 4 Acts.nil hs11 [1] rfl rfl rfl rfl (fun g_ => ⟨rfl, trivial⟩) (WL.nil (WC.cq rfl (fun h13 qh13 => ?_) (fun h13 qh13 => ?_)))))))
 ·have hbad : stateOk s.dat = false := by
    have h9 := h13
    rw [← stateOk_S]
    have hnl : (numsC s.dat && lensC s.dat) = false := by
      show (((isSize s.W s.H && within s.Limit 0 100) && isId s.Next) && ((decide (s.dat.Panes.length ≤ 24) && decide (s.dat.Wins.length ≤ 12)) && decide (s.dat.Sess.length ≤ 8))) = false
      unfold isId within
      grind
    unfold stateOkS
    rw [hnl, Bool.false_and]
  refine WC.r1 hs11 [] rfl (WC.ret (tkR ?_))
  clear hK12
  refine rtv rfl rfl hs11 ?_
  rw [hbad]
 have hgood : (numsC s.dat && lensC s.dat) = true := by
   have h9 := h13
   show (((isSize s.W s.H && within s.Limit 0 100) && isId s.Next) && ((decide (s.dat.Panes.length ≤ 24) && decide (s.dat.Wins.length ≤ 12)) && decide (s.dat.Sess.length ≤ 8))) = true
   unfold isId within
   grind
 refine WC.skip (hK12 _ _ (WC.sr (WL.r 1 hs11 [1] rfl ?_)))
 refine WL.cl Tryz.call54 rfl (k118_ s _ (okStateR.st0 f_s hs11) ?_) ?_
 · first | assumption | rfl | omega
 rintro _ whs14 ⟨rfl, hs14⟩
 replace hs14 := hs11.call0 hs14
 refine ⟨_, rfl, WL.r 1 hs14 [] rfl ?_⟩
 apply WL.gA 2 Acts.nil hs14 rfl
 ·intro g15 J16
  have qg15 := g15
  try simp only [bf, within_iff, within_not] at qg15
  refine WL.runA tbk 1 (Acts.nil.cons (j := 2) rfl g15) hs14 [1] rfl ⟨rfl, trivial⟩ (WL.call (wantT rfl g15) rfl rfl (Run.call Tryz.call55 rfl rfl rfl) (k119_ s _ (okStateR.st0 f_s hs14) ?_) ?_)
  · first | assumption | rfl | omega
  rintro _ whs17 ⟨rfl, hs17⟩
  replace hs17 := hs14.call0 hs17
  refine ⟨_, rfl, WL.eA 2 Acts.nil J16 hs17 g15 rfl rfl⟩
 intro _ hs18
 refine WL.r 1 hs18 [] rfl ?_
 apply WL.gA 2 Acts.nil hs18 rfl
 ·intro g19 J20
  have qg19 := g19
  try simp only [bf, within_iff, within_not] at qg19
  refine WL.runA tbk 1 (Acts.nil.cons (j := 6) rfl g19) hs18 [1] rfl ⟨rfl, trivial⟩ (WL.call (wantT rfl g19) rfl rfl (Run.call Tryz.call56 rfl rfl rfl) (k117_ s _ (okStateR.st0 f_s hs18) ?_) ?_)
  · first | assumption | rfl | omega
  rintro _ whs21 ⟨rfl, hs21⟩
  replace hs21 := hs18.call0 hs21
  refine ⟨_, rfl, WL.eA 2 Acts.nil J20 hs21 g19 rfl rfl⟩
 intro _ hs22
 refine WL.r 1 hs22 [] rfl (WL.nil (WC.ret (rtv rfl rfl hs22 ?_)))
 rw [← stateOk_S]; unfold stateOkS; rw [hgood, Bool.true_and]; grind
theorem built_33_0_1_2_3 (x0 : Int) (x1 : Int) (x2 : Int) (x3 : Int) : Tryz.prog.built 33 [(0, .int .i64 x0), (1, .int .i64 x1), (2, .int .i64 x2), (3, .int .i64 x3)] = some (List.toArray [.int .i64 x0, .int .i64 x1, .int .i64 x2, .int .i64 x3, .slice none 0 0, .slice none 0 0, .slice none 0 0]) := by kernel_rfl
theorem built_33 : Tryz.prog.built 33 [] = some (List.toArray [.int .i64 0, .int .i64 0, .int .i64 0, .int .i64 0, .slice none 0 0, .slice none 0 0, .slice none 0 0]) := by kernel_rfl
theorem k123_ (w_ : Int) (h_ : Int) (l : Int) (w : World) :
    Calls Tryz.prog 21 #[i64 w_, i64 h_, i64 l] w fun e w' => e = .returned (.tuple #[.agg #[.int .i64 (sn w_ h_ l w_), .int .i64 (sn w_ h_ l h_), .int .i64 (sn w_ h_ l l), .int .i64 (sn w_ h_ l 1), .slice none 0 0, .slice none 0 0, .slice none 0 0], .bool (snOk w_ h_ l)]) ∧ St w [] [] w' := by
 refine enter 18 Tryz.func21 rfl Tryz.ntmps21 rfl rfl ?_
 have hs1 := St.init w
 refine WC.sr (WL.al hs1 Tryz.zeroValue33 rfl rfl (fun b2 _ hs3 => WL.r 1 hs3 [] rfl (WL.nil (WC.sr (WL.r 3 hs3 [] rfl ?_)))))
 refine WL.val rfl rfl rfl (Run.build rfl rfl rfl rfl (built_33_0_1_2_3 _ _ _ _)) (WL.al hs3 Tryz.zeroValue33 rfl rfl (fun b4 _ hs5 => WL.st tbk hs5 0 rfl rfl (fun _ hs6 => WL.nil (WC.seq (fun K7 hK7 => WC.sr (WL.r 1 hs6 [0] rfl ?_))))))
 refine WL.cl Tryz.call19 rfl (k116_ ⟨_, _, _, _, ⟨_, _, _, _⟩, ⟨_, _, _, _⟩, ⟨_, _, _, _⟩⟩ _ ⟨(SlN.mk (SlF.nil _ _) (fun _ h_ => absurd h_ List.not_mem_nil)), (by first | assumption | omega | simp), (by first | assumption | omega | (simp; omega) | simp), (SlN.mk (SlF.nil _ _) (fun _ h_ => absurd h_ List.not_mem_nil)), (by first | assumption | omega | simp), (by first | assumption | omega | (simp; omega) | simp), (SlN.mk (SlF.nil _ _) (fun _ h_ => absurd h_ List.not_mem_nil)), (by first | assumption | omega | simp), (by first | assumption | omega | (simp; omega) | simp)⟩ ?_) ?_
 · first | assumption | rfl | omega | exact Nat.zero_le _
 rintro _ whs8 ⟨rfl, hs8⟩
 replace hs8 := hs6.call0 hs8
 refine ⟨_, rfl, WL.r 1 hs8 [] rfl (WL.nil (WC.cq rfl (fun h9 qh9 => ?_) (fun h9 qh9 => ?_)))⟩
 ·have hk : snOk w_ h_ l = false := qh9
  refine WC.sr ?_
  refine WL.val rfl rfl rfl (Run.build rfl rfl rfl rfl (built_33)) (WL.st tbk hs8 1 rfl rfl (fun _ hs10 => WL.r 1 hs10 [] rfl (WL.nil (WC.ret (tkR ?_)))))
  clear hK7
  refine retV2 rfl (resV.cellA tbk hs10 1 rfl rfl rfl rfl) (resV.tmp rfl) (⟨congrArg Ending.returned ?_, hs10.nil⟩)
  simp only [sn_no hk, hk]
 have hk : snOk w_ h_ l = true := qh9
 refine WC.skip (hK7 _ _ (WC.sr (WL.r 1 hs8 [0] rfl (WL.st tbk hs8 1 rfl rfl (fun _ hs11 => WL.r 1 hs11 [] rfl (WL.nil (WC.ret ?_)))))))
 refine retV2 rfl (resV.cellA tbk hs11 1 rfl rfl rfl rfl) (resV.tmp rfl) (⟨congrArg Ending.returned ?_, hs11.nil⟩)
 simp only [sn_yes hk, hk]
theorem k124_ (w_ : Int) (h_ : Int) (l : Int) (w : World) :
    Calls Tryz.prog 20 #[i64 w_, i64 h_, i64 l] w fun e w' => e = .returned (.tuple #[.agg #[.int .i64 (sn w_ h_ l w_), .int .i64 (sn w_ h_ l h_), .int .i64 (sn w_ h_ l l), .int .i64 (sn w_ h_ l 1), .slice none 0 0, .slice none 0 0, .slice none 0 0], .bool (snOk w_ h_ l)]) ∧ St w [] [] w' := by
 refine enter 18 Tryz.func20 rfl Tryz.ntmps20 rfl rfl ?_
 have hs1 := St.init w
 refine WC.sr (WL.al hs1 Tryz.zeroValue33 rfl rfl (fun b2 _ hs3 => WL.r 1 hs3 [] rfl (WL.nil (WC.sr (WL.r 3 hs3 [] rfl ?_)))))
 refine WL.val rfl rfl rfl (Run.build rfl rfl rfl rfl (built_33_0_1_2_3 _ _ _ _)) (WL.al hs3 Tryz.zeroValue33 rfl rfl (fun b4 _ hs5 => WL.st tbk hs5 0 rfl rfl (fun _ hs6 => WL.nil (WC.seq (fun K7 hK7 => WC.sr (WL.r 1 hs6 [0] rfl ?_))))))
 refine WL.cl Tryz.call18 rfl (k122_ ⟨_, _, _, _, ⟨_, _, _, _⟩, ⟨_, _, _, _⟩, ⟨_, _, _, _⟩⟩ _ ⟨(SlN.mk (SlF.nil _ _) (fun _ h_ => absurd h_ List.not_mem_nil)), (by first | assumption | omega | simp), (by first | assumption | omega | (simp; omega) | simp), (SlN.mk (SlF.nil _ _) (fun _ h_ => absurd h_ List.not_mem_nil)), (by first | assumption | omega | simp), (by first | assumption | omega | (simp; omega) | simp), (SlN.mk (SlF.nil _ _) (fun _ h_ => absurd h_ List.not_mem_nil)), (by first | assumption | omega | simp), (by first | assumption | omega | (simp; omega) | simp)⟩ ?_) ?_
 · first | assumption | rfl | omega | exact Nat.zero_le _
 rintro _ whs8 ⟨rfl, hs8⟩
 replace hs8 := hs6.call0 hs8
 refine ⟨_, rfl, WL.r 1 hs8 [] rfl (WL.nil (WC.cq rfl (fun h9 qh9 => ?_) (fun h9 qh9 => ?_)))⟩
 ·have hk : snOk w_ h_ l = false := qh9
  refine WC.sr ?_
  refine WL.val rfl rfl rfl (Run.build rfl rfl rfl rfl (built_33)) (WL.st tbk hs8 1 rfl rfl (fun _ hs10 => WL.r 1 hs10 [] rfl (WL.nil (WC.ret (tkR ?_)))))
  clear hK7
  refine retV2 rfl (resV.cellA tbk hs10 1 rfl rfl rfl rfl) (resV.tmp rfl) (⟨congrArg Ending.returned ?_, hs10.nil⟩)
  simp only [sn_no hk, hk]
 have hk : snOk w_ h_ l = true := qh9
 refine WC.skip (hK7 _ _ (WC.sr (WL.r 1 hs8 [0] rfl (WL.st tbk hs8 1 rfl rfl (fun _ hs11 => WL.r 1 hs11 [] rfl (WL.nil (WC.ret ?_)))))))
 refine retV2 rfl (resV.cellA tbk hs11 1 rfl rfl rfl rfl) (resV.tmp rfl) (⟨congrArg Ending.returned ?_, hs11.nil⟩)
 simp only [sn_yes hk, hk]
set_option maxHeartbeats 4000000 in
theorem k125_ (a : GridR) (b : GridR) (w : World) (f_a : okGridR 549755813888 w a) (f_b : okGridR 549755813888 w b) (hab : a.dat = b.dat) :
    Calls Tryz.prog 260 #[.agg #[i64 a.W, i64 a.H, .slice a.Cells.A a.Cells.n a.Cells.c], .agg #[i64 b.W, i64 b.H, .slice b.Cells.A b.Cells.n b.Cells.c]] w fun e w' => e = .returned (.bool true) ∧ St w [] [] w' := by
 have nb_a_Cells := f_a.Cells_n
 have nl_a_Cells := f_a.Cells.len
 have nb_b_Cells := f_b.Cells_n
 have nl_b_Cells := f_b.Cells.len
 have e_W : a.W = b.W := congrArg (fun d : GridD => d.W) hab
 have e_H : a.H = b.H := congrArg (fun d : GridD => d.H) hab
 have e_Cells : a.Cells.xs = b.Cells.xs := congrArg (fun d : GridD => d.Cells) hab
 refine enter 21 Tryz.func260 rfl Tryz.ntmps260 rfl rfl ?_
 have hs1 := St.init w
 refine WC.sr (WL.bx hs1 rfl (fun b2 _ hs3 => WL.bx hs3 rfl (fun b4 _ hs5 => WL.r 1 hs5 [] rfl (WL.nil (WC.seq (fun K6 hK6 => WC.r1 hs5 [1, 0] rfl (WC.condF rfl (by simp [e_W, e_H]) ?_)))))))
 refine WC.skip (hK6 _ _ (WC.seq (fun K8 hK8 => WC.r1 hs5 [1, 0] rfl (WC.condF rfl (by simp [e_W, e_H]) (WC.skip (hK8 _ _ (WC.seq (fun K10 hK10 => ?_))))))))
 refine WC.sr (WL.r 4 hs5 [1, 0] rfl (WL.cl Tryz.call287 rfl (k7_ _ _ _ _ _ _ _ _ _ (SlF.st0 f_a.Cells hs5) (SlF.st0 f_b.Cells hs5) ?_ ?_) ?_))
 iterate 2 first | assumption | rfl | omega
 rintro _ whs11 ⟨rfl, hs11⟩
 replace hs11 := hs5.call0 hs11
 refine ⟨_, rfl, WL.r 1 hs11 [] rfl (WL.nil (WC.condF rfl (by simp [e_W, e_H]) (WC.skip (hK10 _ _ (WC.r1 hs11 [] rfl (WC.ret ?_))))))⟩
 refine rtv rfl rfl hs11 ?_
 rfl
set_option maxHeartbeats 4000000 in
theorem k126_ (a : VpR) (b : VpR) (w : World) (f_a : okVpR 549755813888 w a) (f_b : okVpR 549755813888 w b) (hab : a.dat = b.dat) :
    Calls Tryz.prog 211 #[.agg #[i64 a.State, .bool a.Mark, .slice a.Args.A a.Args.n a.Args.c, .slice a.Part.A a.Part.n a.Part.c], .agg #[i64 b.State, .bool b.Mark, .slice b.Args.A b.Args.n b.Args.c, .slice b.Part.A b.Part.n b.Part.c]] w fun e w' => e = .returned (.bool true) ∧ St w [] [] w' := by
 have nb_a_Args := f_a.Args_n
 have nl_a_Args := f_a.Args.len
 have nb_a_Part := f_a.Part_n
 have nl_a_Part := f_a.Part.len
 have nb_b_Args := f_b.Args_n
 have nl_b_Args := f_b.Args.len
 have nb_b_Part := f_b.Part_n
 have nl_b_Part := f_b.Part.len
 have e_State : a.State = b.State := congrArg (fun d : VpD => d.State) hab
 have e_Mark : a.Mark = b.Mark := congrArg (fun d : VpD => d.Mark) hab
 have e_Args : a.Args.xs = b.Args.xs := congrArg (fun d : VpD => d.Args) hab
 have e_Part : a.Part.xs = b.Part.xs := congrArg (fun d : VpD => d.Part) hab
 refine enter 27 Tryz.func211 rfl Tryz.ntmps211 rfl rfl ?_
 have hs1 := St.init w
 refine WC.sr (WL.bx hs1 rfl (fun b2 _ hs3 => WL.bx hs3 rfl (fun b4 _ hs5 => WL.r 1 hs5 [] rfl (WL.nil (WC.seq (fun K6 hK6 => WC.r1 hs5 [1, 0] rfl (WC.condF rfl (by simp [e_State, e_Mark]) ?_)))))))
 refine WC.skip (hK6 _ _ (WC.seq (fun K8 hK8 => WC.r1 hs5 [1, 0] rfl (WC.condF rfl (by simp [e_State, e_Mark]) (WC.skip (hK8 _ _ (WC.seq (fun K10 hK10 => ?_))))))))
 refine WC.sr (WL.r 4 hs5 [1, 0] rfl (WL.cl Tryz.call171 rfl (k8_ _ _ _ _ _ _ _ _ _ (SlF.st0 f_a.Args hs5) (SlF.st0 f_b.Args hs5) ?_ ?_) ?_))
 iterate 2 first | assumption | rfl | omega
 rintro _ whs11 ⟨rfl, hs11⟩
 replace hs11 := hs5.call0 hs11
 refine ⟨_, rfl, WL.r 1 hs11 [] rfl (WL.nil (WC.condF rfl (by simp [e_State, e_Mark]) (WC.skip (hK10 _ _ (WC.seq (fun K13 hK13 => WC.sr ?_))))))⟩
 refine WL.r 4 hs11 [1, 0] rfl (WL.cl Tryz.call26 rfl (k4_ _ _ _ _ _ _ _ _ _ (SlF.st0 f_a.Part hs11) (SlF.st0 f_b.Part hs11) ?_ ?_) ?_)
 iterate 2 first | assumption | rfl | omega
 rintro _ whs14 ⟨rfl, hs14⟩
 replace hs14 := hs11.call0 hs14
 refine ⟨_, rfl, WL.r 1 hs14 [] rfl (WL.nil (WC.condF rfl (by simp [e_State, e_Mark]) (WC.skip (hK13 _ _ (WC.r1 hs14 [] rfl (WC.ret ?_))))))⟩
 refine rtv rfl rfl hs14 ?_
 rfl
set_option maxHeartbeats 4000000 in
theorem k127_ (a : RowR) (b : RowR) (w : World) (f_a : okRowR 549755813888 w a) (f_b : okRowR 549755813888 w b) (hab : a.dat = b.dat) :
    Calls Tryz.prog 288 #[.agg #[.slice a.Cells.A a.Cells.n a.Cells.c], .agg #[.slice b.Cells.A b.Cells.n b.Cells.c]] w fun e w' => e = .returned (.bool true) ∧ St w [] [] w' := by
 have nb_a_Cells := f_a.Cells_n
 have nl_a_Cells := f_a.Cells.len
 have nb_b_Cells := f_b.Cells_n
 have nl_b_Cells := f_b.Cells.len
 have e_Cells : a.Cells.xs = b.Cells.xs := congrArg (fun d : RowD => d.Cells) hab
 refine enter 11 Tryz.func288 rfl Tryz.ntmps288 rfl rfl ?_
 have hs1 := St.init w
 refine WC.sr (WL.bx hs1 rfl (fun b2 _ hs3 => WL.bx hs3 rfl (fun b4 _ hs5 => WL.r 1 hs5 [] rfl (WL.nil (WC.seq (fun K6 hK6 => WC.sr (WL.r 4 hs5 [1, 0] rfl ?_)))))))
 refine WL.cl Tryz.call287 rfl (k7_ _ _ _ _ _ _ _ _ _ (SlF.st0 f_a.Cells hs5) (SlF.st0 f_b.Cells hs5) ?_ ?_) ?_
 iterate 2 first | assumption | rfl | omega
 rintro _ whs7 ⟨rfl, hs7⟩
 replace hs7 := hs5.call0 hs7
 refine ⟨_, rfl, WL.r 1 hs7 [] rfl (WL.nil (WC.condF rfl (by simp) (WC.skip (hK6 _ _ (WC.r1 hs7 [] rfl (WC.ret ?_))))))⟩
 refine rtv rfl rfl hs7 ?_
 rfl
theorem k128_ (A_a : Option Addr) (n_a c_a : Nat) (a : List RowR) (A_b : Option Addr) (n_b c_b : Nat) (b : List RowR) (w : World) (f_a : SlN encRowR (okRowR 549755813888) w A_a n_a a) (f_b : SlN encRowR (okRowR 549755813888) w A_b n_b b) (hn : n_a ≤ 549755813888) (hab : a.map RowR.dat = b.map RowR.dat) :
    Calls Tryz.prog 262 #[.slice A_a n_a c_a, .slice A_b n_b c_b] w fun e w' => e = .returned (.bool true) ∧ St w [] [] w' := by
 have hla := f_a.sl.len
 obtain rfl : n_a = n_b := by have h9 := congrArg List.length hab; simp only [List.length_map] at h9; rw [← hla, h9]; exact f_b.sl.len
 refine enter 27 Tryz.func262 rfl Tryz.ntmps262 rfl rfl ?_
 have hs1 := St.init w
 refine WC.r1 hs1 [] rfl (WC.seq (fun K2 hK2 => WC.r1 hs1 [] rfl (WC.condF rfl (by simp) (WC.skip (hK2 _ _ (WC.seq (fun K4 hK4 => WC.r1 hs1 [] rfl ?_)))))))
 refine WC.block (WC.lS [0, 1, 10] rfl hs1 (fun k_ f w' => ∃ (i : Nat), k_ = n_a - i ∧ (i ≤ n_a) ∧ Sub [(5, .int .i64 i)] f) ((fun (i : Nat) => n_a - i) (0)) ?_ ?_)
 ·refine ⟨0, rfl, ?_, ⟨rfl, trivial⟩⟩
  · exact Nat.zero_le _
 clear hs1
 rintro _ f w ⟨i, rfl, p0, hG⟩ hF hs5
 refine WC.sub _ (hG.app hF) ?_
 clear hG hF
 refine WC.seq (fun K6 hK6 => WC.r1 hs5 [] rfl ?_)
 refine WC.cD rfl (fun qh7 => ?_) (fun qh7 => ?_)
 ·have hab_ := gat_dat (F := encRowR) (i := i) hab (by omega)
  refine WC.skip (hK6 _ _ (WC.seq (fun K8 hK8 => WC.block (WC.sq1 hs5 (WQ.r 2 [] rfl ?_)))))
  refine WQ.val rfl rfl rfl (fun w_ hs_ => (Run.idxN Tryz.runUnderlying87 Tryz.sizeOf181 rfl rfl rfl ?_ ?_ ?_)) ?_
  · exact SlF.some_ (SlF.st0 f_a.sl (hs_ : St _ _ _ _))
  · omega
  · omega
  refine WQ.val rfl rfl rfl (fun w_ hs_ => (Run.loadA Tryz.isAgg181 Tryz.sizeOf181 rfl rfl (SlF.whole (SlF.st0 f_a.sl (hs_ : St _ _ _ _)) ?_))) ?_
  · omega
  refine WQ.r 2 [] rfl ?_
  refine WQ.val rfl rfl rfl (fun w_ hs_ => (Run.idxN Tryz.runUnderlying87 Tryz.sizeOf181 rfl rfl rfl ?_ ?_ ?_)) ?_
  · exact SlF.some_ (SlF.st0 f_b.sl (hs_ : St _ _ _ _))
  · omega
  · omega
  refine WQ.val rfl rfl rfl (fun w_ hs_ => (Run.loadA Tryz.isAgg181 Tryz.sizeOf181 rfl rfl (SlF.whole (SlF.st0 f_b.sl (hs_ : St _ _ _ _)) ?_))) ?_
  · omega
  refine WQ.call rfl rfl rfl (fun w_ hs_ => (Run.call Tryz.call288 rfl rfl rfl)) (fun w_ hs_ => (k127_ (gat encRowR a i) (gat encRowR b i) _ (okRowR.st0 (SlN.nth f_a (by omega)) (hs_ : St _ _ _ _)) (okRowR.st0 (SlN.nth f_b (by omega)) (hs_ : St _ _ _ _)) ?_).mono fun e_ w_ h_ => ⟨h_.1, (hs_ : St _ _ _ _).call0 h_.2⟩) ?_
  · first | assumption | rfl | omega
  refine WQ.r 1 [] rfl (WQ.nil (fun _ (hs9 : St _ _ _ _) => WC.condF rfl (by simp) (WC.skip (hK8 _ _ (WC.region (WL.r 3 hs9 [] rfl (WL.nil ?_)))))))
  refine tkN (⟨sbF rfl, hs9, _, ?_, i + 1, rfl, ?_, ⟨rfl, trivial⟩⟩)
  · omega
  · omega
 refine WC.exit (hK4 _ _ (WC.r1 hs5 [] rfl (WC.ret (rtv rfl rfl hs5 ?_))))
 rfl
set_option maxHeartbeats 4000000 in
theorem k129_ (a : ScrR) (b : ScrR) (w : World) (f_a : okScrR 549755813888 w a) (f_b : okScrR 549755813888 w b) (hab : a.dat = b.dat) :
    Calls Tryz.prog 212 #[.agg (cScr a).toArray, .agg (cScr b).toArray] w fun e w' => e = .returned (.bool true) ∧ St w [] [] w' := by
 have nb_a_Main_Cells := f_a.Main.Cells_n
 have nl_a_Main_Cells := f_a.Main.Cells.len
 have nb_a_Alt_Cells := f_a.Alt.Cells_n
 have nl_a_Alt_Cells := f_a.Alt.Cells.len
 have nb_a_Tabs := f_a.Tabs_n
 have nl_a_Tabs := f_a.Tabs.len
 have nb_a_Back := f_a.Back_n
 have nl_a_Back := f_a.Back.sl.len
 have nb_b_Main_Cells := f_b.Main.Cells_n
 have nl_b_Main_Cells := f_b.Main.Cells.len
 have nb_b_Alt_Cells := f_b.Alt.Cells_n
 have nl_b_Alt_Cells := f_b.Alt.Cells.len
 have nb_b_Tabs := f_b.Tabs_n
 have nl_b_Tabs := f_b.Tabs.len
 have nb_b_Back := f_b.Back_n
 have nl_b_Back := f_b.Back.sl.len
 have e_W : a.W = b.W := congrArg (fun d : ScrD => d.W) hab
 have e_H : a.H = b.H := congrArg (fun d : ScrD => d.H) hab
 have e_Main : a.Main.dat = b.Main.dat := congrArg (fun d : ScrD => d.Main) hab
 have e_Main_W : a.Main.W = b.Main.W := congrArg (fun d : ScrD => d.Main.W) hab
 have e_Main_H : a.Main.H = b.Main.H := congrArg (fun d : ScrD => d.Main.H) hab
 have e_Main_Cells : a.Main.Cells.xs = b.Main.Cells.xs := congrArg (fun d : ScrD => d.Main.Cells) hab
 have e_Alt : a.Alt.dat = b.Alt.dat := congrArg (fun d : ScrD => d.Alt) hab
 have e_Alt_W : a.Alt.W = b.Alt.W := congrArg (fun d : ScrD => d.Alt.W) hab
 have e_Alt_H : a.Alt.H = b.Alt.H := congrArg (fun d : ScrD => d.Alt.H) hab
 have e_Alt_Cells : a.Alt.Cells.xs = b.Alt.Cells.xs := congrArg (fun d : ScrD => d.Alt.Cells) hab
 have e_OnAlt : a.OnAlt = b.OnAlt := congrArg (fun d : ScrD => d.OnAlt) hab
 have e_X : a.X = b.X := congrArg (fun d : ScrD => d.X) hab
 have e_Y : a.Y = b.Y := congrArg (fun d : ScrD => d.Y) hab
 have e_Wrap : a.Wrap = b.Wrap := congrArg (fun d : ScrD => d.Wrap) hab
 have e_A : a.A = b.A := congrArg (fun d : ScrD => d.A) hab
 have e_A_Fg : a.A.Fg = b.A.Fg := congrArg (fun d : ScrD => d.A.Fg) hab
 have e_A_Bg : a.A.Bg = b.A.Bg := congrArg (fun d : ScrD => d.A.Bg) hab
 have e_A_Bold : a.A.Bold = b.A.Bold := congrArg (fun d : ScrD => d.A.Bold) hab
 have e_A_Under : a.A.Under = b.A.Under := congrArg (fun d : ScrD => d.A.Under) hab
 have e_A_Turn : a.A.Turn = b.A.Turn := congrArg (fun d : ScrD => d.A.Turn) hab
 have e_Top : a.Top = b.Top := congrArg (fun d : ScrD => d.Top) hab
 have e_Bot : a.Bot = b.Bot := congrArg (fun d : ScrD => d.Bot) hab
 have e_NoWrap : a.NoWrap = b.NoWrap := congrArg (fun d : ScrD => d.NoWrap) hab
 have e_Hide : a.Hide = b.Hide := congrArg (fun d : ScrD => d.Hide) hab
 have e_SaveX : a.SaveX = b.SaveX := congrArg (fun d : ScrD => d.SaveX) hab
 have e_SaveY : a.SaveY = b.SaveY := congrArg (fun d : ScrD => d.SaveY) hab
 have e_SaveA : a.SaveA = b.SaveA := congrArg (fun d : ScrD => d.SaveA) hab
 have e_SaveA_Fg : a.SaveA.Fg = b.SaveA.Fg := congrArg (fun d : ScrD => d.SaveA.Fg) hab
 have e_SaveA_Bg : a.SaveA.Bg = b.SaveA.Bg := congrArg (fun d : ScrD => d.SaveA.Bg) hab
 have e_SaveA_Bold : a.SaveA.Bold = b.SaveA.Bold := congrArg (fun d : ScrD => d.SaveA.Bold) hab
 have e_SaveA_Under : a.SaveA.Under = b.SaveA.Under := congrArg (fun d : ScrD => d.SaveA.Under) hab
 have e_SaveA_Turn : a.SaveA.Turn = b.SaveA.Turn := congrArg (fun d : ScrD => d.SaveA.Turn) hab
 have e_Tabs : a.Tabs.xs = b.Tabs.xs := congrArg (fun d : ScrD => d.Tabs) hab
 have e_Limit : a.Limit = b.Limit := congrArg (fun d : ScrD => d.Limit) hab
 have e_Back : a.Back.xs.map RowR.dat = b.Back.xs.map RowR.dat := congrArg (fun d : ScrD => d.Back) hab
 refine enter 106 Tryz.func212 rfl Tryz.ntmps212 rfl rfl ?_
 have hs1 := St.init w
 refine WC.sr (WL.bx hs1 rfl (fun b2 _ hs3 => WL.bx hs3 rfl (fun b4 _ hs5 => WL.r 1 hs5 [] rfl (WL.nil (WC.seq (fun K6 hK6 => WC.r1 hs5 [1, 0] rfl (WC.condF rfl (by simp [e_W, e_H, e_Main_W, e_Main_H, e_Alt_W, e_Alt_H, e_OnAlt, e_X, e_Y, e_Wrap, e_A_Fg, e_A_Bg, e_A_Bold, e_A_Under, e_A_Turn, e_Top, e_Bot, e_NoWrap, e_Hide, e_SaveX, e_SaveY, e_SaveA_Fg, e_SaveA_Bg, e_SaveA_Bold, e_SaveA_Under, e_SaveA_Turn, e_Limit]) ?_)))))))
 refine WC.skip (hK6 _ _ (WC.seq (fun K8 hK8 => WC.r1 hs5 [1, 0] rfl (WC.condF rfl (by simp [e_W, e_H, e_Main_W, e_Main_H, e_Alt_W, e_Alt_H, e_OnAlt, e_X, e_Y, e_Wrap, e_A_Fg, e_A_Bg, e_A_Bold, e_A_Under, e_A_Turn, e_Top, e_Bot, e_NoWrap, e_Hide, e_SaveX, e_SaveY, e_SaveA_Fg, e_SaveA_Bg, e_SaveA_Bold, e_SaveA_Under, e_SaveA_Turn, e_Limit]) (WC.skip (hK8 _ _ (WC.seq (fun K10 hK10 => ?_))))))))
 refine WC.sr (WL.r 4 hs5 [1, 0] rfl (WL.cl Tryz.call260 rfl (k125_ a.Main b.Main _ (okGridR.st0 f_a.Main hs5) (okGridR.st0 f_b.Main hs5) ?_) ?_))
 · first | assumption | rfl | omega
 rintro _ whs11 ⟨rfl, hs11⟩
 replace hs11 := hs5.call0 hs11
 refine ⟨_, rfl, WL.r 1 hs11 [] rfl (WL.nil (WC.condF rfl (by simp [e_W, e_H, e_Main_W, e_Main_H, e_Alt_W, e_Alt_H, e_OnAlt, e_X, e_Y, e_Wrap, e_A_Fg, e_A_Bg, e_A_Bold, e_A_Under, e_A_Turn, e_Top, e_Bot, e_NoWrap, e_Hide, e_SaveX, e_SaveY, e_SaveA_Fg, e_SaveA_Bg, e_SaveA_Bold, e_SaveA_Under, e_SaveA_Turn, e_Limit]) (WC.skip (hK10 _ _ (WC.seq (fun K13 hK13 => WC.sr ?_))))))⟩
 refine WL.r 4 hs11 [1, 0] rfl (WL.cl Tryz.call260 rfl (k125_ a.Alt b.Alt _ (okGridR.st0 f_a.Alt hs11) (okGridR.st0 f_b.Alt hs11) ?_) ?_)
 · first | assumption | rfl | omega
 rintro _ whs14 ⟨rfl, hs14⟩
 replace hs14 := hs11.call0 hs14
 refine ⟨_, rfl, WL.r 1 hs14 [] rfl (WL.nil (WC.condF rfl (by simp [e_W, e_H, e_Main_W, e_Main_H, e_Alt_W, e_Alt_H, e_OnAlt, e_X, e_Y, e_Wrap, e_A_Fg, e_A_Bg, e_A_Bold, e_A_Under, e_A_Turn, e_Top, e_Bot, e_NoWrap, e_Hide, e_SaveX, e_SaveY, e_SaveA_Fg, e_SaveA_Bg, e_SaveA_Bold, e_SaveA_Under, e_SaveA_Turn, e_Limit]) (WC.skip (hK13 _ _ (WC.seq (fun K16 hK16 => WC.r1 hs14 [1, 0] rfl ?_))))))⟩
 refine WC.condF rfl (by simp [e_W, e_H, e_Main_W, e_Main_H, e_Alt_W, e_Alt_H, e_OnAlt, e_X, e_Y, e_Wrap, e_A_Fg, e_A_Bg, e_A_Bold, e_A_Under, e_A_Turn, e_Top, e_Bot, e_NoWrap, e_Hide, e_SaveX, e_SaveY, e_SaveA_Fg, e_SaveA_Bg, e_SaveA_Bold, e_SaveA_Under, e_SaveA_Turn, e_Limit]) (WC.skip (hK16 _ _ (WC.seq (fun K18 hK18 => WC.r1 hs14 [1, 0] rfl (WC.condF rfl (by simp [e_W, e_H, e_Main_W, e_Main_H, e_Alt_W, e_Alt_H, e_OnAlt, e_X, e_Y, e_Wrap, e_A_Fg, e_A_Bg, e_A_Bold, e_A_Under, e_A_Turn, e_Top, e_Bot, e_NoWrap, e_Hide, e_SaveX, e_SaveY, e_SaveA_Fg, e_SaveA_Bg, e_SaveA_Bold, e_SaveA_Under, e_SaveA_Turn, e_Limit]) ?_)))))
 refine WC.skip (hK18 _ _ (WC.seq (fun K20 hK20 => WC.r1 hs14 [1, 0] rfl (WC.condF rfl (by simp [e_W, e_H, e_Main_W, e_Main_H, e_Alt_W, e_Alt_H, e_OnAlt, e_X, e_Y, e_Wrap, e_A_Fg, e_A_Bg, e_A_Bold, e_A_Under, e_A_Turn, e_Top, e_Bot, e_NoWrap, e_Hide, e_SaveX, e_SaveY, e_SaveA_Fg, e_SaveA_Bg, e_SaveA_Bold, e_SaveA_Under, e_SaveA_Turn, e_Limit]) (WC.skip (hK20 _ _ (WC.seq (fun K22 hK22 => ?_))))))))
 refine WC.r1 hs14 [1, 0] rfl (WC.condF rfl (by simp [e_W, e_H, e_Main_W, e_Main_H, e_Alt_W, e_Alt_H, e_OnAlt, e_X, e_Y, e_Wrap, e_A_Fg, e_A_Bg, e_A_Bold, e_A_Under, e_A_Turn, e_Top, e_Bot, e_NoWrap, e_Hide, e_SaveX, e_SaveY, e_SaveA_Fg, e_SaveA_Bg, e_SaveA_Bold, e_SaveA_Under, e_SaveA_Turn, e_Limit]) (WC.skip (hK22 _ _ (WC.seq (fun K24 hK24 => WC.sr (WL.r 4 hs14 [1, 0] rfl ?_))))))
 refine WL.cl Tryz.call261 rfl (k5_ _ _ _ _ _ _ _ _ _ _ _ ?_) ?_
 · first | assumption | rfl | omega
 rintro _ whs25 ⟨rfl, hs25⟩
 replace hs25 := hs14.call0 hs25
 refine ⟨_, rfl, WL.r 1 hs25 [] rfl (WL.nil (WC.condF rfl (by simp [e_W, e_H, e_Main_W, e_Main_H, e_Alt_W, e_Alt_H, e_OnAlt, e_X, e_Y, e_Wrap, e_A_Fg, e_A_Bg, e_A_Bold, e_A_Under, e_A_Turn, e_Top, e_Bot, e_NoWrap, e_Hide, e_SaveX, e_SaveY, e_SaveA_Fg, e_SaveA_Bg, e_SaveA_Bold, e_SaveA_Under, e_SaveA_Turn, e_Limit]) (WC.skip (hK24 _ _ (WC.seq (fun K27 hK27 => WC.r1 hs25 [1, 0] rfl ?_))))))⟩
 refine WC.condF rfl (by simp [e_W, e_H, e_Main_W, e_Main_H, e_Alt_W, e_Alt_H, e_OnAlt, e_X, e_Y, e_Wrap, e_A_Fg, e_A_Bg, e_A_Bold, e_A_Under, e_A_Turn, e_Top, e_Bot, e_NoWrap, e_Hide, e_SaveX, e_SaveY, e_SaveA_Fg, e_SaveA_Bg, e_SaveA_Bold, e_SaveA_Under, e_SaveA_Turn, e_Limit]) (WC.skip (hK27 _ _ (WC.seq (fun K29 hK29 => WC.r1 hs25 [1, 0] rfl (WC.condF rfl (by simp [e_W, e_H, e_Main_W, e_Main_H, e_Alt_W, e_Alt_H, e_OnAlt, e_X, e_Y, e_Wrap, e_A_Fg, e_A_Bg, e_A_Bold, e_A_Under, e_A_Turn, e_Top, e_Bot, e_NoWrap, e_Hide, e_SaveX, e_SaveY, e_SaveA_Fg, e_SaveA_Bg, e_SaveA_Bold, e_SaveA_Under, e_SaveA_Turn, e_Limit]) ?_)))))
 refine WC.skip (hK29 _ _ (WC.seq (fun K31 hK31 => WC.r1 hs25 [1, 0] rfl (WC.condF rfl (by simp [e_W, e_H, e_Main_W, e_Main_H, e_Alt_W, e_Alt_H, e_OnAlt, e_X, e_Y, e_Wrap, e_A_Fg, e_A_Bg, e_A_Bold, e_A_Under, e_A_Turn, e_Top, e_Bot, e_NoWrap, e_Hide, e_SaveX, e_SaveY, e_SaveA_Fg, e_SaveA_Bg, e_SaveA_Bold, e_SaveA_Under, e_SaveA_Turn, e_Limit]) (WC.skip (hK31 _ _ (WC.seq (fun K33 hK33 => ?_))))))))
 refine WC.r1 hs25 [1, 0] rfl (WC.condF rfl (by simp [e_W, e_H, e_Main_W, e_Main_H, e_Alt_W, e_Alt_H, e_OnAlt, e_X, e_Y, e_Wrap, e_A_Fg, e_A_Bg, e_A_Bold, e_A_Under, e_A_Turn, e_Top, e_Bot, e_NoWrap, e_Hide, e_SaveX, e_SaveY, e_SaveA_Fg, e_SaveA_Bg, e_SaveA_Bold, e_SaveA_Under, e_SaveA_Turn, e_Limit]) (WC.skip (hK33 _ _ (WC.seq (fun K35 hK35 => WC.r1 hs25 [1, 0] rfl (WC.condF rfl (by simp [e_W, e_H, e_Main_W, e_Main_H, e_Alt_W, e_Alt_H, e_OnAlt, e_X, e_Y, e_Wrap, e_A_Fg, e_A_Bg, e_A_Bold, e_A_Under, e_A_Turn, e_Top, e_Bot, e_NoWrap, e_Hide, e_SaveX, e_SaveY, e_SaveA_Fg, e_SaveA_Bg, e_SaveA_Bold, e_SaveA_Under, e_SaveA_Turn, e_Limit]) ?_))))))
 refine WC.skip (hK35 _ _ (WC.seq (fun K37 hK37 => WC.r1 hs25 [1, 0] rfl (WC.condF rfl (by simp [e_W, e_H, e_Main_W, e_Main_H, e_Alt_W, e_Alt_H, e_OnAlt, e_X, e_Y, e_Wrap, e_A_Fg, e_A_Bg, e_A_Bold, e_A_Under, e_A_Turn, e_Top, e_Bot, e_NoWrap, e_Hide, e_SaveX, e_SaveY, e_SaveA_Fg, e_SaveA_Bg, e_SaveA_Bold, e_SaveA_Under, e_SaveA_Turn, e_Limit]) (WC.skip (hK37 _ _ (WC.seq (fun K39 hK39 => ?_))))))))
 refine WC.sr (WL.r 4 hs25 [1, 0] rfl (WL.cl Tryz.call261 rfl (k5_ _ _ _ _ _ _ _ _ _ _ _ ?_) ?_))
 · first | assumption | rfl | omega
 rintro _ whs40 ⟨rfl, hs40⟩
 replace hs40 := hs25.call0 hs40
 refine ⟨_, rfl, WL.r 1 hs40 [] rfl (WL.nil (WC.condF rfl (by simp [e_W, e_H, e_Main_W, e_Main_H, e_Alt_W, e_Alt_H, e_OnAlt, e_X, e_Y, e_Wrap, e_A_Fg, e_A_Bg, e_A_Bold, e_A_Under, e_A_Turn, e_Top, e_Bot, e_NoWrap, e_Hide, e_SaveX, e_SaveY, e_SaveA_Fg, e_SaveA_Bg, e_SaveA_Bold, e_SaveA_Under, e_SaveA_Turn, e_Limit]) (WC.skip (hK39 _ _ (WC.seq (fun K42 hK42 => WC.sr ?_))))))⟩
 refine WL.r 4 hs40 [1, 0] rfl (WL.cl Tryz.call171 rfl (k8_ _ _ _ _ _ _ _ _ _ (SlF.st0 f_a.Tabs hs40) (SlF.st0 f_b.Tabs hs40) ?_ ?_) ?_)
 iterate 2 first | assumption | rfl | omega
 rintro _ whs43 ⟨rfl, hs43⟩
 replace hs43 := hs40.call0 hs43
 refine ⟨_, rfl, WL.r 1 hs43 [] rfl (WL.nil (WC.condF rfl (by simp [e_W, e_H, e_Main_W, e_Main_H, e_Alt_W, e_Alt_H, e_OnAlt, e_X, e_Y, e_Wrap, e_A_Fg, e_A_Bg, e_A_Bold, e_A_Under, e_A_Turn, e_Top, e_Bot, e_NoWrap, e_Hide, e_SaveX, e_SaveY, e_SaveA_Fg, e_SaveA_Bg, e_SaveA_Bold, e_SaveA_Under, e_SaveA_Turn, e_Limit]) (WC.skip (hK42 _ _ (WC.seq (fun K45 hK45 => WC.r1 hs43 [1, 0] rfl ?_))))))⟩
 refine WC.condF rfl (by simp [e_W, e_H, e_Main_W, e_Main_H, e_Alt_W, e_Alt_H, e_OnAlt, e_X, e_Y, e_Wrap, e_A_Fg, e_A_Bg, e_A_Bold, e_A_Under, e_A_Turn, e_Top, e_Bot, e_NoWrap, e_Hide, e_SaveX, e_SaveY, e_SaveA_Fg, e_SaveA_Bg, e_SaveA_Bold, e_SaveA_Under, e_SaveA_Turn, e_Limit]) (WC.skip (hK45 _ _ (WC.seq (fun K47 hK47 => WC.sr (WL.r 4 hs43 [1, 0] rfl ?_)))))
 refine WL.cl Tryz.call262 rfl (k128_ _ _ _ _ _ _ _ _ _ (SlN.st0 okRowR.st0 f_a.Back hs43) (SlN.st0 okRowR.st0 f_b.Back hs43) ?_ ?_) ?_
 iterate 2 first | assumption | rfl | omega
 rintro _ whs48 ⟨rfl, hs48⟩
 replace hs48 := hs43.call0 hs48
 refine ⟨_, rfl, WL.r 1 hs48 [] rfl (WL.nil (WC.condF rfl (by simp [e_W, e_H, e_Main_W, e_Main_H, e_Alt_W, e_Alt_H, e_OnAlt, e_X, e_Y, e_Wrap, e_A_Fg, e_A_Bg, e_A_Bold, e_A_Under, e_A_Turn, e_Top, e_Bot, e_NoWrap, e_Hide, e_SaveX, e_SaveY, e_SaveA_Fg, e_SaveA_Bg, e_SaveA_Bold, e_SaveA_Under, e_SaveA_Turn, e_Limit]) (WC.skip (hK47 _ _ (WC.r1 hs48 [] rfl (WC.ret ?_))))))⟩
 refine rtv rfl rfl hs48 ?_
 rfl
set_option maxHeartbeats 4000000 in
theorem k130_ (a : TermR) (b : TermR) (w : World) (f_a : okTermR 549755813888 w a) (f_b : okTermR 549755813888 w b) (hab : a.dat = b.dat) :
    Calls Tryz.prog 169 #[.agg #[i64 a.P.State, .bool a.P.Mark, .slice a.P.Args.A a.P.Args.n a.P.Args.c, .slice a.P.Part.A a.P.Part.n a.P.Part.c, i64 a.S.W, i64 a.S.H, i64 a.S.Main.W, i64 a.S.Main.H, .slice a.S.Main.Cells.A a.S.Main.Cells.n a.S.Main.Cells.c, i64 a.S.Alt.W, i64 a.S.Alt.H, .slice a.S.Alt.Cells.A a.S.Alt.Cells.n a.S.Alt.Cells.c, .bool a.S.OnAlt, i64 a.S.X, i64 a.S.Y, .bool a.S.Wrap, i64 a.S.A.Fg, i64 a.S.A.Bg, .bool a.S.A.Bold, .bool a.S.A.Under, .bool a.S.A.Turn, i64 a.S.Top, i64 a.S.Bot, .bool a.S.NoWrap, .bool a.S.Hide, i64 a.S.SaveX, i64 a.S.SaveY, i64 a.S.SaveA.Fg, i64 a.S.SaveA.Bg, .bool a.S.SaveA.Bold, .bool a.S.SaveA.Under, .bool a.S.SaveA.Turn, .slice a.S.Tabs.A a.S.Tabs.n a.S.Tabs.c, i64 a.S.Limit, .slice a.S.Back.A a.S.Back.n a.S.Back.c], .agg #[i64 b.P.State, .bool b.P.Mark, .slice b.P.Args.A b.P.Args.n b.P.Args.c, .slice b.P.Part.A b.P.Part.n b.P.Part.c, i64 b.S.W, i64 b.S.H, i64 b.S.Main.W, i64 b.S.Main.H, .slice b.S.Main.Cells.A b.S.Main.Cells.n b.S.Main.Cells.c, i64 b.S.Alt.W, i64 b.S.Alt.H, .slice b.S.Alt.Cells.A b.S.Alt.Cells.n b.S.Alt.Cells.c, .bool b.S.OnAlt, i64 b.S.X, i64 b.S.Y, .bool b.S.Wrap, i64 b.S.A.Fg, i64 b.S.A.Bg, .bool b.S.A.Bold, .bool b.S.A.Under, .bool b.S.A.Turn, i64 b.S.Top, i64 b.S.Bot, .bool b.S.NoWrap, .bool b.S.Hide, i64 b.S.SaveX, i64 b.S.SaveY, i64 b.S.SaveA.Fg, i64 b.S.SaveA.Bg, .bool b.S.SaveA.Bold, .bool b.S.SaveA.Under, .bool b.S.SaveA.Turn, .slice b.S.Tabs.A b.S.Tabs.n b.S.Tabs.c, i64 b.S.Limit, .slice b.S.Back.A b.S.Back.n b.S.Back.c]] w fun e w' => e = .returned (.bool true) ∧ St w [] [] w' := by
 have nb_a_P_Args := f_a.P.Args_n
 have nl_a_P_Args := f_a.P.Args.len
 have nb_a_P_Part := f_a.P.Part_n
 have nl_a_P_Part := f_a.P.Part.len
 have nb_a_S_Main_Cells := f_a.S.Main.Cells_n
 have nl_a_S_Main_Cells := f_a.S.Main.Cells.len
 have nb_a_S_Alt_Cells := f_a.S.Alt.Cells_n
 have nl_a_S_Alt_Cells := f_a.S.Alt.Cells.len
 have nb_a_S_Tabs := f_a.S.Tabs_n
 have nl_a_S_Tabs := f_a.S.Tabs.len
 have nb_a_S_Back := f_a.S.Back_n
 have nl_a_S_Back := f_a.S.Back.sl.len
 have nb_b_P_Args := f_b.P.Args_n
 have nl_b_P_Args := f_b.P.Args.len
 have nb_b_P_Part := f_b.P.Part_n
 have nl_b_P_Part := f_b.P.Part.len
 have nb_b_S_Main_Cells := f_b.S.Main.Cells_n
 have nl_b_S_Main_Cells := f_b.S.Main.Cells.len
 have nb_b_S_Alt_Cells := f_b.S.Alt.Cells_n
 have nl_b_S_Alt_Cells := f_b.S.Alt.Cells.len
 have nb_b_S_Tabs := f_b.S.Tabs_n
 have nl_b_S_Tabs := f_b.S.Tabs.len
 have nb_b_S_Back := f_b.S.Back_n
 have nl_b_S_Back := f_b.S.Back.sl.len
 have e_P : a.P.dat = b.P.dat := congrArg (fun d : TermD => d.P) hab
 have e_P_State : a.P.State = b.P.State := congrArg (fun d : TermD => d.P.State) hab
 have e_P_Mark : a.P.Mark = b.P.Mark := congrArg (fun d : TermD => d.P.Mark) hab
 have e_P_Args : a.P.Args.xs = b.P.Args.xs := congrArg (fun d : TermD => d.P.Args) hab
 have e_P_Part : a.P.Part.xs = b.P.Part.xs := congrArg (fun d : TermD => d.P.Part) hab
 have e_S : a.S.dat = b.S.dat := congrArg (fun d : TermD => d.S) hab
 have e_S_W : a.S.W = b.S.W := congrArg (fun d : TermD => d.S.W) hab
 have e_S_H : a.S.H = b.S.H := congrArg (fun d : TermD => d.S.H) hab
 have e_S_Main : a.S.Main.dat = b.S.Main.dat := congrArg (fun d : TermD => d.S.Main) hab
 have e_S_Main_W : a.S.Main.W = b.S.Main.W := congrArg (fun d : TermD => d.S.Main.W) hab
 have e_S_Main_H : a.S.Main.H = b.S.Main.H := congrArg (fun d : TermD => d.S.Main.H) hab
 have e_S_Main_Cells : a.S.Main.Cells.xs = b.S.Main.Cells.xs := congrArg (fun d : TermD => d.S.Main.Cells) hab
 have e_S_Alt : a.S.Alt.dat = b.S.Alt.dat := congrArg (fun d : TermD => d.S.Alt) hab
 have e_S_Alt_W : a.S.Alt.W = b.S.Alt.W := congrArg (fun d : TermD => d.S.Alt.W) hab
 have e_S_Alt_H : a.S.Alt.H = b.S.Alt.H := congrArg (fun d : TermD => d.S.Alt.H) hab
 have e_S_Alt_Cells : a.S.Alt.Cells.xs = b.S.Alt.Cells.xs := congrArg (fun d : TermD => d.S.Alt.Cells) hab
 have e_S_OnAlt : a.S.OnAlt = b.S.OnAlt := congrArg (fun d : TermD => d.S.OnAlt) hab
 have e_S_X : a.S.X = b.S.X := congrArg (fun d : TermD => d.S.X) hab
 have e_S_Y : a.S.Y = b.S.Y := congrArg (fun d : TermD => d.S.Y) hab
 have e_S_Wrap : a.S.Wrap = b.S.Wrap := congrArg (fun d : TermD => d.S.Wrap) hab
 have e_S_A : a.S.A = b.S.A := congrArg (fun d : TermD => d.S.A) hab
 have e_S_A_Fg : a.S.A.Fg = b.S.A.Fg := congrArg (fun d : TermD => d.S.A.Fg) hab
 have e_S_A_Bg : a.S.A.Bg = b.S.A.Bg := congrArg (fun d : TermD => d.S.A.Bg) hab
 have e_S_A_Bold : a.S.A.Bold = b.S.A.Bold := congrArg (fun d : TermD => d.S.A.Bold) hab
 have e_S_A_Under : a.S.A.Under = b.S.A.Under := congrArg (fun d : TermD => d.S.A.Under) hab
 have e_S_A_Turn : a.S.A.Turn = b.S.A.Turn := congrArg (fun d : TermD => d.S.A.Turn) hab
 have e_S_Top : a.S.Top = b.S.Top := congrArg (fun d : TermD => d.S.Top) hab
 have e_S_Bot : a.S.Bot = b.S.Bot := congrArg (fun d : TermD => d.S.Bot) hab
 have e_S_NoWrap : a.S.NoWrap = b.S.NoWrap := congrArg (fun d : TermD => d.S.NoWrap) hab
 have e_S_Hide : a.S.Hide = b.S.Hide := congrArg (fun d : TermD => d.S.Hide) hab
 have e_S_SaveX : a.S.SaveX = b.S.SaveX := congrArg (fun d : TermD => d.S.SaveX) hab
 have e_S_SaveY : a.S.SaveY = b.S.SaveY := congrArg (fun d : TermD => d.S.SaveY) hab
 have e_S_SaveA : a.S.SaveA = b.S.SaveA := congrArg (fun d : TermD => d.S.SaveA) hab
 have e_S_SaveA_Fg : a.S.SaveA.Fg = b.S.SaveA.Fg := congrArg (fun d : TermD => d.S.SaveA.Fg) hab
 have e_S_SaveA_Bg : a.S.SaveA.Bg = b.S.SaveA.Bg := congrArg (fun d : TermD => d.S.SaveA.Bg) hab
 have e_S_SaveA_Bold : a.S.SaveA.Bold = b.S.SaveA.Bold := congrArg (fun d : TermD => d.S.SaveA.Bold) hab
 have e_S_SaveA_Under : a.S.SaveA.Under = b.S.SaveA.Under := congrArg (fun d : TermD => d.S.SaveA.Under) hab
 have e_S_SaveA_Turn : a.S.SaveA.Turn = b.S.SaveA.Turn := congrArg (fun d : TermD => d.S.SaveA.Turn) hab
 have e_S_Tabs : a.S.Tabs.xs = b.S.Tabs.xs := congrArg (fun d : TermD => d.S.Tabs) hab
 have e_S_Limit : a.S.Limit = b.S.Limit := congrArg (fun d : TermD => d.S.Limit) hab
 have e_S_Back : a.S.Back.xs.map RowR.dat = b.S.Back.xs.map RowR.dat := congrArg (fun d : TermD => d.S.Back) hab
 refine enter 17 Tryz.func169 rfl Tryz.ntmps169 rfl rfl ?_
 have hs1 := St.init w
 refine WC.sr (WL.bx hs1 rfl (fun b2 _ hs3 => WL.bx hs3 rfl (fun b4 _ hs5 => WL.r 1 hs5 [] rfl (WL.nil (WC.seq (fun K6 hK6 => WC.sr (WL.r 4 hs5 [1, 0] rfl ?_)))))))
 refine WL.cl Tryz.call211 rfl (k126_ a.P b.P _ (okVpR.st0 f_a.P hs5) (okVpR.st0 f_b.P hs5) ?_) ?_
 · first | assumption | rfl | omega
 rintro _ whs7 ⟨rfl, hs7⟩
 replace hs7 := hs5.call0 hs7
 refine ⟨_, rfl, WL.r 1 hs7 [] rfl (WL.nil (WC.condF rfl (by simp [e_P_State, e_P_Mark, e_S_W, e_S_H, e_S_Main_W, e_S_Main_H, e_S_Alt_W, e_S_Alt_H, e_S_OnAlt, e_S_X, e_S_Y, e_S_Wrap, e_S_A_Fg, e_S_A_Bg, e_S_A_Bold, e_S_A_Under, e_S_A_Turn, e_S_Top, e_S_Bot, e_S_NoWrap, e_S_Hide, e_S_SaveX, e_S_SaveY, e_S_SaveA_Fg, e_S_SaveA_Bg, e_S_SaveA_Bold, e_S_SaveA_Under, e_S_SaveA_Turn, e_S_Limit]) (WC.skip (hK6 _ _ (WC.seq (fun K9 hK9 => WC.sr ?_))))))⟩
 refine WL.r 4 hs7 [1, 0] rfl (WL.cl Tryz.call212 rfl (k129_ a.S b.S _ (okScrR.st0 f_a.S hs7) (okScrR.st0 f_b.S hs7) ?_) ?_)
 · first | assumption | rfl | omega
 rintro _ whs10 ⟨rfl, hs10⟩
 replace hs10 := hs7.call0 hs10
 refine ⟨_, rfl, WL.r 1 hs10 [] rfl (WL.nil (WC.condF rfl (by simp [e_P_State, e_P_Mark, e_S_W, e_S_H, e_S_Main_W, e_S_Main_H, e_S_Alt_W, e_S_Alt_H, e_S_OnAlt, e_S_X, e_S_Y, e_S_Wrap, e_S_A_Fg, e_S_A_Bg, e_S_A_Bold, e_S_A_Under, e_S_A_Turn, e_S_Top, e_S_Bot, e_S_NoWrap, e_S_Hide, e_S_SaveX, e_S_SaveY, e_S_SaveA_Fg, e_S_SaveA_Bg, e_S_SaveA_Bold, e_S_SaveA_Under, e_S_SaveA_Turn, e_S_Limit]) (WC.skip (hK9 _ _ (WC.r1 hs10 [] rfl (WC.ret ?_))))))⟩
 refine rtv rfl rfl hs10 ?_
 rfl
set_option maxHeartbeats 4000000 in
theorem k131_ (a : PaneR) (b : PaneR) (w : World) (f_a : okPaneR 549755813888 w a) (f_b : okPaneR 549755813888 w b) (hab : a.dat = b.dat) :
    Calls Tryz.prog 108 #[.agg #[i64 a.Id, .string a.Cmd, .string a.Dir, i64 a.Life, i64 a.Code, i64 a.Pid, i64 a.Term.P.State, .bool a.Term.P.Mark, .slice a.Term.P.Args.A a.Term.P.Args.n a.Term.P.Args.c, .slice a.Term.P.Part.A a.Term.P.Part.n a.Term.P.Part.c, i64 a.Term.S.W, i64 a.Term.S.H, i64 a.Term.S.Main.W, i64 a.Term.S.Main.H, .slice a.Term.S.Main.Cells.A a.Term.S.Main.Cells.n a.Term.S.Main.Cells.c, i64 a.Term.S.Alt.W, i64 a.Term.S.Alt.H, .slice a.Term.S.Alt.Cells.A a.Term.S.Alt.Cells.n a.Term.S.Alt.Cells.c, .bool a.Term.S.OnAlt, i64 a.Term.S.X, i64 a.Term.S.Y, .bool a.Term.S.Wrap, i64 a.Term.S.A.Fg, i64 a.Term.S.A.Bg, .bool a.Term.S.A.Bold, .bool a.Term.S.A.Under, .bool a.Term.S.A.Turn, i64 a.Term.S.Top, i64 a.Term.S.Bot, .bool a.Term.S.NoWrap, .bool a.Term.S.Hide, i64 a.Term.S.SaveX, i64 a.Term.S.SaveY, i64 a.Term.S.SaveA.Fg, i64 a.Term.S.SaveA.Bg, .bool a.Term.S.SaveA.Bold, .bool a.Term.S.SaveA.Under, .bool a.Term.S.SaveA.Turn, .slice a.Term.S.Tabs.A a.Term.S.Tabs.n a.Term.S.Tabs.c, i64 a.Term.S.Limit, .slice a.Term.S.Back.A a.Term.S.Back.n a.Term.S.Back.c], .agg #[i64 b.Id, .string b.Cmd, .string b.Dir, i64 b.Life, i64 b.Code, i64 b.Pid, i64 b.Term.P.State, .bool b.Term.P.Mark, .slice b.Term.P.Args.A b.Term.P.Args.n b.Term.P.Args.c, .slice b.Term.P.Part.A b.Term.P.Part.n b.Term.P.Part.c, i64 b.Term.S.W, i64 b.Term.S.H, i64 b.Term.S.Main.W, i64 b.Term.S.Main.H, .slice b.Term.S.Main.Cells.A b.Term.S.Main.Cells.n b.Term.S.Main.Cells.c, i64 b.Term.S.Alt.W, i64 b.Term.S.Alt.H, .slice b.Term.S.Alt.Cells.A b.Term.S.Alt.Cells.n b.Term.S.Alt.Cells.c, .bool b.Term.S.OnAlt, i64 b.Term.S.X, i64 b.Term.S.Y, .bool b.Term.S.Wrap, i64 b.Term.S.A.Fg, i64 b.Term.S.A.Bg, .bool b.Term.S.A.Bold, .bool b.Term.S.A.Under, .bool b.Term.S.A.Turn, i64 b.Term.S.Top, i64 b.Term.S.Bot, .bool b.Term.S.NoWrap, .bool b.Term.S.Hide, i64 b.Term.S.SaveX, i64 b.Term.S.SaveY, i64 b.Term.S.SaveA.Fg, i64 b.Term.S.SaveA.Bg, .bool b.Term.S.SaveA.Bold, .bool b.Term.S.SaveA.Under, .bool b.Term.S.SaveA.Turn, .slice b.Term.S.Tabs.A b.Term.S.Tabs.n b.Term.S.Tabs.c, i64 b.Term.S.Limit, .slice b.Term.S.Back.A b.Term.S.Back.n b.Term.S.Back.c]] w fun e w' => e = .returned (.bool true) ∧ St w [] [] w' := by
 have nz_a_Cmd := f_a.Cmd_z
 have nz_a_Dir := f_a.Dir_z
 have nb_a_Term_P_Args := f_a.Term.P.Args_n
 have nl_a_Term_P_Args := f_a.Term.P.Args.len
 have nb_a_Term_P_Part := f_a.Term.P.Part_n
 have nl_a_Term_P_Part := f_a.Term.P.Part.len
 have nb_a_Term_S_Main_Cells := f_a.Term.S.Main.Cells_n
 have nl_a_Term_S_Main_Cells := f_a.Term.S.Main.Cells.len
 have nb_a_Term_S_Alt_Cells := f_a.Term.S.Alt.Cells_n
 have nl_a_Term_S_Alt_Cells := f_a.Term.S.Alt.Cells.len
 have nb_a_Term_S_Tabs := f_a.Term.S.Tabs_n
 have nl_a_Term_S_Tabs := f_a.Term.S.Tabs.len
 have nb_a_Term_S_Back := f_a.Term.S.Back_n
 have nl_a_Term_S_Back := f_a.Term.S.Back.sl.len
 have nz_b_Cmd := f_b.Cmd_z
 have nz_b_Dir := f_b.Dir_z
 have nb_b_Term_P_Args := f_b.Term.P.Args_n
 have nl_b_Term_P_Args := f_b.Term.P.Args.len
 have nb_b_Term_P_Part := f_b.Term.P.Part_n
 have nl_b_Term_P_Part := f_b.Term.P.Part.len
 have nb_b_Term_S_Main_Cells := f_b.Term.S.Main.Cells_n
 have nl_b_Term_S_Main_Cells := f_b.Term.S.Main.Cells.len
 have nb_b_Term_S_Alt_Cells := f_b.Term.S.Alt.Cells_n
 have nl_b_Term_S_Alt_Cells := f_b.Term.S.Alt.Cells.len
 have nb_b_Term_S_Tabs := f_b.Term.S.Tabs_n
 have nl_b_Term_S_Tabs := f_b.Term.S.Tabs.len
 have nb_b_Term_S_Back := f_b.Term.S.Back_n
 have nl_b_Term_S_Back := f_b.Term.S.Back.sl.len
 have e_Id : a.Id = b.Id := congrArg (fun d : PaneD => d.Id) hab
 have e_Cmd : a.Cmd = b.Cmd := congrArg (fun d : PaneD => d.Cmd) hab
 have e_Dir : a.Dir = b.Dir := congrArg (fun d : PaneD => d.Dir) hab
 have e_Life : a.Life = b.Life := congrArg (fun d : PaneD => d.Life) hab
 have e_Code : a.Code = b.Code := congrArg (fun d : PaneD => d.Code) hab
 have e_Pid : a.Pid = b.Pid := congrArg (fun d : PaneD => d.Pid) hab
 have e_Term : a.Term.dat = b.Term.dat := congrArg (fun d : PaneD => d.Term) hab
 have e_Term_P : a.Term.P.dat = b.Term.P.dat := congrArg (fun d : PaneD => d.Term.P) hab
 have e_Term_P_State : a.Term.P.State = b.Term.P.State := congrArg (fun d : PaneD => d.Term.P.State) hab
 have e_Term_P_Mark : a.Term.P.Mark = b.Term.P.Mark := congrArg (fun d : PaneD => d.Term.P.Mark) hab
 have e_Term_P_Args : a.Term.P.Args.xs = b.Term.P.Args.xs := congrArg (fun d : PaneD => d.Term.P.Args) hab
 have e_Term_P_Part : a.Term.P.Part.xs = b.Term.P.Part.xs := congrArg (fun d : PaneD => d.Term.P.Part) hab
 have e_Term_S : a.Term.S.dat = b.Term.S.dat := congrArg (fun d : PaneD => d.Term.S) hab
 have e_Term_S_W : a.Term.S.W = b.Term.S.W := congrArg (fun d : PaneD => d.Term.S.W) hab
 have e_Term_S_H : a.Term.S.H = b.Term.S.H := congrArg (fun d : PaneD => d.Term.S.H) hab
 have e_Term_S_Main : a.Term.S.Main.dat = b.Term.S.Main.dat := congrArg (fun d : PaneD => d.Term.S.Main) hab
 have e_Term_S_Main_W : a.Term.S.Main.W = b.Term.S.Main.W := congrArg (fun d : PaneD => d.Term.S.Main.W) hab
 have e_Term_S_Main_H : a.Term.S.Main.H = b.Term.S.Main.H := congrArg (fun d : PaneD => d.Term.S.Main.H) hab
 have e_Term_S_Main_Cells : a.Term.S.Main.Cells.xs = b.Term.S.Main.Cells.xs := congrArg (fun d : PaneD => d.Term.S.Main.Cells) hab
 have e_Term_S_Alt : a.Term.S.Alt.dat = b.Term.S.Alt.dat := congrArg (fun d : PaneD => d.Term.S.Alt) hab
 have e_Term_S_Alt_W : a.Term.S.Alt.W = b.Term.S.Alt.W := congrArg (fun d : PaneD => d.Term.S.Alt.W) hab
 have e_Term_S_Alt_H : a.Term.S.Alt.H = b.Term.S.Alt.H := congrArg (fun d : PaneD => d.Term.S.Alt.H) hab
 have e_Term_S_Alt_Cells : a.Term.S.Alt.Cells.xs = b.Term.S.Alt.Cells.xs := congrArg (fun d : PaneD => d.Term.S.Alt.Cells) hab
 have e_Term_S_OnAlt : a.Term.S.OnAlt = b.Term.S.OnAlt := congrArg (fun d : PaneD => d.Term.S.OnAlt) hab
 have e_Term_S_X : a.Term.S.X = b.Term.S.X := congrArg (fun d : PaneD => d.Term.S.X) hab
 have e_Term_S_Y : a.Term.S.Y = b.Term.S.Y := congrArg (fun d : PaneD => d.Term.S.Y) hab
 have e_Term_S_Wrap : a.Term.S.Wrap = b.Term.S.Wrap := congrArg (fun d : PaneD => d.Term.S.Wrap) hab
 have e_Term_S_A : a.Term.S.A = b.Term.S.A := congrArg (fun d : PaneD => d.Term.S.A) hab
 have e_Term_S_A_Fg : a.Term.S.A.Fg = b.Term.S.A.Fg := congrArg (fun d : PaneD => d.Term.S.A.Fg) hab
 have e_Term_S_A_Bg : a.Term.S.A.Bg = b.Term.S.A.Bg := congrArg (fun d : PaneD => d.Term.S.A.Bg) hab
 have e_Term_S_A_Bold : a.Term.S.A.Bold = b.Term.S.A.Bold := congrArg (fun d : PaneD => d.Term.S.A.Bold) hab
 have e_Term_S_A_Under : a.Term.S.A.Under = b.Term.S.A.Under := congrArg (fun d : PaneD => d.Term.S.A.Under) hab
 have e_Term_S_A_Turn : a.Term.S.A.Turn = b.Term.S.A.Turn := congrArg (fun d : PaneD => d.Term.S.A.Turn) hab
 have e_Term_S_Top : a.Term.S.Top = b.Term.S.Top := congrArg (fun d : PaneD => d.Term.S.Top) hab
 have e_Term_S_Bot : a.Term.S.Bot = b.Term.S.Bot := congrArg (fun d : PaneD => d.Term.S.Bot) hab
 have e_Term_S_NoWrap : a.Term.S.NoWrap = b.Term.S.NoWrap := congrArg (fun d : PaneD => d.Term.S.NoWrap) hab
 have e_Term_S_Hide : a.Term.S.Hide = b.Term.S.Hide := congrArg (fun d : PaneD => d.Term.S.Hide) hab
 have e_Term_S_SaveX : a.Term.S.SaveX = b.Term.S.SaveX := congrArg (fun d : PaneD => d.Term.S.SaveX) hab
 have e_Term_S_SaveY : a.Term.S.SaveY = b.Term.S.SaveY := congrArg (fun d : PaneD => d.Term.S.SaveY) hab
 have e_Term_S_SaveA : a.Term.S.SaveA = b.Term.S.SaveA := congrArg (fun d : PaneD => d.Term.S.SaveA) hab
 have e_Term_S_SaveA_Fg : a.Term.S.SaveA.Fg = b.Term.S.SaveA.Fg := congrArg (fun d : PaneD => d.Term.S.SaveA.Fg) hab
 have e_Term_S_SaveA_Bg : a.Term.S.SaveA.Bg = b.Term.S.SaveA.Bg := congrArg (fun d : PaneD => d.Term.S.SaveA.Bg) hab
 have e_Term_S_SaveA_Bold : a.Term.S.SaveA.Bold = b.Term.S.SaveA.Bold := congrArg (fun d : PaneD => d.Term.S.SaveA.Bold) hab
 have e_Term_S_SaveA_Under : a.Term.S.SaveA.Under = b.Term.S.SaveA.Under := congrArg (fun d : PaneD => d.Term.S.SaveA.Under) hab
 have e_Term_S_SaveA_Turn : a.Term.S.SaveA.Turn = b.Term.S.SaveA.Turn := congrArg (fun d : PaneD => d.Term.S.SaveA.Turn) hab
 have e_Term_S_Tabs : a.Term.S.Tabs.xs = b.Term.S.Tabs.xs := congrArg (fun d : PaneD => d.Term.S.Tabs) hab
 have e_Term_S_Limit : a.Term.S.Limit = b.Term.S.Limit := congrArg (fun d : PaneD => d.Term.S.Limit) hab
 have e_Term_S_Back : a.Term.S.Back.xs.map RowR.dat = b.Term.S.Back.xs.map RowR.dat := congrArg (fun d : PaneD => d.Term.S.Back) hab
 refine enter 41 Tryz.func108 rfl Tryz.ntmps108 rfl rfl ?_
 have hs1 := St.init w
 refine WC.sr (WL.bx hs1 rfl (fun b2 _ hs3 => WL.bx hs3 rfl (fun b4 _ hs5 => WL.r 1 hs5 [] rfl (WL.nil (WC.seq (fun K6 hK6 => WC.r1 hs5 [1, 0] rfl (WC.condF rfl (by simp [e_Id, e_Cmd, e_Dir, e_Life, e_Code, e_Pid, e_Term_P_State, e_Term_P_Mark, e_Term_S_W, e_Term_S_H, e_Term_S_Main_W, e_Term_S_Main_H, e_Term_S_Alt_W, e_Term_S_Alt_H, e_Term_S_OnAlt, e_Term_S_X, e_Term_S_Y, e_Term_S_Wrap, e_Term_S_A_Fg, e_Term_S_A_Bg, e_Term_S_A_Bold, e_Term_S_A_Under, e_Term_S_A_Turn, e_Term_S_Top, e_Term_S_Bot, e_Term_S_NoWrap, e_Term_S_Hide, e_Term_S_SaveX, e_Term_S_SaveY, e_Term_S_SaveA_Fg, e_Term_S_SaveA_Bg, e_Term_S_SaveA_Bold, e_Term_S_SaveA_Under, e_Term_S_SaveA_Turn, e_Term_S_Limit]) ?_)))))))
 refine WC.skip (hK6 _ _ (WC.seq (fun K8 hK8 => WC.r1 hs5 [1, 0] rfl (WC.condF rfl (by simp [e_Id, e_Cmd, e_Dir, e_Life, e_Code, e_Pid, e_Term_P_State, e_Term_P_Mark, e_Term_S_W, e_Term_S_H, e_Term_S_Main_W, e_Term_S_Main_H, e_Term_S_Alt_W, e_Term_S_Alt_H, e_Term_S_OnAlt, e_Term_S_X, e_Term_S_Y, e_Term_S_Wrap, e_Term_S_A_Fg, e_Term_S_A_Bg, e_Term_S_A_Bold, e_Term_S_A_Under, e_Term_S_A_Turn, e_Term_S_Top, e_Term_S_Bot, e_Term_S_NoWrap, e_Term_S_Hide, e_Term_S_SaveX, e_Term_S_SaveY, e_Term_S_SaveA_Fg, e_Term_S_SaveA_Bg, e_Term_S_SaveA_Bold, e_Term_S_SaveA_Under, e_Term_S_SaveA_Turn, e_Term_S_Limit]) ?_))))
 refine WC.skip (hK8 _ _ (WC.seq (fun K10 hK10 => WC.r1 hs5 [1, 0] rfl (WC.condF rfl (by simp [e_Id, e_Cmd, e_Dir, e_Life, e_Code, e_Pid, e_Term_P_State, e_Term_P_Mark, e_Term_S_W, e_Term_S_H, e_Term_S_Main_W, e_Term_S_Main_H, e_Term_S_Alt_W, e_Term_S_Alt_H, e_Term_S_OnAlt, e_Term_S_X, e_Term_S_Y, e_Term_S_Wrap, e_Term_S_A_Fg, e_Term_S_A_Bg, e_Term_S_A_Bold, e_Term_S_A_Under, e_Term_S_A_Turn, e_Term_S_Top, e_Term_S_Bot, e_Term_S_NoWrap, e_Term_S_Hide, e_Term_S_SaveX, e_Term_S_SaveY, e_Term_S_SaveA_Fg, e_Term_S_SaveA_Bg, e_Term_S_SaveA_Bold, e_Term_S_SaveA_Under, e_Term_S_SaveA_Turn, e_Term_S_Limit]) ?_))))
 refine WC.skip (hK10 _ _ (WC.seq (fun K12 hK12 => WC.r1 hs5 [1, 0] rfl (WC.condF rfl (by simp [e_Id, e_Cmd, e_Dir, e_Life, e_Code, e_Pid, e_Term_P_State, e_Term_P_Mark, e_Term_S_W, e_Term_S_H, e_Term_S_Main_W, e_Term_S_Main_H, e_Term_S_Alt_W, e_Term_S_Alt_H, e_Term_S_OnAlt, e_Term_S_X, e_Term_S_Y, e_Term_S_Wrap, e_Term_S_A_Fg, e_Term_S_A_Bg, e_Term_S_A_Bold, e_Term_S_A_Under, e_Term_S_A_Turn, e_Term_S_Top, e_Term_S_Bot, e_Term_S_NoWrap, e_Term_S_Hide, e_Term_S_SaveX, e_Term_S_SaveY, e_Term_S_SaveA_Fg, e_Term_S_SaveA_Bg, e_Term_S_SaveA_Bold, e_Term_S_SaveA_Under, e_Term_S_SaveA_Turn, e_Term_S_Limit]) ?_))))
 refine WC.skip (hK12 _ _ (WC.seq (fun K14 hK14 => WC.r1 hs5 [1, 0] rfl (WC.condF rfl (by simp [e_Id, e_Cmd, e_Dir, e_Life, e_Code, e_Pid, e_Term_P_State, e_Term_P_Mark, e_Term_S_W, e_Term_S_H, e_Term_S_Main_W, e_Term_S_Main_H, e_Term_S_Alt_W, e_Term_S_Alt_H, e_Term_S_OnAlt, e_Term_S_X, e_Term_S_Y, e_Term_S_Wrap, e_Term_S_A_Fg, e_Term_S_A_Bg, e_Term_S_A_Bold, e_Term_S_A_Under, e_Term_S_A_Turn, e_Term_S_Top, e_Term_S_Bot, e_Term_S_NoWrap, e_Term_S_Hide, e_Term_S_SaveX, e_Term_S_SaveY, e_Term_S_SaveA_Fg, e_Term_S_SaveA_Bg, e_Term_S_SaveA_Bold, e_Term_S_SaveA_Under, e_Term_S_SaveA_Turn, e_Term_S_Limit]) ?_))))
 refine WC.skip (hK14 _ _ (WC.seq (fun K16 hK16 => WC.r1 hs5 [1, 0] rfl (WC.condF rfl (by simp [e_Id, e_Cmd, e_Dir, e_Life, e_Code, e_Pid, e_Term_P_State, e_Term_P_Mark, e_Term_S_W, e_Term_S_H, e_Term_S_Main_W, e_Term_S_Main_H, e_Term_S_Alt_W, e_Term_S_Alt_H, e_Term_S_OnAlt, e_Term_S_X, e_Term_S_Y, e_Term_S_Wrap, e_Term_S_A_Fg, e_Term_S_A_Bg, e_Term_S_A_Bold, e_Term_S_A_Under, e_Term_S_A_Turn, e_Term_S_Top, e_Term_S_Bot, e_Term_S_NoWrap, e_Term_S_Hide, e_Term_S_SaveX, e_Term_S_SaveY, e_Term_S_SaveA_Fg, e_Term_S_SaveA_Bg, e_Term_S_SaveA_Bold, e_Term_S_SaveA_Under, e_Term_S_SaveA_Turn, e_Term_S_Limit]) ?_))))
 refine WC.skip (hK16 _ _ (WC.seq (fun K18 hK18 => WC.sr (WL.r 4 hs5 [1, 0] rfl ?_))))
 refine WL.cl Tryz.call169 rfl (k130_ a.Term b.Term _ (okTermR.st0 f_a.Term hs5) (okTermR.st0 f_b.Term hs5) ?_) ?_
 · first | assumption | rfl | omega
 rintro _ whs19 ⟨rfl, hs19⟩
 replace hs19 := hs5.call0 hs19
 refine ⟨_, rfl, WL.r 1 hs19 [] rfl (WL.nil (WC.condF rfl (by simp [e_Id, e_Cmd, e_Dir, e_Life, e_Code, e_Pid, e_Term_P_State, e_Term_P_Mark, e_Term_S_W, e_Term_S_H, e_Term_S_Main_W, e_Term_S_Main_H, e_Term_S_Alt_W, e_Term_S_Alt_H, e_Term_S_OnAlt, e_Term_S_X, e_Term_S_Y, e_Term_S_Wrap, e_Term_S_A_Fg, e_Term_S_A_Bg, e_Term_S_A_Bold, e_Term_S_A_Under, e_Term_S_A_Turn, e_Term_S_Top, e_Term_S_Bot, e_Term_S_NoWrap, e_Term_S_Hide, e_Term_S_SaveX, e_Term_S_SaveY, e_Term_S_SaveA_Fg, e_Term_S_SaveA_Bg, e_Term_S_SaveA_Bold, e_Term_S_SaveA_Under, e_Term_S_SaveA_Turn, e_Term_S_Limit]) (WC.skip (hK18 _ _ ?_))))⟩
 refine WC.r1 hs19 [] rfl (WC.ret (rtv rfl rfl hs19 ?_))
 rfl
set_option maxHeartbeats 4000000 in
theorem k132_ (a : WinR) (b : WinR) (w : World) (f_a : okWinR 549755813888 w a) (f_b : okWinR 549755813888 w b) (hab : a.dat = b.dat) :
    Calls Tryz.prog 109 #[.agg #[i64 a.Id, .string a.Name, .slice a.Tree.A a.Tree.n a.Tree.c, i64 a.Active, .bool a.Zoom], .agg #[i64 b.Id, .string b.Name, .slice b.Tree.A b.Tree.n b.Tree.c, i64 b.Active, .bool b.Zoom]] w fun e w' => e = .returned (.bool true) ∧ St w [] [] w' := by
 have nz_a_Name := f_a.Name_z
 have nb_a_Tree := f_a.Tree_n
 have nl_a_Tree := f_a.Tree.len
 have nz_b_Name := f_b.Name_z
 have nb_b_Tree := f_b.Tree_n
 have nl_b_Tree := f_b.Tree.len
 have e_Id : a.Id = b.Id := congrArg (fun d : WinD => d.Id) hab
 have e_Name : a.Name = b.Name := congrArg (fun d : WinD => d.Name) hab
 have e_Tree : a.Tree.xs = b.Tree.xs := congrArg (fun d : WinD => d.Tree) hab
 have e_Active : a.Active = b.Active := congrArg (fun d : WinD => d.Active) hab
 have e_Zoom : a.Zoom = b.Zoom := congrArg (fun d : WinD => d.Zoom) hab
 refine enter 31 Tryz.func109 rfl Tryz.ntmps109 rfl rfl ?_
 have hs1 := St.init w
 refine WC.sr (WL.bx hs1 rfl (fun b2 _ hs3 => WL.bx hs3 rfl (fun b4 _ hs5 => WL.r 1 hs5 [] rfl (WL.nil (WC.seq (fun K6 hK6 => WC.r1 hs5 [1, 0] rfl (WC.condF rfl (by simp [e_Id, e_Name, e_Active, e_Zoom]) ?_)))))))
 refine WC.skip (hK6 _ _ (WC.seq (fun K8 hK8 => WC.r1 hs5 [1, 0] rfl (WC.condF rfl (by simp [e_Id, e_Name, e_Active, e_Zoom]) (WC.skip (hK8 _ _ (WC.seq (fun K10 hK10 => ?_))))))))
 refine WC.sr (WL.r 4 hs5 [1, 0] rfl (WL.cl Tryz.call170 rfl (k10_ _ _ _ _ _ _ _ _ _ (SlF.st0 f_a.Tree hs5) (SlF.st0 f_b.Tree hs5) ?_ ?_) ?_))
 iterate 2 first | assumption | rfl | omega
 rintro _ whs11 ⟨rfl, hs11⟩
 replace hs11 := hs5.call0 hs11
 refine ⟨_, rfl, WL.r 1 hs11 [] rfl (WL.nil (WC.condF rfl (by simp [e_Id, e_Name, e_Active, e_Zoom]) (WC.skip (hK10 _ _ (WC.seq (fun K13 hK13 => WC.r1 hs11 [1, 0] rfl ?_))))))⟩
 refine WC.condF rfl (by simp [e_Id, e_Name, e_Active, e_Zoom]) (WC.skip (hK13 _ _ (WC.seq (fun K15 hK15 => WC.r1 hs11 [1, 0] rfl (WC.condF rfl (by simp [e_Id, e_Name, e_Active, e_Zoom]) (WC.skip (hK15 _ _ ?_)))))))
 refine WC.r1 hs11 [] rfl (WC.ret (rtv rfl rfl hs11 ?_))
 rfl
set_option maxHeartbeats 4000000 in
theorem k133_ (a : SessR) (b : SessR) (w : World) (f_a : okSessR 549755813888 w a) (f_b : okSessR 549755813888 w b) (hab : a.dat = b.dat) :
    Calls Tryz.prog 110 #[.agg #[.string a.Name, .slice a.Wins.A a.Wins.n a.Wins.c, i64 a.Active], .agg #[.string b.Name, .slice b.Wins.A b.Wins.n b.Wins.c, i64 b.Active]] w fun e w' => e = .returned (.bool true) ∧ St w [] [] w' := by
 have nz_a_Name := f_a.Name_z
 have nb_a_Wins := f_a.Wins_n
 have nl_a_Wins := f_a.Wins.len
 have nz_b_Name := f_b.Name_z
 have nb_b_Wins := f_b.Wins_n
 have nl_b_Wins := f_b.Wins.len
 have e_Name : a.Name = b.Name := congrArg (fun d : SessD => d.Name) hab
 have e_Wins : a.Wins.xs = b.Wins.xs := congrArg (fun d : SessD => d.Wins) hab
 have e_Active : a.Active = b.Active := congrArg (fun d : SessD => d.Active) hab
 refine enter 21 Tryz.func110 rfl Tryz.ntmps110 rfl rfl ?_
 have hs1 := St.init w
 refine WC.sr (WL.bx hs1 rfl (fun b2 _ hs3 => WL.bx hs3 rfl (fun b4 _ hs5 => WL.r 1 hs5 [] rfl (WL.nil (WC.seq (fun K6 hK6 => WC.r1 hs5 [1, 0] rfl (WC.condF rfl (by simp [e_Name, e_Active]) ?_)))))))
 refine WC.skip (hK6 _ _ (WC.seq (fun K8 hK8 => WC.sr (WL.r 4 hs5 [1, 0] rfl ?_))))
 refine WL.cl Tryz.call171 rfl (k8_ _ _ _ _ _ _ _ _ _ (SlF.st0 f_a.Wins hs5) (SlF.st0 f_b.Wins hs5) ?_ ?_) ?_
 iterate 2 first | assumption | rfl | omega
 rintro _ whs9 ⟨rfl, hs9⟩
 replace hs9 := hs5.call0 hs9
 refine ⟨_, rfl, WL.r 1 hs9 [] rfl (WL.nil (WC.condF rfl (by simp [e_Name, e_Active]) (WC.skip (hK8 _ _ (WC.seq (fun K11 hK11 => WC.r1 hs9 [1, 0] rfl ?_))))))⟩
 refine WC.condF rfl (by simp [e_Name, e_Active]) (WC.skip (hK11 _ _ (WC.r1 hs9 [] rfl (WC.ret (rtv rfl rfl hs9 ?_)))))
 rfl
theorem k134_ (A_a : Option Addr) (n_a c_a : Nat) (a : List PaneR) (A_b : Option Addr) (n_b c_b : Nat) (b : List PaneR) (w : World) (f_a : SlN encPaneR (okPaneR 549755813888) w A_a n_a a) (f_b : SlN encPaneR (okPaneR 549755813888) w A_b n_b b) (hn : n_a ≤ 549755813888) (hab : a.map PaneR.dat = b.map PaneR.dat) :
    Calls Tryz.prog 48 #[.slice A_a n_a c_a, .slice A_b n_b c_b] w fun e w' => e = .returned (.bool true) ∧ St w [] [] w' := by
 have hla := f_a.sl.len
 obtain rfl : n_a = n_b := by have h9 := congrArg List.length hab; simp only [List.length_map] at h9; rw [← hla, h9]; exact f_b.sl.len
 refine enter 27 Tryz.func48 rfl Tryz.ntmps48 rfl rfl ?_
 have hs1 := St.init w
 refine WC.r1 hs1 [] rfl (WC.seq (fun K2 hK2 => WC.r1 hs1 [] rfl (WC.condF rfl (by simp) (WC.skip (hK2 _ _ (WC.seq (fun K4 hK4 => WC.r1 hs1 [] rfl ?_)))))))
 refine WC.block (WC.lS [0, 1, 10] rfl hs1 (fun k_ f w' => ∃ (i : Nat), k_ = n_a - i ∧ (i ≤ n_a) ∧ Sub [(5, .int .i64 i)] f) ((fun (i : Nat) => n_a - i) (0)) ?_ ?_)
 ·refine ⟨0, rfl, ?_, ⟨rfl, trivial⟩⟩
  · exact Nat.zero_le _
 clear hs1
 rintro _ f w ⟨i, rfl, p0, hG⟩ hF hs5
 refine WC.sub _ (hG.app hF) ?_
 clear hG hF
 refine WC.seq (fun K6 hK6 => WC.r1 hs5 [] rfl ?_)
 refine WC.cD rfl (fun qh7 => ?_) (fun qh7 => ?_)
 ·have hab_ := gat_dat (F := encPaneR) (i := i) hab (by omega)
  refine WC.skip (hK6 _ _ (WC.seq (fun K8 hK8 => WC.block (WC.sq1 hs5 (WQ.r 2 [] rfl ?_)))))
  refine WQ.val rfl rfl rfl (fun w_ hs_ => (Run.idxN Tryz.runUnderlying29 Tryz.sizeOf93 rfl rfl rfl ?_ ?_ ?_)) ?_
  · exact SlF.some_ (SlF.st0 f_a.sl (hs_ : St _ _ _ _))
  · omega
  · omega
  refine WQ.val rfl rfl rfl (fun w_ hs_ => (Run.loadA Tryz.isAgg93 Tryz.sizeOf93 rfl rfl (SlF.whole (SlF.st0 f_a.sl (hs_ : St _ _ _ _)) ?_))) ?_
  · omega
  refine WQ.r 2 [] rfl ?_
  refine WQ.val rfl rfl rfl (fun w_ hs_ => (Run.idxN Tryz.runUnderlying29 Tryz.sizeOf93 rfl rfl rfl ?_ ?_ ?_)) ?_
  · exact SlF.some_ (SlF.st0 f_b.sl (hs_ : St _ _ _ _))
  · omega
  · omega
  refine WQ.val rfl rfl rfl (fun w_ hs_ => (Run.loadA Tryz.isAgg93 Tryz.sizeOf93 rfl rfl (SlF.whole (SlF.st0 f_b.sl (hs_ : St _ _ _ _)) ?_))) ?_
  · omega
  refine WQ.call rfl rfl rfl (fun w_ hs_ => (Run.call Tryz.call108 rfl rfl rfl)) (fun w_ hs_ => (k131_ (gat encPaneR a i) (gat encPaneR b i) _ (okPaneR.st0 (SlN.nth f_a (by omega)) (hs_ : St _ _ _ _)) (okPaneR.st0 (SlN.nth f_b (by omega)) (hs_ : St _ _ _ _)) ?_).mono fun e_ w_ h_ => ⟨h_.1, (hs_ : St _ _ _ _).call0 h_.2⟩) ?_
  · first | assumption | rfl | omega
  refine WQ.r 1 [] rfl (WQ.nil (fun _ (hs9 : St _ _ _ _) => WC.condF rfl (by simp) (WC.skip (hK8 _ _ (WC.region (WL.r 3 hs9 [] rfl (WL.nil ?_)))))))
  refine tkN (⟨sbF rfl, hs9, _, ?_, i + 1, rfl, ?_, ⟨rfl, trivial⟩⟩)
  · omega
  · omega
 refine WC.exit (hK4 _ _ (WC.r1 hs5 [] rfl (WC.ret (rtv rfl rfl hs5 ?_))))
 rfl
theorem k135_ (A_a : Option Addr) (n_a c_a : Nat) (a : List WinR) (A_b : Option Addr) (n_b c_b : Nat) (b : List WinR) (w : World) (f_a : SlN encWinR (okWinR 549755813888) w A_a n_a a) (f_b : SlN encWinR (okWinR 549755813888) w A_b n_b b) (hn : n_a ≤ 549755813888) (hab : a.map WinR.dat = b.map WinR.dat) :
    Calls Tryz.prog 49 #[.slice A_a n_a c_a, .slice A_b n_b c_b] w fun e w' => e = .returned (.bool true) ∧ St w [] [] w' := by
 have hla := f_a.sl.len
 obtain rfl : n_a = n_b := by have h9 := congrArg List.length hab; simp only [List.length_map] at h9; rw [← hla, h9]; exact f_b.sl.len
 refine enter 27 Tryz.func49 rfl Tryz.ntmps49 rfl rfl ?_
 have hs1 := St.init w
 refine WC.r1 hs1 [] rfl (WC.seq (fun K2 hK2 => WC.r1 hs1 [] rfl (WC.condF rfl (by simp) (WC.skip (hK2 _ _ (WC.seq (fun K4 hK4 => WC.r1 hs1 [] rfl ?_)))))))
 refine WC.block (WC.lS [0, 1, 10] rfl hs1 (fun k_ f w' => ∃ (i : Nat), k_ = n_a - i ∧ (i ≤ n_a) ∧ Sub [(5, .int .i64 i)] f) ((fun (i : Nat) => n_a - i) (0)) ?_ ?_)
 ·refine ⟨0, rfl, ?_, ⟨rfl, trivial⟩⟩
  · exact Nat.zero_le _
 clear hs1
 rintro _ f w ⟨i, rfl, p0, hG⟩ hF hs5
 refine WC.sub _ (hG.app hF) ?_
 clear hG hF
 refine WC.seq (fun K6 hK6 => WC.r1 hs5 [] rfl ?_)
 refine WC.cD rfl (fun qh7 => ?_) (fun qh7 => ?_)
 ·have hab_ := gat_dat (F := encWinR) (i := i) hab (by omega)
  refine WC.skip (hK6 _ _ (WC.seq (fun K8 hK8 => WC.block (WC.sq1 hs5 (WQ.r 2 [] rfl ?_)))))
  refine WQ.val rfl rfl rfl (fun w_ hs_ => (Run.idxN Tryz.runUnderlying30 Tryz.sizeOf58 rfl rfl rfl ?_ ?_ ?_)) ?_
  · exact SlF.some_ (SlF.st0 f_a.sl (hs_ : St _ _ _ _))
  · omega
  · omega
  refine WQ.val rfl rfl rfl (fun w_ hs_ => (Run.loadA Tryz.isAgg58 Tryz.sizeOf58 rfl rfl (SlF.whole (SlF.st0 f_a.sl (hs_ : St _ _ _ _)) ?_))) ?_
  · omega
  refine WQ.r 2 [] rfl ?_
  refine WQ.val rfl rfl rfl (fun w_ hs_ => (Run.idxN Tryz.runUnderlying30 Tryz.sizeOf58 rfl rfl rfl ?_ ?_ ?_)) ?_
  · exact SlF.some_ (SlF.st0 f_b.sl (hs_ : St _ _ _ _))
  · omega
  · omega
  refine WQ.val rfl rfl rfl (fun w_ hs_ => (Run.loadA Tryz.isAgg58 Tryz.sizeOf58 rfl rfl (SlF.whole (SlF.st0 f_b.sl (hs_ : St _ _ _ _)) ?_))) ?_
  · omega
  refine WQ.call rfl rfl rfl (fun w_ hs_ => (Run.call Tryz.call109 rfl rfl rfl)) (fun w_ hs_ => (k132_ (gat encWinR a i) (gat encWinR b i) _ (okWinR.st0 (SlN.nth f_a (by omega)) (hs_ : St _ _ _ _)) (okWinR.st0 (SlN.nth f_b (by omega)) (hs_ : St _ _ _ _)) ?_).mono fun e_ w_ h_ => ⟨h_.1, (hs_ : St _ _ _ _).call0 h_.2⟩) ?_
  · first | assumption | rfl | omega
  refine WQ.r 1 [] rfl (WQ.nil (fun _ (hs9 : St _ _ _ _) => WC.condF rfl (by simp) (WC.skip (hK8 _ _ (WC.region (WL.r 3 hs9 [] rfl (WL.nil ?_)))))))
  refine tkN (⟨sbF rfl, hs9, _, ?_, i + 1, rfl, ?_, ⟨rfl, trivial⟩⟩)
  · omega
  · omega
 refine WC.exit (hK4 _ _ (WC.r1 hs5 [] rfl (WC.ret (rtv rfl rfl hs5 ?_))))
 rfl
theorem k136_ (A_a : Option Addr) (n_a c_a : Nat) (a : List SessR) (A_b : Option Addr) (n_b c_b : Nat) (b : List SessR) (w : World) (f_a : SlN encSessR (okSessR 549755813888) w A_a n_a a) (f_b : SlN encSessR (okSessR 549755813888) w A_b n_b b) (hn : n_a ≤ 549755813888) (hab : a.map SessR.dat = b.map SessR.dat) :
    Calls Tryz.prog 50 #[.slice A_a n_a c_a, .slice A_b n_b c_b] w fun e w' => e = .returned (.bool true) ∧ St w [] [] w' := by
 have hla := f_a.sl.len
 obtain rfl : n_a = n_b := by have h9 := congrArg List.length hab; simp only [List.length_map] at h9; rw [← hla, h9]; exact f_b.sl.len
 refine enter 27 Tryz.func50 rfl Tryz.ntmps50 rfl rfl ?_
 have hs1 := St.init w
 refine WC.r1 hs1 [] rfl (WC.seq (fun K2 hK2 => WC.r1 hs1 [] rfl (WC.condF rfl (by simp) (WC.skip (hK2 _ _ (WC.seq (fun K4 hK4 => WC.r1 hs1 [] rfl ?_)))))))
 refine WC.block (WC.lS [0, 1, 10] rfl hs1 (fun k_ f w' => ∃ (i : Nat), k_ = n_a - i ∧ (i ≤ n_a) ∧ Sub [(5, .int .i64 i)] f) ((fun (i : Nat) => n_a - i) (0)) ?_ ?_)
 ·refine ⟨0, rfl, ?_, ⟨rfl, trivial⟩⟩
  · exact Nat.zero_le _
 clear hs1
 rintro _ f w ⟨i, rfl, p0, hG⟩ hF hs5
 refine WC.sub _ (hG.app hF) ?_
 clear hG hF
 refine WC.seq (fun K6 hK6 => WC.r1 hs5 [] rfl ?_)
 refine WC.cD rfl (fun qh7 => ?_) (fun qh7 => ?_)
 ·have hab_ := gat_dat (F := encSessR) (i := i) hab (by omega)
  refine WC.skip (hK6 _ _ (WC.seq (fun K8 hK8 => WC.block (WC.sq1 hs5 (WQ.r 2 [] rfl ?_)))))
  refine WQ.val rfl rfl rfl (fun w_ hs_ => (Run.idxN Tryz.runUnderlying31 Tryz.sizeOf106 rfl rfl rfl ?_ ?_ ?_)) ?_
  · exact SlF.some_ (SlF.st0 f_a.sl (hs_ : St _ _ _ _))
  · omega
  · omega
  refine WQ.val rfl rfl rfl (fun w_ hs_ => (Run.loadA Tryz.isAgg106 Tryz.sizeOf106 rfl rfl (SlF.whole (SlF.st0 f_a.sl (hs_ : St _ _ _ _)) ?_))) ?_
  · omega
  refine WQ.r 2 [] rfl ?_
  refine WQ.val rfl rfl rfl (fun w_ hs_ => (Run.idxN Tryz.runUnderlying31 Tryz.sizeOf106 rfl rfl rfl ?_ ?_ ?_)) ?_
  · exact SlF.some_ (SlF.st0 f_b.sl (hs_ : St _ _ _ _))
  · omega
  · omega
  refine WQ.val rfl rfl rfl (fun w_ hs_ => (Run.loadA Tryz.isAgg106 Tryz.sizeOf106 rfl rfl (SlF.whole (SlF.st0 f_b.sl (hs_ : St _ _ _ _)) ?_))) ?_
  · omega
  refine WQ.call rfl rfl rfl (fun w_ hs_ => (Run.call Tryz.call110 rfl rfl rfl)) (fun w_ hs_ => (k133_ (gat encSessR a i) (gat encSessR b i) _ (okSessR.st0 (SlN.nth f_a (by omega)) (hs_ : St _ _ _ _)) (okSessR.st0 (SlN.nth f_b (by omega)) (hs_ : St _ _ _ _)) ?_).mono fun e_ w_ h_ => ⟨h_.1, (hs_ : St _ _ _ _).call0 h_.2⟩) ?_
  · first | assumption | rfl | omega
  refine WQ.r 1 [] rfl (WQ.nil (fun _ (hs9 : St _ _ _ _) => WC.condF rfl (by simp) (WC.skip (hK8 _ _ (WC.region (WL.r 3 hs9 [] rfl (WL.nil ?_)))))))
  refine tkN (⟨sbF rfl, hs9, _, ?_, i + 1, rfl, ?_, ⟨rfl, trivial⟩⟩)
  · omega
  · omega
 refine WC.exit (hK4 _ _ (WC.r1 hs5 [] rfl (WC.ret (rtv rfl rfl hs5 ?_))))
 rfl
set_option maxHeartbeats 4000000 in
theorem k137_ (a : StateR) (b : StateR) (w : World) (f_a : okStateR 549755813888 w a) (f_b : okStateR 549755813888 w b) (hab : a.dat = b.dat) :
    Calls Tryz.prog 15 #[.agg #[i64 a.W, i64 a.H, i64 a.Limit, i64 a.Next, .slice a.Panes.A a.Panes.n a.Panes.c, .slice a.Wins.A a.Wins.n a.Wins.c, .slice a.Sess.A a.Sess.n a.Sess.c], .agg #[i64 b.W, i64 b.H, i64 b.Limit, i64 b.Next, .slice b.Panes.A b.Panes.n b.Panes.c, .slice b.Wins.A b.Wins.n b.Wins.c, .slice b.Sess.A b.Sess.n b.Sess.c]] w fun e w' => e = .returned (.bool true) ∧ St w [] [] w' := by
 have nb_a_Panes := f_a.Panes_n
 have nl_a_Panes := f_a.Panes.sl.len
 have nb_a_Wins := f_a.Wins_n
 have nl_a_Wins := f_a.Wins.sl.len
 have nb_a_Sess := f_a.Sess_n
 have nl_a_Sess := f_a.Sess.sl.len
 have nb_b_Panes := f_b.Panes_n
 have nl_b_Panes := f_b.Panes.sl.len
 have nb_b_Wins := f_b.Wins_n
 have nl_b_Wins := f_b.Wins.sl.len
 have nb_b_Sess := f_b.Sess_n
 have nl_b_Sess := f_b.Sess.sl.len
 have e_W : a.W = b.W := congrArg (fun d : StateD => d.W) hab
 have e_H : a.H = b.H := congrArg (fun d : StateD => d.H) hab
 have e_Limit : a.Limit = b.Limit := congrArg (fun d : StateD => d.Limit) hab
 have e_Next : a.Next = b.Next := congrArg (fun d : StateD => d.Next) hab
 have e_Panes : a.Panes.xs.map PaneR.dat = b.Panes.xs.map PaneR.dat := congrArg (fun d : StateD => d.Panes) hab
 have e_Wins : a.Wins.xs.map WinR.dat = b.Wins.xs.map WinR.dat := congrArg (fun d : StateD => d.Wins) hab
 have e_Sess : a.Sess.xs.map SessR.dat = b.Sess.xs.map SessR.dat := congrArg (fun d : StateD => d.Sess) hab
 refine enter 43 Tryz.func15 rfl Tryz.ntmps15 rfl rfl ?_
 have hs1 := St.init w
 refine WC.sr (WL.bx hs1 rfl (fun b2 _ hs3 => WL.bx hs3 rfl (fun b4 _ hs5 => WL.r 1 hs5 [] rfl (WL.nil (WC.seq (fun K6 hK6 => WC.r1 hs5 [1, 0] rfl (WC.condF rfl (by simp [e_W, e_H, e_Limit, e_Next]) ?_)))))))
 refine WC.skip (hK6 _ _ (WC.seq (fun K8 hK8 => WC.r1 hs5 [1, 0] rfl (WC.condF rfl (by simp [e_W, e_H, e_Limit, e_Next]) (WC.skip (hK8 _ _ (WC.seq (fun K10 hK10 => ?_))))))))
 refine WC.r1 hs5 [1, 0] rfl (WC.condF rfl (by simp [e_W, e_H, e_Limit, e_Next]) (WC.skip (hK10 _ _ (WC.seq (fun K12 hK12 => WC.r1 hs5 [1, 0] rfl (WC.condF rfl (by simp [e_W, e_H, e_Limit, e_Next]) (WC.skip ?_)))))))
 refine hK12 _ _ (WC.seq (fun K14 hK14 => WC.sr (WL.r 4 hs5 [1, 0] rfl ?_)))
 refine WL.cl Tryz.call48 rfl (k134_ _ _ _ _ _ _ _ _ _ (SlN.st0 okPaneR.st0 f_a.Panes hs5) (SlN.st0 okPaneR.st0 f_b.Panes hs5) ?_ ?_) ?_
 iterate 2 first | assumption | rfl | omega
 rintro _ whs15 ⟨rfl, hs15⟩
 replace hs15 := hs5.call0 hs15
 refine ⟨_, rfl, WL.r 1 hs15 [] rfl (WL.nil (WC.condF rfl (by simp [e_W, e_H, e_Limit, e_Next]) (WC.skip (hK14 _ _ (WC.seq (fun K17 hK17 => WC.sr ?_))))))⟩
 refine WL.r 4 hs15 [1, 0] rfl (WL.cl Tryz.call49 rfl (k135_ _ _ _ _ _ _ _ _ _ (SlN.st0 okWinR.st0 f_a.Wins hs15) (SlN.st0 okWinR.st0 f_b.Wins hs15) ?_ ?_) ?_)
 iterate 2 first | assumption | rfl | omega
 rintro _ whs18 ⟨rfl, hs18⟩
 replace hs18 := hs15.call0 hs18
 refine ⟨_, rfl, WL.r 1 hs18 [] rfl (WL.nil (WC.condF rfl (by simp [e_W, e_H, e_Limit, e_Next]) (WC.skip (hK17 _ _ (WC.seq (fun K20 hK20 => WC.sr ?_))))))⟩
 refine WL.r 4 hs18 [1, 0] rfl (WL.cl Tryz.call50 rfl (k136_ _ _ _ _ _ _ _ _ _ (SlN.st0 okSessR.st0 f_a.Sess hs18) (SlN.st0 okSessR.st0 f_b.Sess hs18) ?_ ?_) ?_)
 iterate 2 first | assumption | rfl | omega
 rintro _ whs21 ⟨rfl, hs21⟩
 replace hs21 := hs18.call0 hs21
 refine ⟨_, rfl, WL.r 1 hs21 [] rfl (WL.nil (WC.condF rfl (by simp [e_W, e_H, e_Limit, e_Next]) (WC.skip (hK20 _ _ (WC.r1 hs21 [] rfl (WC.ret ?_))))))⟩
 refine rtv rfl rfl hs21 ?_
 rfl
end Go.Proofs.YthfhhldbglaieaaGreat
