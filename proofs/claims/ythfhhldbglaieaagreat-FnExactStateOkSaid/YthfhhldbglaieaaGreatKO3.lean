/-
  What the proof stands on, part 3.
-/
import Derived.Test.YthfhhldbglaieaaGreatKO2
namespace Go.Proofs.YthfhhldbglaieaaGreat
open Go Go.RowKit
set_option linter.unusedVariables false
set_option linter.unusedSimpArgs false
theorem k30_ (A_l : Option Addr) (n_l c_l : Nat) (l : List Int) (x : Int) (w : World) (f_l : SlF encI w A_l n_l l) (hn : n_l ≤ 549755813888) :
    Calls Tryz.prog 39 #[.slice A_l n_l c_l, i64 x] w fun e w' => e = .returned (.bool (hasI l x)) ∧ St w [] [] w' := by
 have hl := f_l.len
 refine enter 17 Tryz.func39 rfl Tryz.ntmps39 rfl rfl ?_
 have hs1 := St.init w
 refine WC.r1 hs1 [] rfl (WC.seq (fun K2 hK2 => WC.r1 hs1 [] rfl (WC.block ?_)))
 refine WC.lS [1, 7, 8] rfl hs1 (fun k_ f w' => ∃ (i : Nat), k_ = n_l - i ∧ (i ≤ n_l) ∧ (∀ j, j < i → iat l j ≠ x) ∧ Sub [(9, .int .i64 i)] f) ((fun (i : Nat) => n_l - i) (0)) ?_ ?_
 ·refine ⟨0, rfl, ?_, ?_, ⟨rfl, trivial⟩⟩
  · exact Nat.zero_le _
  · exact fun j hj => absurd hj (by omega)
 clear hs1
 rintro _ f w ⟨i, rfl, p0, p1, hG⟩ hF hs3
 refine WC.sub _ (hG.app hF) ?_
 clear hG hF
 refine WC.r1 hs3 [] rfl (WC.seq (fun K4 hK4 => ?_))
 refine WC.cD rfl (fun qh5 => ?_) (fun qh5 => ?_)
 ·refine WC.skip (hK4 _ _ (WC.seq (fun K6 hK6 => WC.block (WC.sr ?_))))
  refine WL.val rfl rfl rfl (Run.idxN Tryz.runUnderlying60 Tryz.sizeOf3 rfl rfl rfl ?_ ?_ ?_) ?_
  · exact SlF.some_ (SlF.st0 f_l hs3)
  · omega
  · omega
  refine WL.val rfl rfl rfl (Run.load Tryz.isAgg3 rfl rfl (SlF.one1 (SlF.st0 f_l hs3) ?_ rfl)) ?_
  · omega
  refine WL.r 1 hs3 [] rfl (WL.nil (WC.r1 hs3 [] rfl (WC.cD rfl (fun qh7 => ?_) (fun qh7 => ?_))))
  ·refine WC.r1 hs3 [] rfl (WC.ret (ibR (tkR (tkR (ibR (tkR ?_))))))
   clear hK6 hK2
   refine rtv rfl rfl hs3 ?_
   congr 1; symm; unfold hasI; rw [decide_eq_true_eq]; rw [← qh7]; exact gat_mem (F := encI) (by omega)
  refine WC.skip (hK6 _ _ (WC.region (WL.r 2 hs3 [] rfl (WL.nil (tkN ?_)))))
  refine ⟨sbF rfl, hs3, _, ?_, i + 1, rfl, ?_, ?_, ⟨rfl, trivial⟩⟩
  · omega
  · omega
  · intro j hj; rcases Nat.lt_or_ge j i with h_ | h_
    · exact p1 j h_
    · obtain rfl : j = i := by omega
      exact qh7
 refine WC.exit (hK2 _ _ (WC.r1 hs3 [] rfl (WC.ret (rtv rfl rfl hs3 ?_))))
 congr 1; symm; unfold hasI; rw [decide_eq_false_iff_not]; exact hasI_not (fun j hj => p1 j (by omega))
theorem k31_ (A_t : Option Addr) (n_t c_t : Nat) (t : List NodeD) (w : World) (f_t : SlF encNode w A_t n_t t) (hn : n_t ≤ 268435456) :
    Calls Tryz.prog 101 #[.slice A_t n_t c_t] w fun e w' => e = .returned (.bool (treeOk t)) ∧ St w [] [] w' := by
 have hl := f_t.len
 refine enter 78 Tryz.func101 rfl Tryz.ntmps101 rfl rfl ?_
 have hs1 := St.init w
 refine WC.r1 hs1 [] rfl (WC.seq (fun K2 hK2 => WC.sr (WL.r 4 hs1 [] rfl ?_)))
 apply WL.gO 5 Acts.nil hs1 rfl
 ·intro g3 J4
  have qg3 := g3
  try simp only [bf, within_iff, within_not] at qg3
  refine WL.runA tbk 1 (Acts.nil.cons (j := 3) rfl g3) hs1 [] rfl trivial (WL.call (wantF rfl g3) rfl rfl (Run.call Tryz.call161 rfl rfl rfl) (k26_ _ _ _ _ 0 _ (SlF.st0 f_t hs1) ?_ ?_) ?_)
  iterate 2 omega
  rintro _ whs5 ⟨rfl, hs5⟩
  replace hs5 := hs1.call0 hs5
  refine ⟨_, rfl, WL.runA tbk 3 (Acts.nil.cons (j := 3) rfl g3) hs5 [] rfl trivial (WL.eO 5 Acts.nil J4 hs5 g3 rfl rfl)⟩
 intro _ hs6
 refine WL.nil (WC.cq rfl (fun h7 qh7 => ?_) (fun h7 qh7 => ?_))
 ·have hbad : treeOk t = false := by cases ht : treeOk t with | false => rfl | true => have h1_ := treeOk_len ht; have h2_ := treeOk_sEnd ht; simp at qh7; omega
  refine WC.r1 hs6 [] rfl (WC.ret (tkR ?_))
  clear hK2
  refine rtv rfl rfl hs6 ?_
  rw [hbad]
 refine WC.skip (hK2 _ _ (WC.sr (WL.buildF (F := encI) hs6 ([]) Tryz.runUnderlying60 Tryz.sizeOf3 Tryz.zeroValue3 rfl rfl rfl rfl rfl rfl rfl rfl rfl rfl rfl rfl (fun A11 c12 L8 whs9 hs9 ho10 => WL.r 1 hs9 [] rfl (WL.nil (WC.seq (fun K13 hK13 => WC.r1 hs9 [] rfl ?_)))))))
 refine WC.block (WC.lO [17, 19, 20] rfl hs9 (fun k_ f L_ => ∃ (zs : List Int) (i : Nat) (A14 : Option Addr) (c15 : Nat), k_ = n_t - i ∧ (i ≤ n_t) ∧ (zs = panesL (t.take i)) ∧ ((panesL (t.take i)).Nodup) ∧ (∀ j, j < i → nodeOk (gat encNode t j) = true) ∧ OwnF encI 3 (.slice A14 (zs.length) c15) (zs) L_ ∧ Sub [(3, .slice A14 (zs.length) c15), (21, .int .i64 i)] f) (((fun (zs : List Int) (i : Nat) => n_t - i) ([]) (0))) ?_ ?_)
 ·refine ⟨[], 0, _, _, rfl, ?_, ?_, ?_, ?_, ho10, ⟨rfl, rfl, trivial⟩⟩
  · exact Nat.zero_le _
  · simp [panesL]
  · simp [panesL]
  · exact fun j hj => absurd hj (by omega)
 clear hs9
 rintro _ f w L16 ⟨zs, i, A14, c15, rfl, p0, p1, p2, p3, ho17, hG⟩ hF hs18
 refine WC.sub _ (hG.app hF) ?_
 clear hG hF
 have hzl : zs.length ≤ n_t := by rw [p1]; have := panesL_len (t.take i); rw [List.length_take] at this; omega
 refine WC.r1 hs18 [] rfl (WC.seq (fun K19 hK19 => ?_))
 refine WC.cq rfl (fun h20 qh20 => ?_) (fun h20 qh20 => ?_)
 ·refine WC.skip (hK19 _ _ (WC.seq (fun K21 hK21 => WC.block (WC.sr ?_))))
  refine WL.val rfl rfl rfl (Run.idxN Tryz.runUnderlying56 Tryz.sizeOf103 rfl rfl rfl ?_ ?_ ?_) ?_
  · exact SlF.some_ (SlF.st0 f_t hs18)
  · omega
  · omega
  refine WL.val rfl rfl rfl (Run.loadA Tryz.isAgg103 Tryz.sizeOf103 rfl rfl (SlF.whole (SlF.st0 f_t hs18) ?_)) ?_
  · omega
  refine WL.al hs18 Tryz.zeroValue103 rfl rfl (fun b22 _ hs23 => WL.st tbk hs23 0 rfl rfl (fun _ hs24 => WL.nil (WC.sr (WL.r 4 hs24 [0] rfl (WL.pA tbk 3 Acts.nil hs24 [0] rfl rfl rfl rfl (fun g_ => ⟨rfl, trivial⟩) (WL.r 1 hs24 [] rfl (WL.pA tbk 3 Acts.nil hs24 [0] rfl rfl rfl rfl (fun g_ => ⟨rfl, trivial⟩) ?_)))))))
  refine WL.r 1 hs24 [] rfl (WL.pA tbk 3 Acts.nil hs24 [0] rfl rfl rfl rfl (fun g_ => ⟨rfl, trivial⟩) (WL.r 1 hs24 [] rfl (WL.nil (WC.sr (WL.r 4 hs24 [0] rfl (WL.pA tbk 3 Acts.nil hs24 [0] rfl rfl rfl rfl (fun g_ => ⟨rfl, trivial⟩) (WL.r 1 hs24 [] rfl ?_)))))))
  refine WL.pA tbk 3 Acts.nil hs24 [0] rfl rfl rfl rfl (fun g_ => ⟨rfl, trivial⟩) (WL.r 1 hs24 [] rfl (WL.nil (WC.seq (fun K25 hK25 => WC.sr (WL.r 3 hs24 [] rfl (WL.pA tbk 2 Acts.nil hs24 [] rfl rfl rfl rfl (fun g_ => trivial) (WL.r 1 hs24 [] rfl ?_)))))))
  apply WL.gO 7 Acts.nil hs24 rfl
  ·intro g26 J27
   have qg26 := g26
   try simp only [bf, within_iff, within_not] at qg26
   refine WL.runA tbk 2 (Acts.nil.cons (j := 6) rfl g26) hs24 [] rfl trivial ?_
   apply WL.gA 4 (Acts.nil.cons (j := 6) rfl g26) hs24 rfl
   ·intro g28 J29
    have qg28 := g28
    try simp only [bf, within_iff, within_not] at qg28
    refine WL.runA tbk 3 (Acts.nil.cons (j := 8) rfl g28) hs24 [0] rfl ⟨rfl, trivial⟩ (WL.call (wantT rfl g28) rfl rfl (Run.call Tryz.call39 rfl rfl rfl) (k30_ _ _ _ _ _ _ (SlF.ofOwn ho17 (hs24.ow L16)) ?_) ?_)
    · first | assumption | rfl | omega
    rintro _ whs30 ⟨rfl, hs30⟩
    replace hs30 := hs24.call0 hs30
    refine ⟨_, rfl, WL.eA 4 (Acts.nil.cons (j := 6) rfl g26) J29 hs30 g28 rfl rfl⟩
   intro _ hs31
   exact WL.eO 3 Acts.nil J27 hs31 g26 rfl rfl
  intro _ hs32
  refine WL.nil (WC.cq rfl (fun h33 qh33 => ?_) (fun h33 qh33 => ?_))
  ·have hbad : treeOk t = false := node_bad (i := i) (by omega) (by rw [← p1]; exact h33)
   refine WC.r1 hs32 [] rfl (WC.ret (tkR (ibR (tkR (tkR (ibR (tkR ?_)))))))
   clear hK25 hK21 hK13
   refine rtv rfl rfl hs32 ?_
   rw [hbad]
  obtain ⟨hnode, hnew⟩ := node_step h33
  refine WC.skip (hK25 _ _ (WC.r1 hs32 [] rfl ?_))
  refine WC.cq rfl (fun h34 qh34 => ?_) (fun h34 qh34 => ?_)
  ·have hp := leafB_ne (n := gat encNode t i) h34
   have hnin := hnew h34
   refine WC.region (WL.r 3 hs32 [0] rfl (WL.buildSlice hs32 Tryz.runUnderlying60 Tryz.sizeOf3 Tryz.zeroValue3 rfl rfl rfl rfl rfl rfl rfl rfl rfl rfl (fun b35 whs36 hs36 => ?_)))
   refine WL.appendG (hs36.fr L16) ho17 (srcI1 Tryz.underlying60 (hs36.own _ (nthL_mem (i := 0) rfl)).1) Tryz.underlying60 inf3 rfl rfl rfl rfl rfl rfl rfl rfl rfl rfl ?_ (fun A40 c41 L37 whs38 hs38 ho39 => ?_)
   · simp; omega
   replace hs38 := St.back [_, _] hs38
   refine WL.r 1 hs38 [] rfl (WL.nil (hK21 _ _ (WC.region (WL.r 2 hs38 [] rfl (WL.nil (tkN ?_))))))
   replace hs38 := hs38.d1.d1
   refine ⟨sbF rfl, _, hs38, _, ?_, _, i + 1, _, _, rfl, ?_, ?_, ?_, ?_, ho39, ⟨rfl, rfl, trivial⟩⟩
   · omega
   · omega
   · rw [panesL_take (by omega), p1]; first | (rw [if_pos hp]) | (rw [if_neg (by simpa using hp), List.append_nil])
   · rw [panesL_take (by omega)]; first | (rw [if_pos hp]; exact nodup_snoc p2 (by rw [← p1]; exact hnin)) | (rw [if_neg (by simpa using hp), List.append_nil]; exact p2)
   · intro j hj; rcases Nat.lt_or_ge j i with h_ | h_
     · exact p3 j h_
     · obtain rfl : j = i := by omega
       exact hnode
  have hp := leafB_not (n := gat encNode t i) h34 hnode
  refine WC.skip (hK21 _ _ (WC.region (WL.r 2 hs32 [] rfl (WL.nil (tkN ?_)))))
  replace hs32 := hs32.d1
  refine ⟨sbF rfl, _, hs32, _, ?_, _, i + 1, _, _, rfl, ?_, ?_, ?_, ?_, ho17, ⟨rfl, rfl, trivial⟩⟩
  · omega
  · omega
  · rw [panesL_take (by omega), p1]; first | (rw [if_pos hp]) | (rw [if_neg (by simpa using hp), List.append_nil])
  · rw [panesL_take (by omega)]; first | (rw [if_pos hp]; exact nodup_snoc p2 (by rw [← p1]; exact hnin)) | (rw [if_neg (by simpa using hp), List.append_nil]; exact p2)
  · intro j hj; rcases Nat.lt_or_ge j i with h_ | h_
    · exact p3 j h_
    · obtain rfl : j = i := by omega
      exact hnode
 refine WC.exit (hK13 _ _ (WC.r1 hs18 [] rfl (WC.ret (rtv rfl rfl hs18 ?_))))
 rw [treeOk_mk (by omega) (by omega) (fun j hj => p3 j (by omega)) (by rwa [List.take_of_length_le (by omega)] at p2)]
theorem k32_ (A_t : Option Addr) (n_t c_t : Nat) (t : List NodeD) (w : World) (f_t : SlF encNode w A_t n_t t) (hn : n_t ≤ 268435456) :
    Calls Tryz.prog 40 #[.slice A_t n_t c_t] w fun e w' => ∃ A c L1, e = .returned (.slice A (leavesL t).length c) ∧ St w [] L1 w' ∧ OwnF encI 3 (.slice A (leavesL t).length c) (leavesL t) L1 := by
 have hl := f_t.len
 refine enter 27 Tryz.func40 rfl Tryz.ntmps40 rfl rfl ?_
 have hs1 := St.init w
 refine WC.r1 hs1 [] rfl (WC.sr (WL.buildF (F := encI) hs1 ([]) Tryz.runUnderlying60 Tryz.sizeOf3 Tryz.zeroValue3 rfl rfl rfl rfl rfl rfl rfl rfl rfl rfl rfl rfl (fun A5 c6 L2 whs3 hs3 ho4 => WL.r 1 hs3 [] rfl (WL.nil (WC.seq (fun K7 hK7 => WC.sr (WL.r 1 hs3 [] rfl ?_)))))))
 refine WL.cl Tryz.call101 rfl (k31_ _ _ _ _ _ (SlF.st0 f_t hs3) ?_) ?_
 · first | assumption | rfl | omega
 rintro _ whs8 ⟨rfl, hs8⟩
 replace hs8 := hs3.call0 hs8
 refine ⟨_, rfl, WL.r 1 hs8 [] rfl (WL.nil (WC.cq rfl (fun h9 qh9 => ?_) (fun h9 qh9 => ?_)))⟩
 ·have hok : treeOk t = false := by simpa using qh9
  refine WC.r1 hs8 [] rfl (WC.ret (tkR ?_))
  clear hK7
  refine retV1 rfl (resV.tmp rfl) ?_
  have hx_ := OwnF.eqOf (xs := leavesL t) ho4 (by simp [leavesL, hok])
  rw [← hx_]
  first | exact ⟨_, _, _, rfl, (St.keep1 hs8), ho4⟩ | exact ⟨A5, c6, _, by rw [OwnF.len_ ho4], (St.keep1 hs8), by rw [OwnF.len_ ho4]; exact ho4⟩
 have hok : treeOk t = true := by simpa using qh9
 refine WC.skip (hK7 _ _ (WC.seq (fun K10 hK10 => WC.r1 hs8 [] rfl (WC.block ?_))))
 refine WC.lO [2, 9, 11, 12] rfl hs8 (fun k_ f L_ => ∃ (zs : List Int) (i : Nat) (A11 : Option Addr) (c12 : Nat), k_ = n_t - i ∧ (i ≤ n_t) ∧ (zs = panesL (t.take i)) ∧ OwnF encI 3 (.slice A11 (zs.length) c12) (zs) L_ ∧ Sub [(3, .slice A11 (zs.length) c12), (13, .int .i64 i)] f) (((fun (zs : List Int) (i : Nat) => n_t - i) ([]) (0))) ?_ ?_
 ·refine ⟨[], 0, _, _, rfl, ?_, ?_, ho4, ⟨rfl, rfl, trivial⟩⟩
  · exact Nat.zero_le _
  · simp [panesL]
 clear hs8
 rintro _ f w L13 ⟨zs, i, A11, c12, rfl, p0, p1, ho14, hG⟩ hF hs15
 refine WC.sub _ (hG.app hF) ?_
 clear hG hF
 have hzl : zs.length ≤ n_t := by rw [p1]; have := panesL_len (t.take i); rw [List.length_take] at this; omega
 refine WC.r1 hs15 [] rfl (WC.seq (fun K16 hK16 => ?_))
 refine WC.cD rfl (fun qh17 => ?_) (fun qh17 => ?_)
 ·refine WC.skip (hK16 _ _ (WC.seq (fun K18 hK18 => WC.block (WC.sr ?_))))
  refine WL.val rfl rfl rfl (Run.idxN Tryz.runUnderlying56 Tryz.sizeOf103 rfl rfl rfl ?_ ?_ ?_) ?_
  · exact SlF.some_ (SlF.st0 f_t hs15)
  · omega
  · omega
  refine WL.val rfl rfl rfl (Run.loadA Tryz.isAgg103 Tryz.sizeOf103 rfl rfl (SlF.whole (SlF.st0 f_t hs15) ?_)) ?_
  · omega
  refine WL.al hs15 Tryz.zeroValue103 rfl rfl (fun b19 _ hs20 => WL.st tbk hs20 0 rfl rfl (fun _ hs21 => WL.nil (WC.r1 hs21 [0] rfl ?_)))
  refine WC.cD rfl (fun qh22 => ?_) (fun qh22 => ?_)
  ·have hp : (gat encNode t i).Pane ≠ 0 := by (try simp at qh22); omega
   refine WC.region (WL.r 3 hs21 [0] rfl (WL.buildSlice hs21 Tryz.runUnderlying60 Tryz.sizeOf3 Tryz.zeroValue3 rfl rfl rfl rfl rfl rfl rfl rfl rfl rfl (fun b23 whs24 hs24 => ?_)))
   refine WL.appendG (hs24.fr L13) ho14 (srcI1 Tryz.underlying60 (hs24.own _ (nthL_mem (i := 0) rfl)).1) Tryz.underlying60 inf3 rfl rfl rfl rfl rfl rfl rfl rfl rfl rfl ?_ (fun A28 c29 L25 whs26 hs26 ho27 => ?_)
   · simp; omega
   replace hs26 := St.back [_, _] hs26
   refine WL.r 1 hs26 [] rfl (WL.nil (hK18 _ _ (WC.region (WL.r 2 hs26 [] rfl (WL.nil (tkN ?_))))))
   replace hs26 := hs26.d1.d1
   refine ⟨sbF rfl, _, hs26, _, ?_, _, i + 1, _, _, rfl, ?_, ?_, ho27, ⟨rfl, rfl, trivial⟩⟩
   · omega
   · omega
   · rw [panesL_take (by omega), p1]; first | (rw [if_pos hp]) | (rw [if_neg (by simpa using hp), List.append_nil])
  have hp : (gat encNode t i).Pane = 0 := by have := nodeOk_pane (treeOk_node hok (i := i) (by omega)); simp at qh22; omega
  refine WC.skip (hK18 _ _ (WC.region (WL.r 2 hs21 [] rfl (WL.nil (tkN ?_)))))
  replace hs21 := hs21.d1
  refine ⟨sbF rfl, _, hs21, _, ?_, _, i + 1, _, _, rfl, ?_, ?_, ho14, ⟨rfl, rfl, trivial⟩⟩
  · omega
  · omega
  · rw [panesL_take (by omega), p1]; first | (rw [if_pos hp]) | (rw [if_neg (by simpa using hp), List.append_nil])
 refine WC.exit (hK10 _ _ (WC.r1 hs15 [] rfl (WC.ret (retV1 rfl (resV.tmp rfl) ?_))))
 have hx_ := OwnF.eqOf (xs := leavesL t) ho14 (by simp only [leavesL, hok, if_true]; rw [p1, List.take_of_length_le (by omega)])
 rw [← hx_]
 first | exact ⟨_, _, _, rfl, (St.keep1 hs15), ho14⟩ | exact ⟨A11, c12, _, by rw [OwnF.len_ ho14], (St.keep1 hs15), by rw [OwnF.len_ ho14]; exact ho14⟩
open Go Go.RowKit Go.Sort
theorem mapBlock_get {w : World} {b : Nat} {f : Array Value → Array Value} {k : Nat} : (mapBlock w b f).heap[k]? = if k = b then (w.heap[k]?).map (onCells f) else w.heap[k]? := by
 unfold mapBlock
 simp only [Array.getElem?_modify]
 by_cases h : b = k
 ·subst h; simp
 ·rw [if_neg h, if_neg (fun e => h e.symm)]
theorem rows_int (l : List Int) : rows encI l = l.map (Value.int .i64) := by
 induction l with
 | nil => rfl
 | cons x r ih => rw [rows_cons, ih]; rfl
theorem putCells_row {pre cl : List Value} {zs : List Int} (h : zs.length ≤ cl.length) : putCells (Value.int .i64) pre.length zs.toArray (pre ++ cl).toArray = (pre ++ (rows encI zs ++ cl.drop zs.length)).toArray := by
 apply Array.toList_inj.1
 rw [rows_int]
 apply List.ext_getElem?
 intro k
 simp only [putCells, Array.toList_mapIdx, List.getElem?_mapIdx, List.getElem?_append, List.length_map, List.getElem?_drop, List.size_toArray]
 by_cases hp : k < pre.length
 ·have h1 : ¬ (pre.length ≤ k ∧ k < pre.length + zs.length) := by omega
  simp [hp, h1, List.getElem?_eq_getElem hp]
 ·by_cases hk : k - pre.length < zs.length
  ·have hk' : k - pre.length < cl.length := by omega
   have h1 : pre.length ≤ k ∧ k < pre.length + zs.length := by omega
   simp [hp, hk, h1, List.getElem?_eq_getElem hk', List.getElem?_eq_getElem hk]
  ·have e : zs.length + (k - pre.length - zs.length) = k - pre.length := by omega
   have h1 : ¬ (pre.length ≤ k ∧ k < pre.length + zs.length) := by omega
   simp [hp, hk, h1, e]
theorem sort_own {P : Program} {g3 : TypeId} {fid : FuncId} {v : Value} {xs : List Int} {L : Hp} {w : World} {srt : List Int → List Int} (hperm : ∀ l, (srt l).length = l.length)
  (hs : ∀ (blk off cap : Nat) (zs : List Int) (w : World), Holds (Value.int .i64) w blk off zs.toArray → blk < w.heap.size → zs.length < 4611686018427387904 →
   Calls P fid #[.slice (some ⟨blk, off, none⟩) zs.length cap] w fun e w' => e = .returned (.tuple #[]) ∧ ∃ n os, w' = grow (putRow (Value.int .i64) (Sort.ahead w n) blk off (srt zs).toArray) os)
  (hn : ∀ (p : Option Addr) (cap : Nat) (w : World), Calls P fid #[.slice p 0 cap] w fun e w' => e = .returned (.tuple #[]) ∧ w' = w)
  (h : OwnF encI g3 v xs L) (hh : ∀ p, p ∈ L → w.heap[p.1]? = some p.2) (hx : xs.length ≤ 268435456) :
  Calls P fid #[v] w fun e w' => ∃ L1, e = .returned (.tuple #[]) ∧ St w (L.map (·.1)) L1 w' ∧ OwnF encI g3 v (srt xs) L1 := by
 have hkeys := h.keys
 by_cases h0 : xs.length = 0
 ·obtain ⟨A, c, rfl⟩ := h.shape
  have e : xs = [] := List.eq_nil_of_length_eq_zero h0
  have e2 : srt xs = [] := List.eq_nil_of_length_eq_zero (by rw [hperm]; exact h0)
  rw [h0]
  refine (hn A c w).mono fun e' w' ⟨he, hw⟩ => ?_
  subst hw
  refine ⟨L, he, St.take _ L hh hkeys, ?_⟩
  rw [e2]
  have := h
  rw [h0, e] at this
  exact this
 ·rcases h.2 with ⟨⟨A', hv⟩, h0', rfl⟩ | ⟨g, cap, o, pre, cl, ⟨lo, hi⟩, hv, rfl, hcap, hcm, hcl, ht, hfz, rfl⟩
  ·omega
  ·subst hv
   have hg := hh _ List.mem_cons_self
   simp only at hg
   have hsz : encI.sz = 1 := rfl
   simp only [hsz, Nat.mul_one] at hcl ht
   have hget : ∀ j (hj : j < xs.length), cl[j]? = some (Value.int .i64 xs[j]) := by
    intro j hj
    have : (cl.take xs.length)[j]? = (rows encI xs)[j]? := by rw [ht]
    rw [List.getElem?_take, if_pos hj] at this
    rw [this, rows_int]
    simp [List.getElem?_eq_getElem hj]
   have hold : Holds (Value.int .i64) w g pre.length xs.toArray := by
    intro j hj
    have hj' : j < xs.length := by simpa using hj
    refine ⟨?_, ?_⟩
    ·refine cell_of_heap hg ?_
     have e1 : (pre ++ cl)[pre.length + j]? = cl[j]? := by rw [List.getElem?_append_right (by omega), Nat.add_sub_cancel_left]
     rw [e1, hget j hj']
     simp [hj']
    ·simp only [World.frozen?, hg]
     rw [List.length_append] at hfz
     rcases hfz with h | h
     ·simp; omega
     ·simp; omega
   refine (hs g pre.length cap xs w hold (lt_of_heap hg) (by omega)).mono fun e' w' ⟨he, n, os, hw⟩ => ?_
   have hget' : ∀ k, k < w.heap.size → w'.heap[k]? = (mapBlock (Sort.ahead w n) g (putCells (Value.int .i64) pre.length (srt xs).toArray)).heap[k]? := by
    intro k hk
    rw [hw]
    show ((mapBlock (Sort.ahead w n) g (putCells (Value.int .i64) pre.length (srt xs).toArray)).heap ++ os)[k]? = _
    rw [Array.getElem?_append_left]
    unfold mapBlock
    simpa using hk
   have hsize : w.heap.size ≤ w'.heap.size := by
    rw [hw]
    show _ ≤ ((mapBlock (Sort.ahead w n) g (putCells (Value.int .i64) pre.length (srt xs).toArray)).heap ++ os).size
    unfold mapBlock
    simp [Sort.ahead]
   have hlen := hperm xs
   have hnew : w'.heap[g]? = some (.cells (pre ++ (rows encI (srt xs) ++ cl.drop (srt xs).length)).toArray g3 (lo, hi)) := by
    rw [hget' g (lt_of_heap hg), mapBlock_get, if_pos rfl]
    show (w.heap[g]?).map _ = _
    rw [hg]
    simp only [Option.map_some, onCells]
    rw [putCells_row (by omega)]
   refine ⟨[(g, .cells (pre ++ (rows encI (srt xs) ++ cl.drop (srt xs).length)).toArray g3 (lo, hi))], he, ⟨by rw [hw]; rfl, by rw [hw]; rfl, by rw [hw]; rfl, hsize, fun k hk hT => ?_, fun p hp => ?_, by simp⟩, ?_⟩
   ·rw [hget' k hk, mapBlock_get, if_neg (by intro e; apply hT; simp [e])]
    rfl
   ·simp at hp
    subst hp
    exact ⟨hnew, .inr (by simp)⟩
   ·refine ⟨by rw [rows_len], .inr ⟨g, cap, pre.length, pre, _, (lo, hi), by rw [hlen], rfl, by rw [hlen]; exact hcap, hcm, ?_, ?_, ?_, rfl⟩⟩
    ·rw [List.length_append, rows_len, List.length_drop, hlen, hsz]; omega
    ·rw [hsz, Nat.mul_one, List.take_append_of_le_length (by rw [rows_len, hsz]; omega), List.take_of_length_le (by rw [rows_len, hsz]; omega)]
    ·rcases hfz with h | h
     ·exact .inl h
     ·refine .inr ?_
      rw [List.length_append] at h ⊢
      simp only [List.length_append, rows_len, List.length_drop, hlen, hsz]; omega
open Go.Shelf
open Go.RowKit in
open Go.RowKit Go.Lib in
def Tryz.lays189_ren : Go.Shelf.Ren := ⟨fun | 189 => 166 | 125 => 210 | 257 => 209 | 128 => 258 | 129 => 259 | 294 => 249 | 295 => 250 | 296 => 251 | 297 => 252 | 298 => 253 | 299 => 254 | 216 => 255 | 300 => 256 | 301 => 257 | 328 => 281 | 329 => 282 | 330 => 283 | 331 => 284 | 332 => 285 | 215 => 286 | 343 => 300 | n => n, fun | 28 => 60 | 3 => 3 | 46 => 233 | 0 => 0 | 51 => 266 | 53 => 268 | 4 => 4 | 183 => 260 | 182 => 259 | 131 => 263 | 5 => 5 | 9 => 9 | 218 => 288 | 222 => 292 | 228 => 309 | 229 => 37 | n => n, fun | n => n⟩
theorem Tryz.lays189 : Go.Proofs.Lays.n189 Tryz.prog Tryz.lays189_ren := {
  mixed := by kernel_rfl
  f125 := Tryz.func210.trans (congrArg some (by kernel_rfl))
  f128 := Tryz.func258.trans (congrArg some (by kernel_rfl))
  f129 := Tryz.func259.trans (congrArg some (by kernel_rfl))
  f189 := Tryz.func166.trans (congrArg some (by kernel_rfl))
  f215 := Tryz.func286.trans (congrArg some (by kernel_rfl))
  f216 := Tryz.func255.trans (congrArg some (by kernel_rfl))
  f257 := Tryz.func209.trans (congrArg some (by kernel_rfl))
  f294 := Tryz.func249.trans (congrArg some (by kernel_rfl))
  f295 := Tryz.func250.trans (congrArg some (by kernel_rfl))
  f296 := Tryz.func251.trans (congrArg some (by kernel_rfl))
  f297 := Tryz.func252.trans (congrArg some (by kernel_rfl))
  f298 := Tryz.func253.trans (congrArg some (by kernel_rfl))
  f299 := Tryz.func254.trans (congrArg some (by kernel_rfl))
  f300 := Tryz.func256.trans (congrArg some (by kernel_rfl))
  f301 := Tryz.func257.trans (congrArg some (by kernel_rfl))
  f328 := Tryz.func281.trans (congrArg some (by kernel_rfl))
  f329 := Tryz.func282.trans (congrArg some (by kernel_rfl))
  f330 := Tryz.func283.trans (congrArg some (by kernel_rfl))
  f331 := Tryz.func284.trans (congrArg some (by kernel_rfl))
  f332 := Tryz.func285.trans (congrArg some (by kernel_rfl))
  f343 := Tryz.func300.trans (congrArg some (by kernel_rfl))
  t0 := Tryz.underlying0
  a0 := Tryz.isAgg0
  z0 := Tryz.sizeOf0
  v0 := Tryz.zeroValue0
  t3 := Tryz.underlying3
  a3 := Tryz.isAgg3
  z3 := Tryz.sizeOf3
  v3 := Tryz.zeroValue3
  t4 := Tryz.underlying4
  a4 := Tryz.isAgg4
  z4 := Tryz.sizeOf4
  v4 := Tryz.zeroValue4
  t5 := Tryz.underlying5
  a5 := Tryz.isAgg5
  z5 := Tryz.sizeOf5
  v5 := Tryz.zeroValue5
  t9 := Tryz.underlying9
  a9 := Tryz.isAgg9
  z9 := Tryz.sizeOf9
  v9 := Tryz.zeroValue9
  t28 := Tryz.underlying60
  a28 := Tryz.isAgg60
  z28 := Tryz.sizeOf60
  v28 := Tryz.zeroValue60
  t46 := Tryz.underlying233
  a46 := Tryz.isAgg233
  z46 := Tryz.sizeOf233
  v46 := Tryz.zeroValue233
  t51 := Tryz.underlying266
  a51 := Tryz.isAgg266
  z51 := Tryz.sizeOf266
  v51 := Tryz.zeroValue266
  t53 := Tryz.underlying268
  a53 := Tryz.isAgg268
  z53 := Tryz.sizeOf268
  v53 := Tryz.zeroValue268
  t131 := Tryz.underlying263
  a131 := Tryz.isAgg263
  z131 := Tryz.sizeOf263
  v131 := Tryz.zeroValue263
  t182 := Tryz.underlying259
  a182 := Tryz.isAgg259
  z182 := Tryz.sizeOf259
  v182 := Tryz.zeroValue259
  t183 := Tryz.underlying260
  a183 := Tryz.isAgg260
  z183 := Tryz.sizeOf260
  v183 := Tryz.zeroValue260
  t218 := Tryz.underlying288
  a218 := Tryz.isAgg288
  z218 := Tryz.sizeOf288
  v218 := Tryz.zeroValue288
  t222 := Tryz.underlying292
  a222 := Tryz.isAgg292
  z222 := Tryz.sizeOf292
  v222 := Tryz.zeroValue292
  t228 := Tryz.underlying309
  a228 := Tryz.isAgg309
  z228 := Tryz.sizeOf309
  v228 := Tryz.zeroValue309
  t229 := Tryz.underlying37
  a229 := Tryz.isAgg37
  z229 := Tryz.sizeOf37
  v229 := Tryz.zeroValue37 }
open Go.Sort Go.RowKit in
theorem Tryz.slices_Sort_int (blk off cap : Nat) (zs : List Int) (w : World) (hH : Holds (Value.int .i64) w blk off zs.toArray) (hblk : blk < w.heap.size) (hsz : zs.length < 4611686018427387904) :
    Calls Tryz.prog 166 #[.slice (some ⟨blk, off, none⟩) zs.length cap] w fun e w' =>
      e = .returned (.tuple #[]) ∧ ∃ n os, w' = grow (putRow (Value.int .i64) (Sort.ahead w n) blk off (zs.mergeSort fun x y => decide (x ≤ y)).toArray) os := Any.slices_Sort_int Tryz.lays189 blk off cap zs w hH hblk hsz
open Go.RowKit Go.Lib in
open Go.RowKit Go.Lib in
open Go.RowKit Go.Lib in
open Go.RowKit Go.Lib in
open Go.RowKit Go.Lib in
open Go.RowKit Go.Lib Go.Sort in
open Go.RowKit Go.Lib Go.Sort in
open Go.RowKit Go.Lib Go.Sort in
open Go.RowKit Go.Lib in
open Go.RowKit Go.Lib in
open Go.RowKit Go.Lib Go.Sort in
open Go.RowKit Go.Sort in
theorem Tryz.slices_Sort_int_none (p : Option Addr) (cap : Nat) (w : World) :
    Calls Tryz.prog 166 #[.slice p 0 cap] w fun e w' => e = .returned (.tuple #[]) ∧ w' = w := Any.slices_Sort_int_none Tryz.lays189 p cap w
open Go.RowKit Go.Lib in
open Go.RowKit Go.Lib in
section
theorem k33_ (v_s : Value) (s : List Int) (L_s : Hp) (w : World) (o_s : OwnF encI 3 v_s s L_s) (h_s : Hh w L_s) (hn : s.length ≤ 268435456) :
    Calls Tryz.prog 166 #[v_s] w fun e w' => ∃ L1, e = .returned (.tuple #[]) ∧ St w (L_s.map (·.1)) L1 w' ∧ OwnF encI 3 v_s (sortI s) L1 :=
  sort_own (srt := sortI) sortI_len (fun b o c zs w h1 h2 h3 => Tryz.slices_Sort_int b o c zs w h1 h2 h3) Tryz.slices_Sort_int_none o_s h_s hn
end
theorem k34_ (v_s : Value) (s : List Int) (L_s : Hp) (w : World) (o_s : OwnF encI 3 v_s s L_s) (h_s : Hh w L_s) (hn : s.length ≤ 268435456) :
    Calls Tryz.prog 167 #[v_s] w fun e w' => ∃ m A c, e = .returned (.slice A m c) ∧ St w (L_s.map (·.1)) [] w' ∧ (m = s.length ↔ adjNe s) := by
 obtain ⟨A_s, c_s, rfl⟩ := o_s.shape
 refine enter 61 Tryz.func167 rfl Tryz.ntmps167 rfl rfl ?_
 have hs1 := St.lent1 w L_s o_s h_s
 refine WC.r1 hs1 [] rfl (WC.seq (fun K2 hK2 => WC.r1 hs1 [] rfl ?_))
 refine WC.cq rfl (fun h3 qh3 => ?_) (fun h3 qh3 => ?_)
 ·refine WC.r1 hs1 [] rfl (WC.ret (tkR ?_))
  clear hK2
  refine retV1 rfl (resV.tmp rfl) (⟨_, _, _, rfl, hs1.nil, ⟨fun _ i hi => absurd hi (by omega), fun _ => rfl⟩⟩)
 refine WC.skip (hK2 _ _ (WC.seq (fun K4 hK4 => WC.r1 hs1 [] rfl (WC.block ?_))))
 refine WC.lS [0, 8] rfl hs1 (fun k_ f w' => ∃ (k : Nat), k_ = s.length - k ∧ (1 ≤ k) ∧ (k ≤ s.length) ∧ (∀ j, 1 ≤ j → j < k → iat s j ≠ iat s (j - 1)) ∧ Sub [(3, .int .i64 k)] f) ((fun (k : Nat) => s.length - k) (1)) ?_ ?_
 ·refine ⟨1, rfl, ?_, ?_, ?_, ⟨rfl, trivial⟩⟩
  · exact Nat.le_refl _
  · omega
  · exact fun j h1 h2 => absurd h1 (by omega)
 clear hs1
 rintro _ f w ⟨k, rfl, p0, p1, p2, hG⟩ hF hs5
 refine WC.sub _ (hG.app hF) ?_
 clear hG hF
 refine WC.seq (fun K6 hK6 => WC.r1 hs5 [] rfl ?_)
 refine WC.cq rfl (fun h7 qh7 => ?_) (fun h7 qh7 => ?_)
 ·refine WC.skip (hK6 _ _ (WC.seq (fun K8 hK8 => WC.block (WC.sq1 hs5 (WQ.r 2 [] rfl ?_)))))
  refine WQ.val rfl rfl rfl (fun w_ hs_ => (Run.idxN Tryz.runUnderlying60 Tryz.sizeOf3 rfl rfl rfl ?_ ?_ ?_)) ?_
  · exact SlF.some_ (SlF.ofOwn o_s ((hs_ : St _ _ _ _).ow L_s))
  · first | omega | (simp only [List.length_take, List.length_drop]; omega)
  · first | omega | (simp only [List.length_take, List.length_drop]; omega)
  refine WQ.val rfl rfl rfl (fun w_ hs_ => (Run.load Tryz.isAgg3 rfl rfl (SlF.one1 (SlF.ofOwn o_s ((hs_ : St _ _ _ _).ow L_s)) ?_ rfl))) ?_
  · first | omega | (simp only [List.length_take, List.length_drop]; omega)
  refine WQ.r 3 [] rfl ?_
  refine WQ.val rfl rfl rfl (fun w_ hs_ => (Run.idxK (k - 1) Tryz.runUnderlying60 Tryz.sizeOf3 rfl rfl rfl ?_ ?_ ?_)) ?_
  · exact SlF.some_ (SlF.ofOwn o_s ((hs_ : St _ _ _ _).ow L_s))
  · first | omega | (simp only [List.length_take, List.length_drop]; omega)
  · first | omega | (simp only [List.length_take, List.length_drop]; omega)
  refine WQ.val rfl rfl rfl (fun w_ hs_ => (Run.load Tryz.isAgg3 rfl rfl (SlF.one1 (SlF.ofOwn o_s ((hs_ : St _ _ _ _).ow L_s)) ?_ rfl))) ?_
  · first | omega | (simp only [List.length_take, List.length_drop]; omega)
  refine WQ.r 1 [] rfl (WQ.nil (fun _ (hs9 : St _ _ _ _) => ?_))
  refine WC.cq rfl (fun h10 qh10 => ?_) (fun h10 qh10 => ?_)
  ·have hdup : iat s (k - 1 + 1) = iat s (k - 1) := by rw [show k - 1 + 1 = k by omega]; exact qh10
   refine WC.sr (WL.r 2 hs9 [] rfl ?_)
   have hc_ := OwnF.cap o_s
   refine WL.val rfl rfl rfl (Run.sliceL (k) Tryz.runUnderlying60 Tryz.sizeOf3 rfl rfl rfl ?_ ?_) ?_
   · first | rfl | (omega)
   · refine ⟨?_, ?_, ?_⟩ <;> (omega)
   refine WL.r 1 hs9 [] rfl (WL.nil (WC.seq (fun K11 hK11 => WC.r1 hs9 [] rfl (WC.block ?_))))
   refine WC.lO [4, 8, 10, 11, 12, 13, 16, 17, 18, 19, 20, 21, 22, 23, 24, 25, 26, 27, 28] rfl hs9 (fun k_ f L_ => ∃ (zs : List Int) (j k2 : Nat), k_ = (s.length - k) - j ∧ (1 ≤ j) ∧ (k2 + 1 ≤ k + j) ∧ (k ≤ k2) ∧ (k + j ≤ s.length) ∧ (zs.length = s.length) ∧ OwnF encI 3 (.slice A_s (s.length) c_s) (zs) L_ ∧ Sub [(0, .slice A_s (s.length) c_s), (5, .int .i64 j), (3, .int .i64 k2)] f) (((fun (zs : List Int) (j k2 : Nat) => (s.length - k) - j) (s) (1) (k))) ?_ ?_
   ·refine ⟨s, 1, k, rfl, ?_, ?_, ?_, ?_, ?_, o_s, ⟨rfl, rfl, rfl, trivial⟩⟩
    · exact Nat.le_refl _
    · omega
    · exact Nat.le_refl _
    · omega
    · rfl
   clear hs9
   rintro _ f w L14 ⟨zs, j, k2, rfl, r0, r1, r2, r3, r4, ho15, hG⟩ hF hs16
   refine WC.sub _ (hG.app hF) ?_
   clear hG hF
   refine WC.seq (fun K17 hK17 => WC.r1 hs16 [] rfl ?_)
   refine WC.cq rfl (fun h18 qh18 => ?_) (fun h18 qh18 => ?_)
   ·refine WC.skip (hK17 _ _ (WC.seq (fun K19 hK19 => WC.block (WC.sq1 hs16 (WQ.r 2 [] rfl ?_)))))
    refine WQ.val rfl rfl rfl (fun w_ hs_ => (Run.idxN Tryz.runUnderlying60 Tryz.sizeOf3 rfl rfl rfl ?_ ?_ ?_)) ?_
    · exact SlF.some_ (SlF.cutL (k) (SlF.ofOwn ho15 ((hs_ : St _ _ _ _).ow L14)) (by refine ⟨?_, ?_, ?_⟩ <;> (omega)))
    · first | omega | (simp only [List.length_take, List.length_drop]; omega)
    · first | omega | (simp only [List.length_take, List.length_drop]; omega)
    refine WQ.val rfl rfl rfl (fun w_ hs_ => (Run.load Tryz.isAgg3 rfl rfl (SlF.one1 (SlF.cutL (k) (SlF.ofOwn ho15 ((hs_ : St _ _ _ _).ow L14)) (by refine ⟨?_, ?_, ?_⟩ <;> (omega))) ?_ rfl))) ?_
    · first | omega | (simp only [List.length_take, List.length_drop]; omega)
    refine WQ.r 3 [] rfl ?_
    refine WQ.val rfl rfl rfl (fun w_ hs_ => (Run.idxK (j - 1) Tryz.runUnderlying60 Tryz.sizeOf3 rfl rfl rfl ?_ ?_ ?_)) ?_
    · exact SlF.some_ (SlF.cutL (k) (SlF.ofOwn ho15 ((hs_ : St _ _ _ _).ow L14)) (by refine ⟨?_, ?_, ?_⟩ <;> (omega)))
    · first | omega | (simp only [List.length_take, List.length_drop]; omega)
    · first | omega | (simp only [List.length_take, List.length_drop]; omega)
    refine WQ.val rfl rfl rfl (fun w_ hs_ => (Run.load Tryz.isAgg3 rfl rfl (SlF.one1 (SlF.cutL (k) (SlF.ofOwn ho15 ((hs_ : St _ _ _ _).ow L14)) (by refine ⟨?_, ?_, ?_⟩ <;> (omega))) ?_ rfl))) ?_
    · first | omega | (simp only [List.length_take, List.length_drop]; omega)
    refine WQ.r 1 [] rfl (WQ.nil (fun _ (hs20 : St _ _ _ _) => ?_))
    refine WC.cq rfl (fun h21 qh21 => ?_) (fun h21 qh21 => ?_)
    ·refine WC.sr (WL.r 4 hs20 [] rfl (WL.val rfl rfl rfl (Run.idxN Tryz.runUnderlying60 Tryz.sizeOf3 rfl rfl rfl ?_ ?_ ?_) ?_))
     · exact SlF.some_ (SlF.cutL (k) (SlF.ofOwn ho15 (hs20.ow L14)) (by refine ⟨?_, ?_, ?_⟩ <;> (omega)))
     · first | omega | (simp only [List.length_take, List.length_drop]; omega)
     · first | omega | (simp only [List.length_take, List.length_drop]; omega)
     refine WL.val rfl rfl rfl (Run.load Tryz.isAgg3 rfl rfl (SlF.one1 (SlF.cutL (k) (SlF.ofOwn ho15 (hs20.ow L14)) (by refine ⟨?_, ?_, ?_⟩ <;> (omega))) ?_ rfl)) ?_
     · first | omega | (simp only [List.length_take, List.length_drop]; omega)
     refine WL.val rfl rfl rfl (Run.idxN Tryz.runUnderlying60 Tryz.sizeOf3 rfl rfl rfl ?_ ?_ ?_) ?_
     · exact SlF.some_ (SlF.ofOwn ho15 (hs20.ow L14))
     · first | omega | (simp only [List.length_take, List.length_drop]; omega)
     · first | omega | (simp only [List.length_take, List.length_drop]; omega)
     refine WL.storeF1 (x' := _) hs20 ho15 Tryz.sizeOf3 rfl rfl rfl rfl rfl rfl rfl rfl rfl ?_ rfl (fun L22 whs23 hs23 ho24 _ => ?_)
     · first | omega | (simp only [List.length_take, List.length_drop]; omega)
     refine WL.nil (WC.region (WL.r 3 hs23 [] rfl (WL.nil (hK19 _ _ (WC.region (WL.r 3 hs23 [] rfl (WL.nil ?_)))))))
     refine tkN (⟨sbF rfl, _, hs23, _, ?_, _, (j + 1), (k2 + 1), rfl, ?_, ?_, ?_, ?_, ?_, ho24, ⟨rfl, rfl, rfl, trivial⟩⟩)
     · omega
     · omega
     · omega
     · omega
     · omega
     · first | omega | (rw [List.length_set]; omega)
    refine WC.skip (hK19 _ _ (WC.region (WL.r 3 hs20 [] rfl (WL.nil (tkN ?_)))))
    refine ⟨sbF rfl, _, hs20, _, ?_, _, (j + 1), k2, rfl, ?_, ?_, ?_, ?_, ?_, ho15, ⟨rfl, rfl, rfl, trivial⟩⟩
    · omega
    · omega
    · omega
    · omega
    · omega
    · first | omega | (rw [List.length_set]; omega)
   refine WC.exit (hK11 _ _ (WC.sr (WL.r 2 hs16 [] rfl ?_)))
   have hc_ := OwnF.cap ho15
   refine WL.val rfl rfl rfl (Run.sliceL (k2) Tryz.runUnderlying60 Tryz.sizeOf3 rfl rfl rfl ?_ ?_) ?_
   · first | rfl | (omega)
   · refine ⟨?_, ?_, ?_⟩ <;> (omega)
   refine WL.clearF (lo := k2) hs16 ho15 Tryz.underlying60 Tryz.zeroValue3 rfl rfl rfl rfl rfl ?_ (fun L25 whs26 hs26 ho27 _ => ?_)
   · omega
   refine WL.nil (WC.sr (WL.r 2 hs26 [] rfl ?_))
   have ho28 := OwnF.take (k := k2) ho27 (by omega)
   have hcho28 := OwnF.cap ho28
   refine WL.val rfl rfl rfl (Run.sliceH0 (k2) Tryz.runUnderlying60 Tryz.sizeOf3 rfl rfl rfl ?_ ?_) ?_
   · first | rfl | (omega)
   · first | (exact Nat.zero_le _) | (omega)
   refine WL.r 1 hs26 [] rfl (WL.nil (WC.ret (ibR (tkR (tkR (ibR (tkR ?_)))))))
   clear hK8 hK4
   refine retV1 rfl (resV.tmp rfl) (⟨_, _, _, rfl, hs26.nil, ⟨fun h => absurd h (by omega), fun h => absurd hdup (h (k - 1) (by omega))⟩⟩)
  refine WC.skip (hK8 _ _ (WC.region (WL.r 3 hs9 [] rfl (WL.nil (tkN ?_)))))
  refine ⟨sbF rfl, hs9, _, ?_, k + 1, rfl, ?_, ?_, ?_, ⟨rfl, trivial⟩⟩
  · omega
  · omega
  · omega
  · intro j h1 h2; rcases Nat.lt_or_ge j k with h_ | h_
    · exact p2 j h1 h_
    · obtain rfl : j = k := by omega
      exact qh10
 refine WC.exit (hK4 _ _ (WC.r1 hs5 [] rfl (WC.ret (retV1 rfl (resV.tmp rfl) (⟨_, _, _, rfl, hs5.nil, ⟨fun _ i hi => p2 (i + 1) (by omega) (by omega), fun _ => rfl⟩⟩)))))
theorem k35_ (A_t : Option Addr) (n_t c_t : Nat) (t : List NodeD) (w : World) (f_t : SlF encNode w A_t n_t t) (hn : n_t ≤ 268435456) :
    Calls Tryz.prog 106 #[.slice A_t n_t c_t] w fun e w' => e = .returned (.bool (treeOk t)) ∧ St w [] [] w' := by
 have hl := f_t.len
 have hpl := panesL_len t
 have hsl := sortI_len (panesL t)
 refine enter 25 Tryz.func106 rfl Tryz.ntmps106 rfl rfl ?_
 have hs1 := St.init w
 refine WC.r1 hs1 [] rfl (WC.seq (fun K2 hK2 => WC.sr (WL.r 4 hs1 [] rfl ?_)))
 apply WL.gO 5 Acts.nil hs1 rfl
 ·intro g3 J4
  have qg3 := g3
  try simp only [bf, within_iff, within_not] at qg3
  refine WL.runA tbk 1 (Acts.nil.cons (j := 3) rfl g3) hs1 [] rfl trivial (WL.call (wantF rfl g3) rfl rfl (Run.call Tryz.call165 rfl rfl rfl) (k24_ _ _ _ _ _ _ (SlF.st0 f_t hs1) ?_) ?_)
  · first | assumption | rfl | omega
  rintro _ whs5 ⟨rfl, hs5⟩
  replace hs5 := hs1.call0 hs5
  refine ⟨_, rfl, WL.runA tbk 3 (Acts.nil.cons (j := 3) rfl g3) hs5 [] rfl trivial (WL.eO 5 Acts.nil J4 hs5 g3 rfl rfl)⟩
 intro _ hs6
 refine WL.nil (WC.cq rfl (fun h7 qh7 => ?_) (fun h7 qh7 => ?_))
 ·have hbad : treeOk t = false := by
    rw [← Bool.not_eq_true]; intro h_; simp only [treeOk, Bool.and_eq_true, decide_eq_true_eq] at h_; simp at qh7; omega
  refine WC.r1 hs6 [] rfl (WC.ret (tkR ?_))
  clear hK2
  refine retV1 rfl (resV.tmp rfl) (⟨congrArg Ending.returned (by rw [hbad]), hs6.nil⟩)
 have hA : t.length ≤ 31 := by simp at qh7; omega
 have hB : endI t 0 = (t.length : Int) := by simp at qh7; omega
 refine WC.skip (hK2 _ _ (WC.sr (WL.r 1 hs6 [] rfl ?_)))
 refine WL.cl Tryz.call107 rfl (k25_ _ _ _ _ _ (SlF.st0 f_t hs6) ?_) ?_
 · first | assumption | rfl | omega
 rintro _ whs8 ⟨A9, c10, L1_11, rfl, hs8, ho12⟩
 replace hs8 := hs6.callF hs8
 refine ⟨_, rfl, WL.r 1 hs8 [] rfl (WL.nil (WC.sr (WL.r 1 hs8 [] rfl (WL.cl Tryz.call166 rfl (k33_ _ _ _ _ ho12 (hs8.ow L1_11) ?_) ?_))))⟩
 · omega
 rintro _ whs13 ⟨L1_14, rfl, hs13, ho15⟩
 replace hs13 := St.lend hs8 hs13
 refine ⟨_, rfl, WL.nil (WC.sr (WL.r 1 hs13 [] rfl (WL.cl Tryz.call149 rfl (k27_ _ _ _ _ _ (SlF.ofOwn ho15 (hs13.ow L1_14)) ?_) ?_)))⟩
 · first | assumption | rfl | omega
 rintro _ whs16 ⟨A17, c18, L1_19, rfl, hs16, ho20⟩
 replace hs16 := hs13.callF hs16
 refine ⟨_, rfl, WL.cl Tryz.call167 rfl (k34_ _ _ _ _ ho20 (hs16.ow L1_19) ?_) ?_⟩
 · first | assumption | rfl | omega
 rintro _ whs21 ⟨m22, A23, c24, rfl, hs21, hm25⟩
 replace hs21 := St.lend hs16 hs21
 refine ⟨_, rfl, ?_⟩
 rw [List.nil_append] at hs21
 refine WL.r 5 hs21 [] rfl (WL.nil (WC.ret (retV1 rfl (resV.tmp rfl) (⟨congrArg Ending.returned (congrArg Value.bool ?_), hs21.nil⟩))))
 have hm_ := hm25
 rw [sortI_adj, sortI_len] at hm_
 rw [Bool.eq_iff_iff, decide_eq_true_eq]
 simp only [treeOk, hA, hB, decide_true, Bool.true_and, decide_eq_true_eq]
 rw [← hm_]
 try omega
theorem k36_ (A_t : Option Addr) (n_t c_t : Nat) (t : List NodeD) (w : World) (f_t : SlF encNode w A_t n_t t) (hn : n_t ≤ 268435456) :
    Calls Tryz.prog 47 #[.slice A_t n_t c_t] w fun e w' => ∃ A c L1, e = .returned (.slice A (leavesL t).length c) ∧ St w [] L1 w' ∧ OwnF encI 3 (.slice A (leavesL t).length c) (leavesL t) L1 := by
 refine enter 8 Tryz.func47 rfl Tryz.ntmps47 rfl rfl ?_
 have hs1 := St.init w
 refine WC.r1 hs1 [] rfl (WC.seq (fun K2 hK2 => WC.sr (WL.r 1 hs1 [] rfl ?_)))
 refine WL.cl Tryz.call106 rfl (k35_ _ _ _ _ _ (SlF.st0 f_t hs1) ?_) ?_
 · first | assumption | rfl | omega
 rintro _ whs3 ⟨rfl, hs3⟩
 replace hs3 := hs1.call0 hs3
 refine ⟨_, rfl, WL.r 1 hs3 [] rfl (WL.nil (WC.cq rfl (fun h4 qh4 => ?_) (fun h4 qh4 => ?_)))⟩
 ·have hok : treeOk t = false := by simpa using qh4
  refine WC.r1 hs3 [] rfl (WC.ret (tkR ?_))
  clear hK2
  refine retV1 rfl (resV.tmp rfl) ?_
  have hx_ := OwnF.eqOf (xs := leavesL t) (OwnF.nil encI 3) (by simp [leavesL, hok])
  rw [← hx_]
  exact ⟨_, _, _, rfl, hs3.nil, (OwnF.nil encI 3)⟩
 have hok : treeOk t = true := by simpa using qh4
 refine WC.skip (hK2 _ _ (WC.sr (WL.r 1 hs3 [] rfl ?_)))
 refine WL.cl Tryz.call107 rfl (k25_ _ _ _ _ _ (SlF.st0 f_t hs3) ?_) ?_
 · first | assumption | rfl | omega
 rintro _ whs5 ⟨A6, c7, L1_8, rfl, hs5, ho9⟩
 replace hs5 := hs3.callF hs5
 refine ⟨_, rfl, WL.r 1 hs5 [] rfl (WL.nil (WC.ret (retV1 rfl (resV.tmp rfl) ?_)))⟩
 have hx_ := OwnF.eqOf (xs := leavesL t) ho9 (by simp [leavesL, hok])
 rw [← hx_]
 first | exact ⟨_, _, _, rfl, (St.keep1 hs5), ho9⟩ | exact ⟨A6, c7, _, by rw [OwnF.len_ ho9], (St.keep1 hs5), by rw [OwnF.len_ ho9]; exact ho9⟩
structure GridR where
  W : Int
  H : Int
  Cells : SlD CellD
def encGridR : Enc GridR := ⟨3, fun d => [i64 d.W, i64 d.H, .slice d.Cells.A d.Cells.n d.Cells.c], ⟨0, 0, ⟨none, 0, 0, []⟩⟩, fun _ => rfl, fun x v h => by simp at h; rcases h with rfl | rfl | rfl <;> rfl, by decide⟩
structure okGridR (B : Nat) (w : World) (x : GridR) : Prop where
  Cells : SlF encCell w x.Cells.A x.Cells.n x.Cells.xs
  Cells_c : x.Cells.n ≤ x.Cells.c
  Cells_n : x.Cells.n ≤ B
structure sepGridR (T : List Nat) (x : GridR) : Prop where
  Cells : 0 < x.Cells.n → (adr x.Cells.A).block ∉ T
theorem okGridR.st0 {B : Nat} {w0 w : World} {L : Hp} {x : GridR} (h : okGridR B w0 x) (hs : St w0 [] L w) : okGridR B w x := ⟨SlF.st0 h.Cells hs, h.Cells_c, h.Cells_n⟩
theorem okGridR.st {B : Nat} {w0 w : World} {T : List Nat} {L : Hp} {x : GridR} (h : okGridR B w0 x) (hs : St w0 T L w) (hp : sepGridR T x) : okGridR B w x := ⟨SlF.st h.Cells hs hp.Cells, h.Cells_c, h.Cells_n⟩
theorem okGridR.le {B B' : Nat} {w : World} {x : GridR} (h : okGridR B w x) (hB : B ≤ B') : okGridR B' w x := ⟨h.Cells, h.Cells_c, Nat.le_trans h.Cells_n hB⟩
def GridR.dat (x : GridR) : GridD := ⟨x.W, x.H, x.Cells.xs⟩
def smGrid (B : Nat) (d : GridD) : Prop := (d.Cells.length ≤ B)
theorem okGridR.to {B B' : Nat} {w : World} {x : GridR} (h : okGridR B w x) (h2 : smGrid B' x.dat) : okGridR B' w x := ⟨h.Cells, h.Cells_c, (by have := h.Cells.len; have h3 := h2; simp only [smGrid, GridR.dat] at h3; omega)⟩
def totGrid (d : GridD) : Nat := d.Cells.length
theorem totGrid_sm {B : Nat} {d : GridD} (h : totGrid d ≤ B) : smGrid B d := by
  simp only [totGrid] at h
  unfold smGrid
  exact (by omega)
def ownGridR (x : GridR) (L : Hp) : Prop := OwnF encCell 164 (.slice x.Cells.A x.Cells.n x.Cells.c) x.Cells.xs L
theorem ownGridR.len {x : GridR} {L : Hp} (h : ownGridR x L) : x.Cells.xs.length = x.Cells.n := by
  exact (OwnF.len_ h)
theorem ownGridR.ok {B : Nat} {w : World} {x : GridR} {L : Hp} (h : ownGridR x L) (hh : ∀ p, p ∈ L → w.heap[p.1]? = some p.2) (h2 : smGrid B x.dat) : okGridR B w x := by
  exact ⟨SlF.ofOwn h (fun p hp => hh p hp), OwnF.cap h, (by have := OwnF.len_ h; have h3 := h2; simp only [GridR.dat, smGrid] at h3; omega)⟩
structure VpR where
  State : Int
  Mark : Bool
  Args : SlD Int
  Part : SlD UInt8
def encVpR : Enc VpR := ⟨4, fun d => [i64 d.State, .bool d.Mark, .slice d.Args.A d.Args.n d.Args.c, .slice d.Part.A d.Part.n d.Part.c], ⟨0, false, ⟨none, 0, 0, []⟩, ⟨none, 0, 0, []⟩⟩, fun _ => rfl, fun x v h => by simp at h; rcases h with rfl | rfl | rfl | rfl <;> rfl, by decide⟩
structure okVpR (B : Nat) (w : World) (x : VpR) : Prop where
  Args : SlF encI w x.Args.A x.Args.n x.Args.xs
  Args_c : x.Args.n ≤ x.Args.c
  Args_n : x.Args.n ≤ B
  Part : SlF encB w x.Part.A x.Part.n x.Part.xs
  Part_c : x.Part.n ≤ x.Part.c
  Part_n : x.Part.n ≤ B
structure sepVpR (T : List Nat) (x : VpR) : Prop where
  Args : 0 < x.Args.n → (adr x.Args.A).block ∉ T
  Part : 0 < x.Part.n → (adr x.Part.A).block ∉ T
theorem okVpR.st0 {B : Nat} {w0 w : World} {L : Hp} {x : VpR} (h : okVpR B w0 x) (hs : St w0 [] L w) : okVpR B w x := ⟨SlF.st0 h.Args hs, h.Args_c, h.Args_n, SlF.st0 h.Part hs, h.Part_c, h.Part_n⟩
theorem okVpR.st {B : Nat} {w0 w : World} {T : List Nat} {L : Hp} {x : VpR} (h : okVpR B w0 x) (hs : St w0 T L w) (hp : sepVpR T x) : okVpR B w x := ⟨SlF.st h.Args hs hp.Args, h.Args_c, h.Args_n, SlF.st h.Part hs hp.Part, h.Part_c, h.Part_n⟩
theorem okVpR.le {B B' : Nat} {w : World} {x : VpR} (h : okVpR B w x) (hB : B ≤ B') : okVpR B' w x := ⟨h.Args, h.Args_c, Nat.le_trans h.Args_n hB, h.Part, h.Part_c, Nat.le_trans h.Part_n hB⟩
def VpR.dat (x : VpR) : VpD := ⟨x.State, x.Mark, x.Args.xs, x.Part.xs⟩
def smVp (B : Nat) (d : VpD) : Prop := (d.Args.length ≤ B) ∧ (d.Part.length ≤ B)
theorem okVpR.to {B B' : Nat} {w : World} {x : VpR} (h : okVpR B w x) (h2 : smVp B' x.dat) : okVpR B' w x := ⟨h.Args, h.Args_c, (by have := h.Args.len; have h3 := h2.1; simp only [smVp, VpR.dat] at h3; omega), h.Part, h.Part_c, (by have := h.Part.len; have h3 := h2.2; simp only [smVp, VpR.dat] at h3; omega)⟩
def totVp (d : VpD) : Nat := d.Args.length + d.Part.length
theorem totVp_sm {B : Nat} {d : VpD} (h : totVp d ≤ B) : smVp B d := by
  simp only [totVp] at h
  unfold smVp
  exact ⟨(by omega), (by omega)⟩
def ownVpR (x : VpR) (L : Hp) : Prop := ∃ L1 L2, L = L1 ++ L2 ∧ OwnF encI 3 (.slice x.Args.A x.Args.n x.Args.c) x.Args.xs L1 ∧ OwnF encB 5 (.slice x.Part.A x.Part.n x.Part.c) x.Part.xs L2
theorem ownVpR.fold {w0 w : World} {T : List Nat} {L1 L2 R : Hp} (x : VpR) (hs : St w0 T (L1 ++ (L2 ++ R)) w) (o1 : OwnF encI 3 (.slice x.Args.A x.Args.n x.Args.c) x.Args.xs L1) (o2 : OwnF encB 5 (.slice x.Part.A x.Part.n x.Part.c) x.Part.xs L2) : ∃ L, St w0 T (L ++ R) w ∧ ownVpR x L := ⟨L1 ++ L2, by simpa only [List.append_assoc] using hs, L1, L2, rfl, o1, o2⟩
theorem ownVpR.fl {w0 w : World} {T : List Nat} {L1 L2 L S1 S2 : Hp} [k1 : Fr1 L1 L S1] [k2 : Fr1 L2 S1 S2] {A1 : Option Addr} {n1 c1 : Nat} {x1 : _} {A2 : Option Addr} {n2 c2 : Nat} {x2 : _} (hs : St w0 T L w) (o1 : OwnF encI 3 (.slice A1 n1 c1) x1 L1) (o2 : OwnF encB 5 (.slice A2 n2 c2) x2 L2) : ∃ L', St w0 T (L' ++ S2) w ∧ ownVpR ⟨0, false, ⟨A1, n1, c1, x1⟩, ⟨A2, n2, c2, x2⟩⟩ L' := ⟨L1 ++ L2, by simpa only [List.append_assoc] using hs.perm ((List.Perm.append_left L1 k2.pf).trans k1.pf), L1, L2, rfl, o1, o2⟩
theorem ownVpR.op {w0 w : World} {T : List Nat} {L LL R : Hp} {x : VpR} [k : Fr1 LL L R] (hs : St w0 T L w) (h : ownVpR x LL) : ∃ L1 L2, St w0 T (L1 ++ (L2 ++ R)) w ∧ OwnF encI 3 (.slice x.Args.A x.Args.n x.Args.c) x.Args.xs L1 ∧ OwnF encB 5 (.slice x.Part.A x.Part.n x.Part.c) x.Part.xs L2 := by
  have hs := hs.fr LL
  obtain ⟨L1, L2, rfl, h⟩ := h
  exact ⟨L1, L2, by simpa only [List.append_assoc] using hs, h⟩
theorem ownVpR.ret {w w' : World} {K : List Nat} {L1 : Hp} {e : Ending} {D : VpD} {v0 : Int} {v1 : Bool} {A1 : Option Addr} {n1 c1 : Nat} {x1 : _} {A2 : Option Addr} {n2 c2 : Nat} {x2 : _} (he : e = .returned (.agg (List.toArray [i64 v0, .bool v1, .slice A1 n1 c1, .slice A2 n2 c2]))) (hs : St w K L1 w') (ho : ownVpR ⟨0, false, ⟨A1, n1, c1, x1⟩, ⟨A2, n2, c2, x2⟩⟩ L1) (hd : (⟨v0, v1, ⟨A1, n1, c1, x1⟩, ⟨A2, n2, c2, x2⟩⟩ : VpR).dat = D) : ∃ r L1, e = .returned (.agg #[i64 r.State, .bool r.Mark, .slice r.Args.A r.Args.n r.Args.c, .slice r.Part.A r.Part.n r.Part.c]) ∧ St w K L1 w' ∧ ownVpR r L1 ∧ r.dat = D := ⟨⟨v0, v1, ⟨A1, n1, c1, x1⟩, ⟨A2, n2, c2, x2⟩⟩, L1, he, hs, ho, hd⟩
theorem ownVpR.open_ {w0 w : World} {T : List Nat} {L R : Hp} {x : VpR} (hs : St w0 T (L ++ R) w) (h : ownVpR x L) : ∃ L1 L2, St w0 T (L1 ++ (L2 ++ R)) w ∧ OwnF encI 3 (.slice x.Args.A x.Args.n x.Args.c) x.Args.xs L1 ∧ OwnF encB 5 (.slice x.Part.A x.Part.n x.Part.c) x.Part.xs L2 := by
  obtain ⟨L1, L2, rfl, h⟩ := h
  exact ⟨L1, L2, by simpa only [List.append_assoc] using hs, h⟩
theorem ownVpR.len {x : VpR} {L : Hp} (h : ownVpR x L) : x.Args.xs.length = x.Args.n ∧ x.Part.xs.length = x.Part.n := by
  obtain ⟨L1, L2, rfl, o1, o2⟩ := h
  exact ⟨(OwnF.len_ o1), (OwnF.len_ o2)⟩
theorem ownVpR.ok {B : Nat} {w : World} {x : VpR} {L : Hp} (h : ownVpR x L) (hh : ∀ p, p ∈ L → w.heap[p.1]? = some p.2) (h2 : smVp B x.dat) : okVpR B w x := by
  obtain ⟨L1, L2, rfl, o1, o2⟩ := h
  simp only [List.mem_append] at hh
  exact ⟨SlF.ofOwn o1 (fun p hp => hh p (.inl hp)), OwnF.cap o1, (by have := OwnF.len_ o1; have h3 := h2.1; simp only [VpR.dat, smVp] at h3; omega), SlF.ofOwn o2 (fun p hp => hh p (.inr (hp))), OwnF.cap o2, (by have := OwnF.len_ o2; have h3 := h2.2; simp only [VpR.dat, smVp] at h3; omega)⟩
structure RowR where
  Cells : SlD CellD
def encRowR : Enc RowR := ⟨1, fun d => [.slice d.Cells.A d.Cells.n d.Cells.c], ⟨⟨none, 0, 0, []⟩⟩, fun _ => rfl, fun x v h => by simp at h; rcases h with rfl <;> rfl, by decide⟩
structure okRowR (B : Nat) (w : World) (x : RowR) : Prop where
  Cells : SlF encCell w x.Cells.A x.Cells.n x.Cells.xs
  Cells_c : x.Cells.n ≤ x.Cells.c
  Cells_n : x.Cells.n ≤ B
structure sepRowR (T : List Nat) (x : RowR) : Prop where
  Cells : 0 < x.Cells.n → (adr x.Cells.A).block ∉ T
theorem okRowR.st0 {B : Nat} {w0 w : World} {L : Hp} {x : RowR} (h : okRowR B w0 x) (hs : St w0 [] L w) : okRowR B w x := ⟨SlF.st0 h.Cells hs, h.Cells_c, h.Cells_n⟩
theorem okRowR.st {B : Nat} {w0 w : World} {T : List Nat} {L : Hp} {x : RowR} (h : okRowR B w0 x) (hs : St w0 T L w) (hp : sepRowR T x) : okRowR B w x := ⟨SlF.st h.Cells hs hp.Cells, h.Cells_c, h.Cells_n⟩
theorem okRowR.le {B B' : Nat} {w : World} {x : RowR} (h : okRowR B w x) (hB : B ≤ B') : okRowR B' w x := ⟨h.Cells, h.Cells_c, Nat.le_trans h.Cells_n hB⟩
def RowR.dat (x : RowR) : RowD := ⟨x.Cells.xs⟩
def smRow (B : Nat) (d : RowD) : Prop := (d.Cells.length ≤ B)
theorem okRowR.to {B B' : Nat} {w : World} {x : RowR} (h : okRowR B w x) (h2 : smRow B' x.dat) : okRowR B' w x := ⟨h.Cells, h.Cells_c, (by have := h.Cells.len; have h3 := h2; simp only [smRow, RowR.dat] at h3; omega)⟩
def totRow (d : RowD) : Nat := d.Cells.length
theorem totRow_sm {B : Nat} {d : RowD} (h : totRow d ≤ B) : smRow B d := by
  simp only [totRow] at h
  unfold smRow
  exact (by omega)
def ownRowR (x : RowR) (L : Hp) : Prop := OwnF encCell 164 (.slice x.Cells.A x.Cells.n x.Cells.c) x.Cells.xs L
theorem ownRowR.len {x : RowR} {L : Hp} (h : ownRowR x L) : x.Cells.xs.length = x.Cells.n := by
  exact (OwnF.len_ h)
theorem ownRowR.ok {B : Nat} {w : World} {x : RowR} {L : Hp} (h : ownRowR x L) (hh : ∀ p, p ∈ L → w.heap[p.1]? = some p.2) (h2 : smRow B x.dat) : okRowR B w x := by
  exact ⟨SlF.ofOwn h (fun p hp => hh p hp), OwnF.cap h, (by have := OwnF.len_ h; have h3 := h2; simp only [RowR.dat, smRow] at h3; omega)⟩
def cntERow (x : RowR) : Int := 0 + 6 * (x.Cells.xs.length : Int)
structure ScrR where
  W : Int
  H : Int
  Main : GridR
  Alt : GridR
  OnAlt : Bool
  X : Int
  Y : Int
  Wrap : Bool
  A : AttrD
  Top : Int
  Bot : Int
  NoWrap : Bool
  Hide : Bool
  SaveX : Int
  SaveY : Int
  SaveA : AttrD
  Tabs : SlD Int
  Limit : Int
  Back : SlD RowR
def encScrR : Enc ScrR := ⟨31, fun d => [i64 d.W, i64 d.H, i64 d.Main.W, i64 d.Main.H, .slice d.Main.Cells.A d.Main.Cells.n d.Main.Cells.c, i64 d.Alt.W, i64 d.Alt.H, .slice d.Alt.Cells.A d.Alt.Cells.n d.Alt.Cells.c, .bool d.OnAlt, i64 d.X, i64 d.Y, .bool d.Wrap, i64 d.A.Fg, i64 d.A.Bg, .bool d.A.Bold, .bool d.A.Under, .bool d.A.Turn, i64 d.Top, i64 d.Bot, .bool d.NoWrap, .bool d.Hide, i64 d.SaveX, i64 d.SaveY, i64 d.SaveA.Fg, i64 d.SaveA.Bg, .bool d.SaveA.Bold, .bool d.SaveA.Under, .bool d.SaveA.Turn, .slice d.Tabs.A d.Tabs.n d.Tabs.c, i64 d.Limit, .slice d.Back.A d.Back.n d.Back.c], ⟨0, 0, ⟨0, 0, ⟨none, 0, 0, []⟩⟩, ⟨0, 0, ⟨none, 0, 0, []⟩⟩, false, 0, 0, false, ⟨0, 0, false, false, false⟩, 0, 0, false, false, 0, 0, ⟨0, 0, false, false, false⟩, ⟨none, 0, 0, []⟩, 0, ⟨none, 0, 0, []⟩⟩, fun _ => rfl, fun x v h => by simp at h; rcases h with rfl | rfl | rfl | rfl | rfl | rfl | rfl | rfl | rfl | rfl | rfl | rfl | rfl | rfl | rfl | rfl | rfl | rfl | rfl | rfl | rfl | rfl | rfl | rfl | rfl | rfl | rfl | rfl | rfl | rfl | rfl <;> rfl, by decide⟩
abbrev cScr (d : ScrR) : List Value := [i64 d.W, i64 d.H, i64 d.Main.W, i64 d.Main.H, .slice d.Main.Cells.A d.Main.Cells.n d.Main.Cells.c, i64 d.Alt.W, i64 d.Alt.H, .slice d.Alt.Cells.A d.Alt.Cells.n d.Alt.Cells.c, .bool d.OnAlt, i64 d.X, i64 d.Y, .bool d.Wrap, i64 d.A.Fg, i64 d.A.Bg, .bool d.A.Bold, .bool d.A.Under, .bool d.A.Turn, i64 d.Top, i64 d.Bot, .bool d.NoWrap, .bool d.Hide, i64 d.SaveX, i64 d.SaveY, i64 d.SaveA.Fg, i64 d.SaveA.Bg, .bool d.SaveA.Bold, .bool d.SaveA.Under, .bool d.SaveA.Turn, .slice d.Tabs.A d.Tabs.n d.Tabs.c, i64 d.Limit, .slice d.Back.A d.Back.n d.Back.c]
abbrev oS (u_0 u_1 u_2 u_3 : Value) (d : ScrR) : Obj := Obj.cells (List.toArray (u_0 :: u_1 :: u_2 :: u_3 :: cScr d)) 35 (0, 0)
structure okScrR (B : Nat) (w : World) (x : ScrR) : Prop where
  Main : okGridR B w x.Main
  Alt : okGridR B w x.Alt
  Tabs : SlF encI w x.Tabs.A x.Tabs.n x.Tabs.xs
  Tabs_c : x.Tabs.n ≤ x.Tabs.c
  Tabs_n : x.Tabs.n ≤ B
  Back : SlN encRowR (okRowR B) w x.Back.A x.Back.n x.Back.xs
  Back_c : x.Back.n ≤ x.Back.c
  Back_n : x.Back.n ≤ B
structure sepScrR (T : List Nat) (x : ScrR) : Prop where
  Main : sepGridR T x.Main
  Alt : sepGridR T x.Alt
  Tabs : 0 < x.Tabs.n → (adr x.Tabs.A).block ∉ T
  Back : 0 < x.Back.n → (adr x.Back.A).block ∉ T
  Back_a : ∀ y, y ∈ x.Back.xs → sepRowR T y
theorem okScrR.st0 {B : Nat} {w0 w : World} {L : Hp} {x : ScrR} (h : okScrR B w0 x) (hs : St w0 [] L w) : okScrR B w x := ⟨okGridR.st0 h.Main hs, okGridR.st0 h.Alt hs, SlF.st0 h.Tabs hs, h.Tabs_c, h.Tabs_n, ⟨SlF.st0 h.Back.sl hs, fun y hy => okRowR.st0 (h.Back.all y hy) hs⟩, h.Back_c, h.Back_n⟩
theorem okScrR.st {B : Nat} {w0 w : World} {T : List Nat} {L : Hp} {x : ScrR} (h : okScrR B w0 x) (hs : St w0 T L w) (hp : sepScrR T x) : okScrR B w x := ⟨okGridR.st h.Main hs hp.Main, okGridR.st h.Alt hs hp.Alt, SlF.st h.Tabs hs hp.Tabs, h.Tabs_c, h.Tabs_n, ⟨SlF.st h.Back.sl hs hp.Back, fun y hy => okRowR.st (h.Back.all y hy) hs (hp.Back_a y hy)⟩, h.Back_c, h.Back_n⟩
theorem okScrR.le {B B' : Nat} {w : World} {x : ScrR} (h : okScrR B w x) (hB : B ≤ B') : okScrR B' w x := ⟨okGridR.le h.Main hB, okGridR.le h.Alt hB, h.Tabs, h.Tabs_c, Nat.le_trans h.Tabs_n hB, ⟨h.Back.sl, fun y hy => okRowR.le (h.Back.all y hy) hB⟩, h.Back_c, Nat.le_trans h.Back_n hB⟩
def ScrR.dat (x : ScrR) : ScrD := ⟨x.W, x.H, x.Main.dat, x.Alt.dat, x.OnAlt, x.X, x.Y, x.Wrap, x.A, x.Top, x.Bot, x.NoWrap, x.Hide, x.SaveX, x.SaveY, x.SaveA, x.Tabs.xs, x.Limit, x.Back.xs.map RowR.dat⟩
def smScr (B : Nat) (d : ScrD) : Prop := (smGrid B d.Main) ∧ (smGrid B d.Alt) ∧ (d.Tabs.length ≤ B) ∧ (d.Back.length ≤ B) ∧ (∀ y, y ∈ d.Back → smRow B y)
theorem okScrR.to {B B' : Nat} {w : World} {x : ScrR} (h : okScrR B w x) (h2 : smScr B' x.dat) : okScrR B' w x := ⟨h.Main.to h2.1, h.Alt.to h2.2.1, h.Tabs, h.Tabs_c, (by have := h.Tabs.len; have h3 := h2.2.2.1; simp only [smScr, ScrR.dat] at h3; omega), ⟨h.Back.sl, fun y hy => (h.Back.all y hy).to (h2.2.2.2.2 _ (List.mem_map_of_mem hy))⟩, h.Back_c, (by have := h.Back.sl.len; have h3 := h2.2.2.2.1; simp only [smScr, ScrR.dat, List.length_map] at h3; omega)⟩
def totScr (d : ScrD) : Nat := d.Main.Cells.length + d.Alt.Cells.length + d.Tabs.length + tots totRow d.Back
theorem totScr_sm {B : Nat} {d : ScrD} (h : totScr d ≤ B) : smScr B d := by
  simp only [totScr] at h
  unfold smScr
  exact ⟨(totGrid_sm (by simp only [totGrid]; omega)), (totGrid_sm (by simp only [totGrid]; omega)), (by omega), (by have := tots_len totRow d.Back; omega), (fun y hy => totRow_sm (by have := tots_mem (f := totRow) hy; omega))⟩
def ownScrR (x : ScrR) (L : Hp) : Prop := ∃ L1 L2 L3 L4, L = L1 ++ (L2 ++ (L3 ++ L4)) ∧ OwnF encCell 164 (.slice x.Main.Cells.A x.Main.Cells.n x.Main.Cells.c) x.Main.Cells.xs L1 ∧ OwnF encCell 164 (.slice x.Alt.Cells.A x.Alt.Cells.n x.Alt.Cells.c) x.Alt.Cells.xs L2 ∧ OwnF encI 3 (.slice x.Tabs.A x.Tabs.n x.Tabs.c) x.Tabs.xs L3 ∧ OwnN encRowR ownRowR 181 (.slice x.Back.A x.Back.n x.Back.c) x.Back.xs L4
theorem ownScrR.fold {w0 w : World} {T : List Nat} {L1 L2 L3 L4 R : Hp} (x : ScrR) (hs : St w0 T (L1 ++ (L2 ++ (L3 ++ (L4 ++ R)))) w) (o1 : OwnF encCell 164 (.slice x.Main.Cells.A x.Main.Cells.n x.Main.Cells.c) x.Main.Cells.xs L1) (o2 : OwnF encCell 164 (.slice x.Alt.Cells.A x.Alt.Cells.n x.Alt.Cells.c) x.Alt.Cells.xs L2) (o3 : OwnF encI 3 (.slice x.Tabs.A x.Tabs.n x.Tabs.c) x.Tabs.xs L3) (o4 : OwnN encRowR ownRowR 181 (.slice x.Back.A x.Back.n x.Back.c) x.Back.xs L4) : ∃ L, St w0 T (L ++ R) w ∧ ownScrR x L := ⟨L1 ++ (L2 ++ (L3 ++ L4)), by simpa only [List.append_assoc] using hs, L1, L2, L3, L4, rfl, o1, o2, o3, o4⟩
theorem ownScrR.fl {w0 w : World} {T : List Nat} {L1 L2 L3 L4 L S1 S2 S3 S4 : Hp} [k1 : Fr1 L1 L S1] [k2 : Fr1 L2 S1 S2] [k3 : Fr1 L3 S2 S3] [k4 : Fr1 L4 S3 S4] {A1 : Option Addr} {n1 c1 : Nat} {x1 : _} {A2 : Option Addr} {n2 c2 : Nat} {x2 : _} {A3 : Option Addr} {n3 c3 : Nat} {x3 : _} {A4 : Option Addr} {n4 c4 : Nat} {x4 : _} (hs : St w0 T L w) (o1 : OwnF encCell 164 (.slice A1 n1 c1) x1 L1) (o2 : OwnF encCell 164 (.slice A2 n2 c2) x2 L2) (o3 : OwnF encI 3 (.slice A3 n3 c3) x3 L3) (o4 : OwnN encRowR ownRowR 181 (.slice A4 n4 c4) x4 L4) : ∃ L', St w0 T (L' ++ S4) w ∧ ownScrR ⟨0, 0, ⟨0, 0, ⟨A1, n1, c1, x1⟩⟩, ⟨0, 0, ⟨A2, n2, c2, x2⟩⟩, false, 0, 0, false, ⟨0, 0, false, false, false⟩, 0, 0, false, false, 0, 0, ⟨0, 0, false, false, false⟩, ⟨A3, n3, c3, x3⟩, 0, ⟨A4, n4, c4, x4⟩⟩ L' := ⟨L1 ++ (L2 ++ (L3 ++ L4)), by simpa only [List.append_assoc] using hs.perm ((List.Perm.append_left L1 ((List.Perm.append_left L2 ((List.Perm.append_left L3 k4.pf).trans k3.pf)).trans k2.pf)).trans k1.pf), L1, L2, L3, L4, rfl, o1, o2, o3, o4⟩
theorem ownScrR.op {w0 w : World} {T : List Nat} {L LL R : Hp} {x : ScrR} [k : Fr1 LL L R] (hs : St w0 T L w) (h : ownScrR x LL) : ∃ L1 L2 L3 L4, St w0 T (L1 ++ (L2 ++ (L3 ++ (L4 ++ R)))) w ∧ OwnF encCell 164 (.slice x.Main.Cells.A x.Main.Cells.n x.Main.Cells.c) x.Main.Cells.xs L1 ∧ OwnF encCell 164 (.slice x.Alt.Cells.A x.Alt.Cells.n x.Alt.Cells.c) x.Alt.Cells.xs L2 ∧ OwnF encI 3 (.slice x.Tabs.A x.Tabs.n x.Tabs.c) x.Tabs.xs L3 ∧ OwnN encRowR ownRowR 181 (.slice x.Back.A x.Back.n x.Back.c) x.Back.xs L4 := by
  have hs := hs.fr LL
  obtain ⟨L1, L2, L3, L4, rfl, h⟩ := h
  exact ⟨L1, L2, L3, L4, by simpa only [List.append_assoc] using hs, h⟩
theorem ownScrR.ret {w w' : World} {K : List Nat} {L1 : Hp} {e : Ending} {D : ScrD} {v0 : Int} {v1 : Int} {v2 : Int} {v3 : Int} {A1 : Option Addr} {n1 c1 : Nat} {x1 : _} {v5 : Int} {v6 : Int} {A2 : Option Addr} {n2 c2 : Nat} {x2 : _} {v8 : Bool} {v9 : Int} {v10 : Int} {v11 : Bool} {v12 : Int} {v13 : Int} {v14 : Bool} {v15 : Bool} {v16 : Bool} {v17 : Int} {v18 : Int} {v19 : Bool} {v20 : Bool} {v21 : Int} {v22 : Int} {v23 : Int} {v24 : Int} {v25 : Bool} {v26 : Bool} {v27 : Bool} {A3 : Option Addr} {n3 c3 : Nat} {x3 : _} {v29 : Int} {A4 : Option Addr} {n4 c4 : Nat} {x4 : _} (he : e = .returned (.agg (List.toArray [i64 v0, i64 v1, i64 v2, i64 v3, .slice A1 n1 c1, i64 v5, i64 v6, .slice A2 n2 c2, .bool v8, i64 v9, i64 v10, .bool v11, i64 v12, i64 v13, .bool v14, .bool v15, .bool v16, i64 v17, i64 v18, .bool v19, .bool v20, i64 v21, i64 v22, i64 v23, i64 v24, .bool v25, .bool v26, .bool v27, .slice A3 n3 c3, i64 v29, .slice A4 n4 c4]))) (hs : St w K L1 w') (ho : ownScrR ⟨0, 0, ⟨0, 0, ⟨A1, n1, c1, x1⟩⟩, ⟨0, 0, ⟨A2, n2, c2, x2⟩⟩, false, 0, 0, false, ⟨0, 0, false, false, false⟩, 0, 0, false, false, 0, 0, ⟨0, 0, false, false, false⟩, ⟨A3, n3, c3, x3⟩, 0, ⟨A4, n4, c4, x4⟩⟩ L1) (hd : (⟨v0, v1, ⟨v2, v3, ⟨A1, n1, c1, x1⟩⟩, ⟨v5, v6, ⟨A2, n2, c2, x2⟩⟩, v8, v9, v10, v11, ⟨v12, v13, v14, v15, v16⟩, v17, v18, v19, v20, v21, v22, ⟨v23, v24, v25, v26, v27⟩, ⟨A3, n3, c3, x3⟩, v29, ⟨A4, n4, c4, x4⟩⟩ : ScrR).dat = D) : ∃ r L1, e = .returned (.agg (cScr r).toArray) ∧ St w K L1 w' ∧ ownScrR r L1 ∧ r.dat = D := ⟨⟨v0, v1, ⟨v2, v3, ⟨A1, n1, c1, x1⟩⟩, ⟨v5, v6, ⟨A2, n2, c2, x2⟩⟩, v8, v9, v10, v11, ⟨v12, v13, v14, v15, v16⟩, v17, v18, v19, v20, v21, v22, ⟨v23, v24, v25, v26, v27⟩, ⟨A3, n3, c3, x3⟩, v29, ⟨A4, n4, c4, x4⟩⟩, L1, he, hs, ho, hd⟩
theorem ownScrR.open_ {w0 w : World} {T : List Nat} {L R : Hp} {x : ScrR} (hs : St w0 T (L ++ R) w) (h : ownScrR x L) : ∃ L1 L2 L3 L4, St w0 T (L1 ++ (L2 ++ (L3 ++ (L4 ++ R)))) w ∧ OwnF encCell 164 (.slice x.Main.Cells.A x.Main.Cells.n x.Main.Cells.c) x.Main.Cells.xs L1 ∧ OwnF encCell 164 (.slice x.Alt.Cells.A x.Alt.Cells.n x.Alt.Cells.c) x.Alt.Cells.xs L2 ∧ OwnF encI 3 (.slice x.Tabs.A x.Tabs.n x.Tabs.c) x.Tabs.xs L3 ∧ OwnN encRowR ownRowR 181 (.slice x.Back.A x.Back.n x.Back.c) x.Back.xs L4 := by
  obtain ⟨L1, L2, L3, L4, rfl, h⟩ := h
  exact ⟨L1, L2, L3, L4, by simpa only [List.append_assoc] using hs, h⟩
theorem ownScrR.len {x : ScrR} {L : Hp} (h : ownScrR x L) : x.Main.Cells.xs.length = x.Main.Cells.n ∧ x.Alt.Cells.xs.length = x.Alt.Cells.n ∧ x.Tabs.xs.length = x.Tabs.n ∧ x.Back.xs.length = x.Back.n := by
  obtain ⟨L1, L2, L3, L4, rfl, o1, o2, o3, o4⟩ := h
  exact ⟨(OwnF.len_ o1), (OwnF.len_ o2), (OwnF.len_ o3), (OwnN.len_ o4)⟩
theorem ownScrR.ok {B : Nat} {w : World} {x : ScrR} {L : Hp} (h : ownScrR x L) (hh : ∀ p, p ∈ L → w.heap[p.1]? = some p.2) (h2 : smScr B x.dat) : okScrR B w x := by
  obtain ⟨L1, L2, L3, L4, rfl, o1, o2, o3, o4⟩ := h
  simp only [List.mem_append] at hh
  exact ⟨⟨SlF.ofOwn o1 (fun p hp => hh p (.inl hp)), OwnF.cap o1, (by have := OwnF.len_ o1; have h3 := h2.1; simp only [GridR.dat, ScrR.dat, smGrid, smScr] at h3; omega)⟩, ⟨SlF.ofOwn o2 (fun p hp => hh p (.inr (.inl hp))), OwnF.cap o2, (by have := OwnF.len_ o2; have h3 := h2.2.1; simp only [GridR.dat, ScrR.dat, smGrid, smScr] at h3; omega)⟩, SlF.ofOwn o3 (fun p hp => hh p (.inr (.inr (.inl hp)))), OwnF.cap o3, (by have := OwnF.len_ o3; have h3 := h2.2.2.1; simp only [GridR.dat, ScrR.dat, smGrid, smScr] at h3; omega), OwnN.ok o4 (fun p hp => hh p (.inr (.inr (.inr (hp))))) (fun y Li hy h3 hl => h3.ok hl (h2.2.2.2.2 _ (List.mem_map_of_mem hy))), OwnN.cap o4, (by have := OwnN.len_ o4; have h3 := h2.2.2.2.1; simp only [GridR.dat, ScrR.dat, smGrid, smScr, List.length_map] at h3; omega)⟩
structure TermR where
  P : VpR
  S : ScrR
def encTermR : Enc TermR := ⟨35, fun d => [i64 d.P.State, .bool d.P.Mark, .slice d.P.Args.A d.P.Args.n d.P.Args.c, .slice d.P.Part.A d.P.Part.n d.P.Part.c, i64 d.S.W, i64 d.S.H, i64 d.S.Main.W, i64 d.S.Main.H, .slice d.S.Main.Cells.A d.S.Main.Cells.n d.S.Main.Cells.c, i64 d.S.Alt.W, i64 d.S.Alt.H, .slice d.S.Alt.Cells.A d.S.Alt.Cells.n d.S.Alt.Cells.c, .bool d.S.OnAlt, i64 d.S.X, i64 d.S.Y, .bool d.S.Wrap, i64 d.S.A.Fg, i64 d.S.A.Bg, .bool d.S.A.Bold, .bool d.S.A.Under, .bool d.S.A.Turn, i64 d.S.Top, i64 d.S.Bot, .bool d.S.NoWrap, .bool d.S.Hide, i64 d.S.SaveX, i64 d.S.SaveY, i64 d.S.SaveA.Fg, i64 d.S.SaveA.Bg, .bool d.S.SaveA.Bold, .bool d.S.SaveA.Under, .bool d.S.SaveA.Turn, .slice d.S.Tabs.A d.S.Tabs.n d.S.Tabs.c, i64 d.S.Limit, .slice d.S.Back.A d.S.Back.n d.S.Back.c], ⟨⟨0, false, ⟨none, 0, 0, []⟩, ⟨none, 0, 0, []⟩⟩, ⟨0, 0, ⟨0, 0, ⟨none, 0, 0, []⟩⟩, ⟨0, 0, ⟨none, 0, 0, []⟩⟩, false, 0, 0, false, ⟨0, 0, false, false, false⟩, 0, 0, false, false, 0, 0, ⟨0, 0, false, false, false⟩, ⟨none, 0, 0, []⟩, 0, ⟨none, 0, 0, []⟩⟩⟩, fun _ => rfl, fun x v h => by simp at h; rcases h with rfl | rfl | rfl | rfl | rfl | rfl | rfl | rfl | rfl | rfl | rfl | rfl | rfl | rfl | rfl | rfl | rfl | rfl | rfl | rfl | rfl | rfl | rfl | rfl | rfl | rfl | rfl | rfl | rfl | rfl | rfl | rfl | rfl | rfl | rfl <;> rfl, by decide⟩
structure okTermR (B : Nat) (w : World) (x : TermR) : Prop where
  P : okVpR B w x.P
  S : okScrR B w x.S
structure sepTermR (T : List Nat) (x : TermR) : Prop where
  P : sepVpR T x.P
  S : sepScrR T x.S
theorem okTermR.st0 {B : Nat} {w0 w : World} {L : Hp} {x : TermR} (h : okTermR B w0 x) (hs : St w0 [] L w) : okTermR B w x := ⟨okVpR.st0 h.P hs, okScrR.st0 h.S hs⟩
theorem okTermR.st {B : Nat} {w0 w : World} {T : List Nat} {L : Hp} {x : TermR} (h : okTermR B w0 x) (hs : St w0 T L w) (hp : sepTermR T x) : okTermR B w x := ⟨okVpR.st h.P hs hp.P, okScrR.st h.S hs hp.S⟩
theorem okTermR.le {B B' : Nat} {w : World} {x : TermR} (h : okTermR B w x) (hB : B ≤ B') : okTermR B' w x := ⟨okVpR.le h.P hB, okScrR.le h.S hB⟩
def TermR.dat (x : TermR) : TermD := ⟨x.P.dat, x.S.dat⟩
def smTerm (B : Nat) (d : TermD) : Prop := (smVp B d.P) ∧ (smScr B d.S)
theorem okTermR.to {B B' : Nat} {w : World} {x : TermR} (h : okTermR B w x) (h2 : smTerm B' x.dat) : okTermR B' w x := ⟨h.P.to h2.1, h.S.to h2.2⟩
def totTerm (d : TermD) : Nat := d.P.Args.length + d.P.Part.length + d.S.Main.Cells.length + d.S.Alt.Cells.length + d.S.Tabs.length + tots totRow d.S.Back
theorem totTerm_sm {B : Nat} {d : TermD} (h : totTerm d ≤ B) : smTerm B d := by
  simp only [totTerm] at h
  unfold smTerm
  exact ⟨(totVp_sm (by simp only [totVp]; omega)), (totScr_sm (by simp only [totGrid, totScr]; omega))⟩
def ownTermR (x : TermR) (L : Hp) : Prop := ∃ L1 L2 L3 L4 L5 L6, L = L1 ++ (L2 ++ (L3 ++ (L4 ++ (L5 ++ L6)))) ∧ OwnF encI 3 (.slice x.P.Args.A x.P.Args.n x.P.Args.c) x.P.Args.xs L1 ∧ OwnF encB 5 (.slice x.P.Part.A x.P.Part.n x.P.Part.c) x.P.Part.xs L2 ∧ OwnF encCell 164 (.slice x.S.Main.Cells.A x.S.Main.Cells.n x.S.Main.Cells.c) x.S.Main.Cells.xs L3 ∧ OwnF encCell 164 (.slice x.S.Alt.Cells.A x.S.Alt.Cells.n x.S.Alt.Cells.c) x.S.Alt.Cells.xs L4 ∧ OwnF encI 3 (.slice x.S.Tabs.A x.S.Tabs.n x.S.Tabs.c) x.S.Tabs.xs L5 ∧ OwnN encRowR ownRowR 181 (.slice x.S.Back.A x.S.Back.n x.S.Back.c) x.S.Back.xs L6
theorem ownTermR.fold {w0 w : World} {T : List Nat} {L1 L2 L3 L4 L5 L6 R : Hp} (x : TermR) (hs : St w0 T (L1 ++ (L2 ++ (L3 ++ (L4 ++ (L5 ++ (L6 ++ R)))))) w) (o1 : OwnF encI 3 (.slice x.P.Args.A x.P.Args.n x.P.Args.c) x.P.Args.xs L1) (o2 : OwnF encB 5 (.slice x.P.Part.A x.P.Part.n x.P.Part.c) x.P.Part.xs L2) (o3 : OwnF encCell 164 (.slice x.S.Main.Cells.A x.S.Main.Cells.n x.S.Main.Cells.c) x.S.Main.Cells.xs L3) (o4 : OwnF encCell 164 (.slice x.S.Alt.Cells.A x.S.Alt.Cells.n x.S.Alt.Cells.c) x.S.Alt.Cells.xs L4) (o5 : OwnF encI 3 (.slice x.S.Tabs.A x.S.Tabs.n x.S.Tabs.c) x.S.Tabs.xs L5) (o6 : OwnN encRowR ownRowR 181 (.slice x.S.Back.A x.S.Back.n x.S.Back.c) x.S.Back.xs L6) : ∃ L, St w0 T (L ++ R) w ∧ ownTermR x L := ⟨L1 ++ (L2 ++ (L3 ++ (L4 ++ (L5 ++ L6)))), by simpa only [List.append_assoc] using hs, L1, L2, L3, L4, L5, L6, rfl, o1, o2, o3, o4, o5, o6⟩
theorem ownTermR.fl {w0 w : World} {T : List Nat} {L1 L2 L3 L4 L5 L6 L S1 S2 S3 S4 S5 S6 : Hp} [k1 : Fr1 L1 L S1] [k2 : Fr1 L2 S1 S2] [k3 : Fr1 L3 S2 S3] [k4 : Fr1 L4 S3 S4] [k5 : Fr1 L5 S4 S5] [k6 : Fr1 L6 S5 S6] {A1 : Option Addr} {n1 c1 : Nat} {x1 : _} {A2 : Option Addr} {n2 c2 : Nat} {x2 : _} {A3 : Option Addr} {n3 c3 : Nat} {x3 : _} {A4 : Option Addr} {n4 c4 : Nat} {x4 : _} {A5 : Option Addr} {n5 c5 : Nat} {x5 : _} {A6 : Option Addr} {n6 c6 : Nat} {x6 : _} (hs : St w0 T L w) (o1 : OwnF encI 3 (.slice A1 n1 c1) x1 L1) (o2 : OwnF encB 5 (.slice A2 n2 c2) x2 L2) (o3 : OwnF encCell 164 (.slice A3 n3 c3) x3 L3) (o4 : OwnF encCell 164 (.slice A4 n4 c4) x4 L4) (o5 : OwnF encI 3 (.slice A5 n5 c5) x5 L5) (o6 : OwnN encRowR ownRowR 181 (.slice A6 n6 c6) x6 L6) : ∃ L', St w0 T (L' ++ S6) w ∧ ownTermR ⟨⟨0, false, ⟨A1, n1, c1, x1⟩, ⟨A2, n2, c2, x2⟩⟩, ⟨0, 0, ⟨0, 0, ⟨A3, n3, c3, x3⟩⟩, ⟨0, 0, ⟨A4, n4, c4, x4⟩⟩, false, 0, 0, false, ⟨0, 0, false, false, false⟩, 0, 0, false, false, 0, 0, ⟨0, 0, false, false, false⟩, ⟨A5, n5, c5, x5⟩, 0, ⟨A6, n6, c6, x6⟩⟩⟩ L' := ⟨L1 ++ (L2 ++ (L3 ++ (L4 ++ (L5 ++ L6)))), by simpa only [List.append_assoc] using hs.perm ((List.Perm.append_left L1 ((List.Perm.append_left L2 ((List.Perm.append_left L3 ((List.Perm.append_left L4 ((List.Perm.append_left L5 k6.pf).trans k5.pf)).trans k4.pf)).trans k3.pf)).trans k2.pf)).trans k1.pf), L1, L2, L3, L4, L5, L6, rfl, o1, o2, o3, o4, o5, o6⟩
theorem ownTermR.op {w0 w : World} {T : List Nat} {L LL R : Hp} {x : TermR} [k : Fr1 LL L R] (hs : St w0 T L w) (h : ownTermR x LL) : ∃ L1 L2 L3 L4 L5 L6, St w0 T (L1 ++ (L2 ++ (L3 ++ (L4 ++ (L5 ++ (L6 ++ R)))))) w ∧ OwnF encI 3 (.slice x.P.Args.A x.P.Args.n x.P.Args.c) x.P.Args.xs L1 ∧ OwnF encB 5 (.slice x.P.Part.A x.P.Part.n x.P.Part.c) x.P.Part.xs L2 ∧ OwnF encCell 164 (.slice x.S.Main.Cells.A x.S.Main.Cells.n x.S.Main.Cells.c) x.S.Main.Cells.xs L3 ∧ OwnF encCell 164 (.slice x.S.Alt.Cells.A x.S.Alt.Cells.n x.S.Alt.Cells.c) x.S.Alt.Cells.xs L4 ∧ OwnF encI 3 (.slice x.S.Tabs.A x.S.Tabs.n x.S.Tabs.c) x.S.Tabs.xs L5 ∧ OwnN encRowR ownRowR 181 (.slice x.S.Back.A x.S.Back.n x.S.Back.c) x.S.Back.xs L6 := by
  have hs := hs.fr LL
  obtain ⟨L1, L2, L3, L4, L5, L6, rfl, h⟩ := h
  exact ⟨L1, L2, L3, L4, L5, L6, by simpa only [List.append_assoc] using hs, h⟩
theorem ownTermR.ret {w w' : World} {K : List Nat} {L1 : Hp} {e : Ending} {D : TermD} {v0 : Int} {v1 : Bool} {A1 : Option Addr} {n1 c1 : Nat} {x1 : _} {A2 : Option Addr} {n2 c2 : Nat} {x2 : _} {v4 : Int} {v5 : Int} {v6 : Int} {v7 : Int} {A3 : Option Addr} {n3 c3 : Nat} {x3 : _} {v9 : Int} {v10 : Int} {A4 : Option Addr} {n4 c4 : Nat} {x4 : _} {v12 : Bool} {v13 : Int} {v14 : Int} {v15 : Bool} {v16 : Int} {v17 : Int} {v18 : Bool} {v19 : Bool} {v20 : Bool} {v21 : Int} {v22 : Int} {v23 : Bool} {v24 : Bool} {v25 : Int} {v26 : Int} {v27 : Int} {v28 : Int} {v29 : Bool} {v30 : Bool} {v31 : Bool} {A5 : Option Addr} {n5 c5 : Nat} {x5 : _} {v33 : Int} {A6 : Option Addr} {n6 c6 : Nat} {x6 : _} (he : e = .returned (.agg (List.toArray [i64 v0, .bool v1, .slice A1 n1 c1, .slice A2 n2 c2, i64 v4, i64 v5, i64 v6, i64 v7, .slice A3 n3 c3, i64 v9, i64 v10, .slice A4 n4 c4, .bool v12, i64 v13, i64 v14, .bool v15, i64 v16, i64 v17, .bool v18, .bool v19, .bool v20, i64 v21, i64 v22, .bool v23, .bool v24, i64 v25, i64 v26, i64 v27, i64 v28, .bool v29, .bool v30, .bool v31, .slice A5 n5 c5, i64 v33, .slice A6 n6 c6]))) (hs : St w K L1 w') (ho : ownTermR ⟨⟨0, false, ⟨A1, n1, c1, x1⟩, ⟨A2, n2, c2, x2⟩⟩, ⟨0, 0, ⟨0, 0, ⟨A3, n3, c3, x3⟩⟩, ⟨0, 0, ⟨A4, n4, c4, x4⟩⟩, false, 0, 0, false, ⟨0, 0, false, false, false⟩, 0, 0, false, false, 0, 0, ⟨0, 0, false, false, false⟩, ⟨A5, n5, c5, x5⟩, 0, ⟨A6, n6, c6, x6⟩⟩⟩ L1) (hd : (⟨⟨v0, v1, ⟨A1, n1, c1, x1⟩, ⟨A2, n2, c2, x2⟩⟩, ⟨v4, v5, ⟨v6, v7, ⟨A3, n3, c3, x3⟩⟩, ⟨v9, v10, ⟨A4, n4, c4, x4⟩⟩, v12, v13, v14, v15, ⟨v16, v17, v18, v19, v20⟩, v21, v22, v23, v24, v25, v26, ⟨v27, v28, v29, v30, v31⟩, ⟨A5, n5, c5, x5⟩, v33, ⟨A6, n6, c6, x6⟩⟩⟩ : TermR).dat = D) : ∃ r L1, e = .returned (.agg #[i64 r.P.State, .bool r.P.Mark, .slice r.P.Args.A r.P.Args.n r.P.Args.c, .slice r.P.Part.A r.P.Part.n r.P.Part.c, i64 r.S.W, i64 r.S.H, i64 r.S.Main.W, i64 r.S.Main.H, .slice r.S.Main.Cells.A r.S.Main.Cells.n r.S.Main.Cells.c, i64 r.S.Alt.W, i64 r.S.Alt.H, .slice r.S.Alt.Cells.A r.S.Alt.Cells.n r.S.Alt.Cells.c, .bool r.S.OnAlt, i64 r.S.X, i64 r.S.Y, .bool r.S.Wrap, i64 r.S.A.Fg, i64 r.S.A.Bg, .bool r.S.A.Bold, .bool r.S.A.Under, .bool r.S.A.Turn, i64 r.S.Top, i64 r.S.Bot, .bool r.S.NoWrap, .bool r.S.Hide, i64 r.S.SaveX, i64 r.S.SaveY, i64 r.S.SaveA.Fg, i64 r.S.SaveA.Bg, .bool r.S.SaveA.Bold, .bool r.S.SaveA.Under, .bool r.S.SaveA.Turn, .slice r.S.Tabs.A r.S.Tabs.n r.S.Tabs.c, i64 r.S.Limit, .slice r.S.Back.A r.S.Back.n r.S.Back.c]) ∧ St w K L1 w' ∧ ownTermR r L1 ∧ r.dat = D := ⟨⟨⟨v0, v1, ⟨A1, n1, c1, x1⟩, ⟨A2, n2, c2, x2⟩⟩, ⟨v4, v5, ⟨v6, v7, ⟨A3, n3, c3, x3⟩⟩, ⟨v9, v10, ⟨A4, n4, c4, x4⟩⟩, v12, v13, v14, v15, ⟨v16, v17, v18, v19, v20⟩, v21, v22, v23, v24, v25, v26, ⟨v27, v28, v29, v30, v31⟩, ⟨A5, n5, c5, x5⟩, v33, ⟨A6, n6, c6, x6⟩⟩⟩, L1, he, hs, ho, hd⟩
theorem ownTermR.open_ {w0 w : World} {T : List Nat} {L R : Hp} {x : TermR} (hs : St w0 T (L ++ R) w) (h : ownTermR x L) : ∃ L1 L2 L3 L4 L5 L6, St w0 T (L1 ++ (L2 ++ (L3 ++ (L4 ++ (L5 ++ (L6 ++ R)))))) w ∧ OwnF encI 3 (.slice x.P.Args.A x.P.Args.n x.P.Args.c) x.P.Args.xs L1 ∧ OwnF encB 5 (.slice x.P.Part.A x.P.Part.n x.P.Part.c) x.P.Part.xs L2 ∧ OwnF encCell 164 (.slice x.S.Main.Cells.A x.S.Main.Cells.n x.S.Main.Cells.c) x.S.Main.Cells.xs L3 ∧ OwnF encCell 164 (.slice x.S.Alt.Cells.A x.S.Alt.Cells.n x.S.Alt.Cells.c) x.S.Alt.Cells.xs L4 ∧ OwnF encI 3 (.slice x.S.Tabs.A x.S.Tabs.n x.S.Tabs.c) x.S.Tabs.xs L5 ∧ OwnN encRowR ownRowR 181 (.slice x.S.Back.A x.S.Back.n x.S.Back.c) x.S.Back.xs L6 := by
  obtain ⟨L1, L2, L3, L4, L5, L6, rfl, h⟩ := h
  exact ⟨L1, L2, L3, L4, L5, L6, by simpa only [List.append_assoc] using hs, h⟩
theorem ownTermR.len {x : TermR} {L : Hp} (h : ownTermR x L) : x.P.Args.xs.length = x.P.Args.n ∧ x.P.Part.xs.length = x.P.Part.n ∧ x.S.Main.Cells.xs.length = x.S.Main.Cells.n ∧ x.S.Alt.Cells.xs.length = x.S.Alt.Cells.n ∧ x.S.Tabs.xs.length = x.S.Tabs.n ∧ x.S.Back.xs.length = x.S.Back.n := by
  obtain ⟨L1, L2, L3, L4, L5, L6, rfl, o1, o2, o3, o4, o5, o6⟩ := h
  exact ⟨(OwnF.len_ o1), (OwnF.len_ o2), (OwnF.len_ o3), (OwnF.len_ o4), (OwnF.len_ o5), (OwnN.len_ o6)⟩
theorem ownTermR.ok {B : Nat} {w : World} {x : TermR} {L : Hp} (h : ownTermR x L) (hh : ∀ p, p ∈ L → w.heap[p.1]? = some p.2) (h2 : smTerm B x.dat) : okTermR B w x := by
  obtain ⟨L1, L2, L3, L4, L5, L6, rfl, o1, o2, o3, o4, o5, o6⟩ := h
  simp only [List.mem_append] at hh
  exact ⟨⟨SlF.ofOwn o1 (fun p hp => hh p (.inl hp)), OwnF.cap o1, (by have := OwnF.len_ o1; have h3 := h2.1.1; simp only [GridR.dat, ScrR.dat, TermR.dat, VpR.dat, smGrid, smScr, smTerm, smVp] at h3; omega), SlF.ofOwn o2 (fun p hp => hh p (.inr (.inl hp))), OwnF.cap o2, (by have := OwnF.len_ o2; have h3 := h2.1.2; simp only [GridR.dat, ScrR.dat, TermR.dat, VpR.dat, smGrid, smScr, smTerm, smVp] at h3; omega)⟩, ⟨⟨SlF.ofOwn o3 (fun p hp => hh p (.inr (.inr (.inl hp)))), OwnF.cap o3, (by have := OwnF.len_ o3; have h3 := h2.2.1; simp only [GridR.dat, ScrR.dat, TermR.dat, VpR.dat, smGrid, smScr, smTerm, smVp] at h3; omega)⟩, ⟨SlF.ofOwn o4 (fun p hp => hh p (.inr (.inr (.inr (.inl hp))))), OwnF.cap o4, (by have := OwnF.len_ o4; have h3 := h2.2.2.1; simp only [GridR.dat, ScrR.dat, TermR.dat, VpR.dat, smGrid, smScr, smTerm, smVp] at h3; omega)⟩, SlF.ofOwn o5 (fun p hp => hh p (.inr (.inr (.inr (.inr (.inl hp)))))), OwnF.cap o5, (by have := OwnF.len_ o5; have h3 := h2.2.2.2.1; simp only [GridR.dat, ScrR.dat, TermR.dat, VpR.dat, smGrid, smScr, smTerm, smVp] at h3; omega), OwnN.ok o6 (fun p hp => hh p (.inr (.inr (.inr (.inr (.inr (hp))))))) (fun y Li hy h3 hl => h3.ok hl (h2.2.2.2.2.2 _ (List.mem_map_of_mem hy))), OwnN.cap o6, (by have := OwnN.len_ o6; have h3 := h2.2.2.2.2.1; simp only [GridR.dat, ScrR.dat, TermR.dat, VpR.dat, smGrid, smScr, smTerm, smVp, List.length_map] at h3; omega)⟩⟩
structure PaneR where
  Id : Int
  Cmd : ByteArray
  Dir : ByteArray
  Life : Int
  Code : Int
  Pid : Int
  Term : TermR
def encPaneR : Enc PaneR := ⟨41, fun d => [i64 d.Id, .string d.Cmd, .string d.Dir, i64 d.Life, i64 d.Code, i64 d.Pid, i64 d.Term.P.State, .bool d.Term.P.Mark, .slice d.Term.P.Args.A d.Term.P.Args.n d.Term.P.Args.c, .slice d.Term.P.Part.A d.Term.P.Part.n d.Term.P.Part.c, i64 d.Term.S.W, i64 d.Term.S.H, i64 d.Term.S.Main.W, i64 d.Term.S.Main.H, .slice d.Term.S.Main.Cells.A d.Term.S.Main.Cells.n d.Term.S.Main.Cells.c, i64 d.Term.S.Alt.W, i64 d.Term.S.Alt.H, .slice d.Term.S.Alt.Cells.A d.Term.S.Alt.Cells.n d.Term.S.Alt.Cells.c, .bool d.Term.S.OnAlt, i64 d.Term.S.X, i64 d.Term.S.Y, .bool d.Term.S.Wrap, i64 d.Term.S.A.Fg, i64 d.Term.S.A.Bg, .bool d.Term.S.A.Bold, .bool d.Term.S.A.Under, .bool d.Term.S.A.Turn, i64 d.Term.S.Top, i64 d.Term.S.Bot, .bool d.Term.S.NoWrap, .bool d.Term.S.Hide, i64 d.Term.S.SaveX, i64 d.Term.S.SaveY, i64 d.Term.S.SaveA.Fg, i64 d.Term.S.SaveA.Bg, .bool d.Term.S.SaveA.Bold, .bool d.Term.S.SaveA.Under, .bool d.Term.S.SaveA.Turn, .slice d.Term.S.Tabs.A d.Term.S.Tabs.n d.Term.S.Tabs.c, i64 d.Term.S.Limit, .slice d.Term.S.Back.A d.Term.S.Back.n d.Term.S.Back.c], ⟨0, { data := #[] }, { data := #[] }, 0, 0, 0, ⟨⟨0, false, ⟨none, 0, 0, []⟩, ⟨none, 0, 0, []⟩⟩, ⟨0, 0, ⟨0, 0, ⟨none, 0, 0, []⟩⟩, ⟨0, 0, ⟨none, 0, 0, []⟩⟩, false, 0, 0, false, ⟨0, 0, false, false, false⟩, 0, 0, false, false, 0, 0, ⟨0, 0, false, false, false⟩, ⟨none, 0, 0, []⟩, 0, ⟨none, 0, 0, []⟩⟩⟩⟩, fun _ => rfl, fun x v h => by simp at h; rcases h with rfl | rfl | rfl | rfl | rfl | rfl | rfl | rfl | rfl | rfl | rfl | rfl | rfl | rfl | rfl | rfl | rfl | rfl | rfl | rfl | rfl | rfl | rfl | rfl | rfl | rfl | rfl | rfl | rfl | rfl | rfl | rfl | rfl | rfl | rfl | rfl | rfl | rfl | rfl | rfl | rfl <;> rfl, by decide⟩
structure okPaneR (B : Nat) (w : World) (x : PaneR) : Prop where
  Cmd_z : x.Cmd.size ≤ B
  Dir_z : x.Dir.size ≤ B
  Term : okTermR B w x.Term
structure sepPaneR (T : List Nat) (x : PaneR) : Prop where
  Term : sepTermR T x.Term
theorem okPaneR.st0 {B : Nat} {w0 w : World} {L : Hp} {x : PaneR} (h : okPaneR B w0 x) (hs : St w0 [] L w) : okPaneR B w x := ⟨h.Cmd_z, h.Dir_z, okTermR.st0 h.Term hs⟩
theorem okPaneR.st {B : Nat} {w0 w : World} {T : List Nat} {L : Hp} {x : PaneR} (h : okPaneR B w0 x) (hs : St w0 T L w) (hp : sepPaneR T x) : okPaneR B w x := ⟨h.Cmd_z, h.Dir_z, okTermR.st h.Term hs hp.Term⟩
theorem okPaneR.le {B B' : Nat} {w : World} {x : PaneR} (h : okPaneR B w x) (hB : B ≤ B') : okPaneR B' w x := ⟨Nat.le_trans h.Cmd_z hB, Nat.le_trans h.Dir_z hB, okTermR.le h.Term hB⟩
def PaneR.dat (x : PaneR) : PaneD := ⟨x.Id, x.Cmd, x.Dir, x.Life, x.Code, x.Pid, x.Term.dat⟩
def smPane (B : Nat) (d : PaneD) : Prop := (d.Cmd.size ≤ B) ∧ (d.Dir.size ≤ B) ∧ (smTerm B d.Term)
theorem okPaneR.to {B B' : Nat} {w : World} {x : PaneR} (h : okPaneR B w x) (h2 : smPane B' x.dat) : okPaneR B' w x := ⟨h2.1, h2.2.1, h.Term.to h2.2.2⟩
def totPane (d : PaneD) : Nat := d.Cmd.size + d.Dir.size + d.Term.P.Args.length + d.Term.P.Part.length + d.Term.S.Main.Cells.length + d.Term.S.Alt.Cells.length + d.Term.S.Tabs.length + tots totRow d.Term.S.Back
theorem totPane_sm {B : Nat} {d : PaneD} (h : totPane d ≤ B) : smPane B d := by
  simp only [totPane] at h
  unfold smPane
  exact ⟨(by omega), (by omega), (totTerm_sm (by simp only [totGrid, totScr, totTerm, totVp]; omega))⟩
def ownPaneR (x : PaneR) (L : Hp) : Prop := ∃ L1 L2 L3 L4 L5 L6, L = L1 ++ (L2 ++ (L3 ++ (L4 ++ (L5 ++ L6)))) ∧ OwnF encI 3 (.slice x.Term.P.Args.A x.Term.P.Args.n x.Term.P.Args.c) x.Term.P.Args.xs L1 ∧ OwnF encB 5 (.slice x.Term.P.Part.A x.Term.P.Part.n x.Term.P.Part.c) x.Term.P.Part.xs L2 ∧ OwnF encCell 164 (.slice x.Term.S.Main.Cells.A x.Term.S.Main.Cells.n x.Term.S.Main.Cells.c) x.Term.S.Main.Cells.xs L3 ∧ OwnF encCell 164 (.slice x.Term.S.Alt.Cells.A x.Term.S.Alt.Cells.n x.Term.S.Alt.Cells.c) x.Term.S.Alt.Cells.xs L4 ∧ OwnF encI 3 (.slice x.Term.S.Tabs.A x.Term.S.Tabs.n x.Term.S.Tabs.c) x.Term.S.Tabs.xs L5 ∧ OwnN encRowR ownRowR 181 (.slice x.Term.S.Back.A x.Term.S.Back.n x.Term.S.Back.c) x.Term.S.Back.xs L6
theorem ownPaneR.fold {w0 w : World} {T : List Nat} {L1 L2 L3 L4 L5 L6 R : Hp} (x : PaneR) (hs : St w0 T (L1 ++ (L2 ++ (L3 ++ (L4 ++ (L5 ++ (L6 ++ R)))))) w) (o1 : OwnF encI 3 (.slice x.Term.P.Args.A x.Term.P.Args.n x.Term.P.Args.c) x.Term.P.Args.xs L1) (o2 : OwnF encB 5 (.slice x.Term.P.Part.A x.Term.P.Part.n x.Term.P.Part.c) x.Term.P.Part.xs L2) (o3 : OwnF encCell 164 (.slice x.Term.S.Main.Cells.A x.Term.S.Main.Cells.n x.Term.S.Main.Cells.c) x.Term.S.Main.Cells.xs L3) (o4 : OwnF encCell 164 (.slice x.Term.S.Alt.Cells.A x.Term.S.Alt.Cells.n x.Term.S.Alt.Cells.c) x.Term.S.Alt.Cells.xs L4) (o5 : OwnF encI 3 (.slice x.Term.S.Tabs.A x.Term.S.Tabs.n x.Term.S.Tabs.c) x.Term.S.Tabs.xs L5) (o6 : OwnN encRowR ownRowR 181 (.slice x.Term.S.Back.A x.Term.S.Back.n x.Term.S.Back.c) x.Term.S.Back.xs L6) : ∃ L, St w0 T (L ++ R) w ∧ ownPaneR x L := ⟨L1 ++ (L2 ++ (L3 ++ (L4 ++ (L5 ++ L6)))), by simpa only [List.append_assoc] using hs, L1, L2, L3, L4, L5, L6, rfl, o1, o2, o3, o4, o5, o6⟩
theorem ownPaneR.fl {w0 w : World} {T : List Nat} {L1 L2 L3 L4 L5 L6 L S1 S2 S3 S4 S5 S6 : Hp} [k1 : Fr1 L1 L S1] [k2 : Fr1 L2 S1 S2] [k3 : Fr1 L3 S2 S3] [k4 : Fr1 L4 S3 S4] [k5 : Fr1 L5 S4 S5] [k6 : Fr1 L6 S5 S6] {A1 : Option Addr} {n1 c1 : Nat} {x1 : _} {A2 : Option Addr} {n2 c2 : Nat} {x2 : _} {A3 : Option Addr} {n3 c3 : Nat} {x3 : _} {A4 : Option Addr} {n4 c4 : Nat} {x4 : _} {A5 : Option Addr} {n5 c5 : Nat} {x5 : _} {A6 : Option Addr} {n6 c6 : Nat} {x6 : _} (hs : St w0 T L w) (o1 : OwnF encI 3 (.slice A1 n1 c1) x1 L1) (o2 : OwnF encB 5 (.slice A2 n2 c2) x2 L2) (o3 : OwnF encCell 164 (.slice A3 n3 c3) x3 L3) (o4 : OwnF encCell 164 (.slice A4 n4 c4) x4 L4) (o5 : OwnF encI 3 (.slice A5 n5 c5) x5 L5) (o6 : OwnN encRowR ownRowR 181 (.slice A6 n6 c6) x6 L6) : ∃ L', St w0 T (L' ++ S6) w ∧ ownPaneR ⟨0, { data := #[] }, { data := #[] }, 0, 0, 0, ⟨⟨0, false, ⟨A1, n1, c1, x1⟩, ⟨A2, n2, c2, x2⟩⟩, ⟨0, 0, ⟨0, 0, ⟨A3, n3, c3, x3⟩⟩, ⟨0, 0, ⟨A4, n4, c4, x4⟩⟩, false, 0, 0, false, ⟨0, 0, false, false, false⟩, 0, 0, false, false, 0, 0, ⟨0, 0, false, false, false⟩, ⟨A5, n5, c5, x5⟩, 0, ⟨A6, n6, c6, x6⟩⟩⟩⟩ L' := ⟨L1 ++ (L2 ++ (L3 ++ (L4 ++ (L5 ++ L6)))), by simpa only [List.append_assoc] using hs.perm ((List.Perm.append_left L1 ((List.Perm.append_left L2 ((List.Perm.append_left L3 ((List.Perm.append_left L4 ((List.Perm.append_left L5 k6.pf).trans k5.pf)).trans k4.pf)).trans k3.pf)).trans k2.pf)).trans k1.pf), L1, L2, L3, L4, L5, L6, rfl, o1, o2, o3, o4, o5, o6⟩
theorem ownPaneR.op {w0 w : World} {T : List Nat} {L LL R : Hp} {x : PaneR} [k : Fr1 LL L R] (hs : St w0 T L w) (h : ownPaneR x LL) : ∃ L1 L2 L3 L4 L5 L6, St w0 T (L1 ++ (L2 ++ (L3 ++ (L4 ++ (L5 ++ (L6 ++ R)))))) w ∧ OwnF encI 3 (.slice x.Term.P.Args.A x.Term.P.Args.n x.Term.P.Args.c) x.Term.P.Args.xs L1 ∧ OwnF encB 5 (.slice x.Term.P.Part.A x.Term.P.Part.n x.Term.P.Part.c) x.Term.P.Part.xs L2 ∧ OwnF encCell 164 (.slice x.Term.S.Main.Cells.A x.Term.S.Main.Cells.n x.Term.S.Main.Cells.c) x.Term.S.Main.Cells.xs L3 ∧ OwnF encCell 164 (.slice x.Term.S.Alt.Cells.A x.Term.S.Alt.Cells.n x.Term.S.Alt.Cells.c) x.Term.S.Alt.Cells.xs L4 ∧ OwnF encI 3 (.slice x.Term.S.Tabs.A x.Term.S.Tabs.n x.Term.S.Tabs.c) x.Term.S.Tabs.xs L5 ∧ OwnN encRowR ownRowR 181 (.slice x.Term.S.Back.A x.Term.S.Back.n x.Term.S.Back.c) x.Term.S.Back.xs L6 := by
  have hs := hs.fr LL
  obtain ⟨L1, L2, L3, L4, L5, L6, rfl, h⟩ := h
  exact ⟨L1, L2, L3, L4, L5, L6, by simpa only [List.append_assoc] using hs, h⟩
theorem ownPaneR.open_ {w0 w : World} {T : List Nat} {L R : Hp} {x : PaneR} (hs : St w0 T (L ++ R) w) (h : ownPaneR x L) : ∃ L1 L2 L3 L4 L5 L6, St w0 T (L1 ++ (L2 ++ (L3 ++ (L4 ++ (L5 ++ (L6 ++ R)))))) w ∧ OwnF encI 3 (.slice x.Term.P.Args.A x.Term.P.Args.n x.Term.P.Args.c) x.Term.P.Args.xs L1 ∧ OwnF encB 5 (.slice x.Term.P.Part.A x.Term.P.Part.n x.Term.P.Part.c) x.Term.P.Part.xs L2 ∧ OwnF encCell 164 (.slice x.Term.S.Main.Cells.A x.Term.S.Main.Cells.n x.Term.S.Main.Cells.c) x.Term.S.Main.Cells.xs L3 ∧ OwnF encCell 164 (.slice x.Term.S.Alt.Cells.A x.Term.S.Alt.Cells.n x.Term.S.Alt.Cells.c) x.Term.S.Alt.Cells.xs L4 ∧ OwnF encI 3 (.slice x.Term.S.Tabs.A x.Term.S.Tabs.n x.Term.S.Tabs.c) x.Term.S.Tabs.xs L5 ∧ OwnN encRowR ownRowR 181 (.slice x.Term.S.Back.A x.Term.S.Back.n x.Term.S.Back.c) x.Term.S.Back.xs L6 := by
  obtain ⟨L1, L2, L3, L4, L5, L6, rfl, h⟩ := h
  exact ⟨L1, L2, L3, L4, L5, L6, by simpa only [List.append_assoc] using hs, h⟩
theorem ownPaneR.len {x : PaneR} {L : Hp} (h : ownPaneR x L) : x.Term.P.Args.xs.length = x.Term.P.Args.n ∧ x.Term.P.Part.xs.length = x.Term.P.Part.n ∧ x.Term.S.Main.Cells.xs.length = x.Term.S.Main.Cells.n ∧ x.Term.S.Alt.Cells.xs.length = x.Term.S.Alt.Cells.n ∧ x.Term.S.Tabs.xs.length = x.Term.S.Tabs.n ∧ x.Term.S.Back.xs.length = x.Term.S.Back.n := by
  obtain ⟨L1, L2, L3, L4, L5, L6, rfl, o1, o2, o3, o4, o5, o6⟩ := h
  exact ⟨(OwnF.len_ o1), (OwnF.len_ o2), (OwnF.len_ o3), (OwnF.len_ o4), (OwnF.len_ o5), (OwnN.len_ o6)⟩
theorem ownPaneR.ok {B : Nat} {w : World} {x : PaneR} {L : Hp} (h : ownPaneR x L) (hh : ∀ p, p ∈ L → w.heap[p.1]? = some p.2) (h2 : smPane B x.dat) : okPaneR B w x := by
  obtain ⟨L1, L2, L3, L4, L5, L6, rfl, o1, o2, o3, o4, o5, o6⟩ := h
  simp only [List.mem_append] at hh
  exact ⟨(h2.1), (h2.2.1), ⟨⟨SlF.ofOwn o1 (fun p hp => hh p (.inl hp)), OwnF.cap o1, (by have := OwnF.len_ o1; have h3 := h2.2.2.1.1; simp only [GridR.dat, PaneR.dat, ScrR.dat, TermR.dat, VpR.dat, smGrid, smPane, smScr, smTerm, smVp] at h3; omega), SlF.ofOwn o2 (fun p hp => hh p (.inr (.inl hp))), OwnF.cap o2, (by have := OwnF.len_ o2; have h3 := h2.2.2.1.2; simp only [GridR.dat, PaneR.dat, ScrR.dat, TermR.dat, VpR.dat, smGrid, smPane, smScr, smTerm, smVp] at h3; omega)⟩, ⟨⟨SlF.ofOwn o3 (fun p hp => hh p (.inr (.inr (.inl hp)))), OwnF.cap o3, (by have := OwnF.len_ o3; have h3 := h2.2.2.2.1; simp only [GridR.dat, PaneR.dat, ScrR.dat, TermR.dat, VpR.dat, smGrid, smPane, smScr, smTerm, smVp] at h3; omega)⟩, ⟨SlF.ofOwn o4 (fun p hp => hh p (.inr (.inr (.inr (.inl hp))))), OwnF.cap o4, (by have := OwnF.len_ o4; have h3 := h2.2.2.2.2.1; simp only [GridR.dat, PaneR.dat, ScrR.dat, TermR.dat, VpR.dat, smGrid, smPane, smScr, smTerm, smVp] at h3; omega)⟩, SlF.ofOwn o5 (fun p hp => hh p (.inr (.inr (.inr (.inr (.inl hp)))))), OwnF.cap o5, (by have := OwnF.len_ o5; have h3 := h2.2.2.2.2.2.1; simp only [GridR.dat, PaneR.dat, ScrR.dat, TermR.dat, VpR.dat, smGrid, smPane, smScr, smTerm, smVp] at h3; omega), OwnN.ok o6 (fun p hp => hh p (.inr (.inr (.inr (.inr (.inr (hp))))))) (fun y Li hy h3 hl => h3.ok hl (h2.2.2.2.2.2.2.2 _ (List.mem_map_of_mem hy))), OwnN.cap o6, (by have := OwnN.len_ o6; have h3 := h2.2.2.2.2.2.2.1; simp only [GridR.dat, PaneR.dat, ScrR.dat, TermR.dat, VpR.dat, smGrid, smPane, smScr, smTerm, smVp, List.length_map] at h3; omega)⟩⟩⟩
def cntEPane (x : PaneR) : Int := 35 + 1 * (x.Term.P.Args.xs.length : Int) + 1 * (x.Term.P.Part.xs.length : Int) + 6 * (x.Term.S.Main.Cells.xs.length : Int) + 6 * (x.Term.S.Alt.Cells.xs.length : Int) + 1 * (x.Term.S.Tabs.xs.length : Int) + cnts cntERow x.Term.S.Back.xs
structure WinR where
  Id : Int
  Name : ByteArray
  Tree : SlD NodeD
  Active : Int
  Zoom : Bool
def encWinR : Enc WinR := ⟨5, fun d => [i64 d.Id, .string d.Name, .slice d.Tree.A d.Tree.n d.Tree.c, i64 d.Active, .bool d.Zoom], ⟨0, { data := #[] }, ⟨none, 0, 0, []⟩, 0, false⟩, fun _ => rfl, fun x v h => by simp at h; rcases h with rfl | rfl | rfl | rfl | rfl <;> rfl, by decide⟩
structure okWinR (B : Nat) (w : World) (x : WinR) : Prop where
  Name_z : x.Name.size ≤ B
  Tree : SlF encNode w x.Tree.A x.Tree.n x.Tree.xs
  Tree_c : x.Tree.n ≤ x.Tree.c
  Tree_n : x.Tree.n ≤ B
structure sepWinR (T : List Nat) (x : WinR) : Prop where
  Tree : 0 < x.Tree.n → (adr x.Tree.A).block ∉ T
theorem okWinR.st0 {B : Nat} {w0 w : World} {L : Hp} {x : WinR} (h : okWinR B w0 x) (hs : St w0 [] L w) : okWinR B w x := ⟨h.Name_z, SlF.st0 h.Tree hs, h.Tree_c, h.Tree_n⟩
theorem okWinR.st {B : Nat} {w0 w : World} {T : List Nat} {L : Hp} {x : WinR} (h : okWinR B w0 x) (hs : St w0 T L w) (hp : sepWinR T x) : okWinR B w x := ⟨h.Name_z, SlF.st h.Tree hs hp.Tree, h.Tree_c, h.Tree_n⟩
theorem okWinR.le {B B' : Nat} {w : World} {x : WinR} (h : okWinR B w x) (hB : B ≤ B') : okWinR B' w x := ⟨Nat.le_trans h.Name_z hB, h.Tree, h.Tree_c, Nat.le_trans h.Tree_n hB⟩
def WinR.dat (x : WinR) : WinD := ⟨x.Id, x.Name, x.Tree.xs, x.Active, x.Zoom⟩
def smWin (B : Nat) (d : WinD) : Prop := (d.Name.size ≤ B) ∧ (d.Tree.length ≤ B)
theorem okWinR.to {B B' : Nat} {w : World} {x : WinR} (h : okWinR B w x) (h2 : smWin B' x.dat) : okWinR B' w x := ⟨h2.1, h.Tree, h.Tree_c, (by have := h.Tree.len; have h3 := h2.2; simp only [smWin, WinR.dat] at h3; omega)⟩
def totWin (d : WinD) : Nat := d.Name.size + d.Tree.length
theorem totWin_sm {B : Nat} {d : WinD} (h : totWin d ≤ B) : smWin B d := by
  simp only [totWin] at h
  unfold smWin
  exact ⟨(by omega), (by omega)⟩
def ownWinR (x : WinR) (L : Hp) : Prop := OwnF encNode 103 (.slice x.Tree.A x.Tree.n x.Tree.c) x.Tree.xs L
theorem ownWinR.len {x : WinR} {L : Hp} (h : ownWinR x L) : x.Tree.xs.length = x.Tree.n := by
  exact (OwnF.len_ h)
theorem ownWinR.ok {B : Nat} {w : World} {x : WinR} {L : Hp} (h : ownWinR x L) (hh : ∀ p, p ∈ L → w.heap[p.1]? = some p.2) (h2 : smWin B x.dat) : okWinR B w x := by
  exact ⟨(h2.1), SlF.ofOwn h (fun p hp => hh p hp), OwnF.cap h, (by have := OwnF.len_ h; have h3 := h2.2; simp only [WinR.dat, smWin] at h3; omega)⟩
def cntEWin (x : WinR) : Int := 4 + 3 * (x.Tree.xs.length : Int)
structure SessR where
  Name : ByteArray
  Wins : SlD Int
  Active : Int
def encSessR : Enc SessR := ⟨3, fun d => [.string d.Name, .slice d.Wins.A d.Wins.n d.Wins.c, i64 d.Active], ⟨{ data := #[] }, ⟨none, 0, 0, []⟩, 0⟩, fun _ => rfl, fun x v h => by simp at h; rcases h with rfl | rfl | rfl <;> rfl, by decide⟩
structure okSessR (B : Nat) (w : World) (x : SessR) : Prop where
  Name_z : x.Name.size ≤ B
  Wins : SlF encI w x.Wins.A x.Wins.n x.Wins.xs
  Wins_c : x.Wins.n ≤ x.Wins.c
  Wins_n : x.Wins.n ≤ B
structure sepSessR (T : List Nat) (x : SessR) : Prop where
  Wins : 0 < x.Wins.n → (adr x.Wins.A).block ∉ T
theorem okSessR.st0 {B : Nat} {w0 w : World} {L : Hp} {x : SessR} (h : okSessR B w0 x) (hs : St w0 [] L w) : okSessR B w x := ⟨h.Name_z, SlF.st0 h.Wins hs, h.Wins_c, h.Wins_n⟩
theorem okSessR.st {B : Nat} {w0 w : World} {T : List Nat} {L : Hp} {x : SessR} (h : okSessR B w0 x) (hs : St w0 T L w) (hp : sepSessR T x) : okSessR B w x := ⟨h.Name_z, SlF.st h.Wins hs hp.Wins, h.Wins_c, h.Wins_n⟩
theorem okSessR.le {B B' : Nat} {w : World} {x : SessR} (h : okSessR B w x) (hB : B ≤ B') : okSessR B' w x := ⟨Nat.le_trans h.Name_z hB, h.Wins, h.Wins_c, Nat.le_trans h.Wins_n hB⟩
def SessR.dat (x : SessR) : SessD := ⟨x.Name, x.Wins.xs, x.Active⟩
def smSess (B : Nat) (d : SessD) : Prop := (d.Name.size ≤ B) ∧ (d.Wins.length ≤ B)
theorem okSessR.to {B B' : Nat} {w : World} {x : SessR} (h : okSessR B w x) (h2 : smSess B' x.dat) : okSessR B' w x := ⟨h2.1, h.Wins, h.Wins_c, (by have := h.Wins.len; have h3 := h2.2; simp only [smSess, SessR.dat] at h3; omega)⟩
def totSess (d : SessD) : Nat := d.Name.size + d.Wins.length
theorem totSess_sm {B : Nat} {d : SessD} (h : totSess d ≤ B) : smSess B d := by
  simp only [totSess] at h
  unfold smSess
  exact ⟨(by omega), (by omega)⟩
def ownSessR (x : SessR) (L : Hp) : Prop := OwnF encI 3 (.slice x.Wins.A x.Wins.n x.Wins.c) x.Wins.xs L
theorem ownSessR.len {x : SessR} {L : Hp} (h : ownSessR x L) : x.Wins.xs.length = x.Wins.n := by
  exact (OwnF.len_ h)
theorem ownSessR.ok {B : Nat} {w : World} {x : SessR} {L : Hp} (h : ownSessR x L) (hh : ∀ p, p ∈ L → w.heap[p.1]? = some p.2) (h2 : smSess B x.dat) : okSessR B w x := by
  exact ⟨(h2.1), SlF.ofOwn h (fun p hp => hh p hp), OwnF.cap h, (by have := OwnF.len_ h; have h3 := h2.2; simp only [SessR.dat, smSess] at h3; omega)⟩
def cntESess (x : SessR) : Int := 2 + 1 * (x.Wins.xs.length : Int)
structure StateR where
  W : Int
  H : Int
  Limit : Int
  Next : Int
  Panes : SlD PaneR
  Wins : SlD WinR
  Sess : SlD SessR
def encStateR : Enc StateR := ⟨7, fun d => [i64 d.W, i64 d.H, i64 d.Limit, i64 d.Next, .slice d.Panes.A d.Panes.n d.Panes.c, .slice d.Wins.A d.Wins.n d.Wins.c, .slice d.Sess.A d.Sess.n d.Sess.c], ⟨0, 0, 0, 0, ⟨none, 0, 0, []⟩, ⟨none, 0, 0, []⟩, ⟨none, 0, 0, []⟩⟩, fun _ => rfl, fun x v h => by simp at h; rcases h with rfl | rfl | rfl | rfl | rfl | rfl | rfl <;> rfl, by decide⟩
structure okStateR (B : Nat) (w : World) (x : StateR) : Prop where
  Panes : SlN encPaneR (okPaneR B) w x.Panes.A x.Panes.n x.Panes.xs
  Panes_c : x.Panes.n ≤ x.Panes.c
  Panes_n : x.Panes.n ≤ B
  Wins : SlN encWinR (okWinR B) w x.Wins.A x.Wins.n x.Wins.xs
  Wins_c : x.Wins.n ≤ x.Wins.c
  Wins_n : x.Wins.n ≤ B
  Sess : SlN encSessR (okSessR B) w x.Sess.A x.Sess.n x.Sess.xs
  Sess_c : x.Sess.n ≤ x.Sess.c
  Sess_n : x.Sess.n ≤ B
structure sepStateR (T : List Nat) (x : StateR) : Prop where
  Panes : 0 < x.Panes.n → (adr x.Panes.A).block ∉ T
  Panes_a : ∀ y, y ∈ x.Panes.xs → sepPaneR T y
  Wins : 0 < x.Wins.n → (adr x.Wins.A).block ∉ T
  Wins_a : ∀ y, y ∈ x.Wins.xs → sepWinR T y
  Sess : 0 < x.Sess.n → (adr x.Sess.A).block ∉ T
  Sess_a : ∀ y, y ∈ x.Sess.xs → sepSessR T y
theorem okStateR.st0 {B : Nat} {w0 w : World} {L : Hp} {x : StateR} (h : okStateR B w0 x) (hs : St w0 [] L w) : okStateR B w x := ⟨⟨SlF.st0 h.Panes.sl hs, fun y hy => okPaneR.st0 (h.Panes.all y hy) hs⟩, h.Panes_c, h.Panes_n, ⟨SlF.st0 h.Wins.sl hs, fun y hy => okWinR.st0 (h.Wins.all y hy) hs⟩, h.Wins_c, h.Wins_n, ⟨SlF.st0 h.Sess.sl hs, fun y hy => okSessR.st0 (h.Sess.all y hy) hs⟩, h.Sess_c, h.Sess_n⟩
theorem okStateR.st {B : Nat} {w0 w : World} {T : List Nat} {L : Hp} {x : StateR} (h : okStateR B w0 x) (hs : St w0 T L w) (hp : sepStateR T x) : okStateR B w x := ⟨⟨SlF.st h.Panes.sl hs hp.Panes, fun y hy => okPaneR.st (h.Panes.all y hy) hs (hp.Panes_a y hy)⟩, h.Panes_c, h.Panes_n, ⟨SlF.st h.Wins.sl hs hp.Wins, fun y hy => okWinR.st (h.Wins.all y hy) hs (hp.Wins_a y hy)⟩, h.Wins_c, h.Wins_n, ⟨SlF.st h.Sess.sl hs hp.Sess, fun y hy => okSessR.st (h.Sess.all y hy) hs (hp.Sess_a y hy)⟩, h.Sess_c, h.Sess_n⟩
theorem okStateR.le {B B' : Nat} {w : World} {x : StateR} (h : okStateR B w x) (hB : B ≤ B') : okStateR B' w x := ⟨⟨h.Panes.sl, fun y hy => okPaneR.le (h.Panes.all y hy) hB⟩, h.Panes_c, Nat.le_trans h.Panes_n hB, ⟨h.Wins.sl, fun y hy => okWinR.le (h.Wins.all y hy) hB⟩, h.Wins_c, Nat.le_trans h.Wins_n hB, ⟨h.Sess.sl, fun y hy => okSessR.le (h.Sess.all y hy) hB⟩, h.Sess_c, Nat.le_trans h.Sess_n hB⟩
def StateR.dat (x : StateR) : StateD := ⟨x.W, x.H, x.Limit, x.Next, x.Panes.xs.map PaneR.dat, x.Wins.xs.map WinR.dat, x.Sess.xs.map SessR.dat⟩
def smState (B : Nat) (d : StateD) : Prop := (d.Panes.length ≤ B) ∧ (∀ y, y ∈ d.Panes → smPane B y) ∧ (d.Wins.length ≤ B) ∧ (∀ y, y ∈ d.Wins → smWin B y) ∧ (d.Sess.length ≤ B) ∧ (∀ y, y ∈ d.Sess → smSess B y)
theorem okStateR.to {B B' : Nat} {w : World} {x : StateR} (h : okStateR B w x) (h2 : smState B' x.dat) : okStateR B' w x := ⟨⟨h.Panes.sl, fun y hy => (h.Panes.all y hy).to (h2.2.1 _ (List.mem_map_of_mem hy))⟩, h.Panes_c, (by have := h.Panes.sl.len; have h3 := h2.1; simp only [smState, StateR.dat, List.length_map] at h3; omega), ⟨h.Wins.sl, fun y hy => (h.Wins.all y hy).to (h2.2.2.2.1 _ (List.mem_map_of_mem hy))⟩, h.Wins_c, (by have := h.Wins.sl.len; have h3 := h2.2.2.1; simp only [smState, StateR.dat, List.length_map] at h3; omega), ⟨h.Sess.sl, fun y hy => (h.Sess.all y hy).to (h2.2.2.2.2.2 _ (List.mem_map_of_mem hy))⟩, h.Sess_c, (by have := h.Sess.sl.len; have h3 := h2.2.2.2.2.1; simp only [smState, StateR.dat, List.length_map] at h3; omega)⟩
def totState (d : StateD) : Nat := tots totPane d.Panes + tots totWin d.Wins + tots totSess d.Sess
theorem totState_sm {B : Nat} {d : StateD} (h : totState d ≤ B) : smState B d := by
  simp only [totState] at h
  unfold smState
  exact ⟨(by have := tots_len totPane d.Panes; omega), (fun y hy => totPane_sm (by have := tots_mem (f := totPane) hy; omega)), (by have := tots_len totWin d.Wins; omega), (fun y hy => totWin_sm (by have := tots_mem (f := totWin) hy; omega)), (by have := tots_len totSess d.Sess; omega), (fun y hy => totSess_sm (by have := tots_mem (f := totSess) hy; omega))⟩
def ownStateR (x : StateR) (L : Hp) : Prop := ∃ L1 L2 L3, L = L1 ++ (L2 ++ L3) ∧ OwnN encPaneR ownPaneR 93 (.slice x.Panes.A x.Panes.n x.Panes.c) x.Panes.xs L1 ∧ OwnN encWinR ownWinR 58 (.slice x.Wins.A x.Wins.n x.Wins.c) x.Wins.xs L2 ∧ OwnN encSessR ownSessR 106 (.slice x.Sess.A x.Sess.n x.Sess.c) x.Sess.xs L3
theorem ownStateR.fold {w0 w : World} {T : List Nat} {L1 L2 L3 R : Hp} (x : StateR) (hs : St w0 T (L1 ++ (L2 ++ (L3 ++ R))) w) (o1 : OwnN encPaneR ownPaneR 93 (.slice x.Panes.A x.Panes.n x.Panes.c) x.Panes.xs L1) (o2 : OwnN encWinR ownWinR 58 (.slice x.Wins.A x.Wins.n x.Wins.c) x.Wins.xs L2) (o3 : OwnN encSessR ownSessR 106 (.slice x.Sess.A x.Sess.n x.Sess.c) x.Sess.xs L3) : ∃ L, St w0 T (L ++ R) w ∧ ownStateR x L := ⟨L1 ++ (L2 ++ L3), by simpa only [List.append_assoc] using hs, L1, L2, L3, rfl, o1, o2, o3⟩
theorem ownStateR.fl {w0 w : World} {T : List Nat} {L1 L2 L3 L S1 S2 S3 : Hp} [k1 : Fr1 L1 L S1] [k2 : Fr1 L2 S1 S2] [k3 : Fr1 L3 S2 S3] {A1 : Option Addr} {n1 c1 : Nat} {x1 : _} {A2 : Option Addr} {n2 c2 : Nat} {x2 : _} {A3 : Option Addr} {n3 c3 : Nat} {x3 : _} (hs : St w0 T L w) (o1 : OwnN encPaneR ownPaneR 93 (.slice A1 n1 c1) x1 L1) (o2 : OwnN encWinR ownWinR 58 (.slice A2 n2 c2) x2 L2) (o3 : OwnN encSessR ownSessR 106 (.slice A3 n3 c3) x3 L3) : ∃ L', St w0 T (L' ++ S3) w ∧ ownStateR ⟨0, 0, 0, 0, ⟨A1, n1, c1, x1⟩, ⟨A2, n2, c2, x2⟩, ⟨A3, n3, c3, x3⟩⟩ L' := ⟨L1 ++ (L2 ++ L3), by simpa only [List.append_assoc] using hs.perm ((List.Perm.append_left L1 ((List.Perm.append_left L2 k3.pf).trans k2.pf)).trans k1.pf), L1, L2, L3, rfl, o1, o2, o3⟩
theorem ownStateR.op {w0 w : World} {T : List Nat} {L LL R : Hp} {x : StateR} [k : Fr1 LL L R] (hs : St w0 T L w) (h : ownStateR x LL) : ∃ L1 L2 L3, St w0 T (L1 ++ (L2 ++ (L3 ++ R))) w ∧ OwnN encPaneR ownPaneR 93 (.slice x.Panes.A x.Panes.n x.Panes.c) x.Panes.xs L1 ∧ OwnN encWinR ownWinR 58 (.slice x.Wins.A x.Wins.n x.Wins.c) x.Wins.xs L2 ∧ OwnN encSessR ownSessR 106 (.slice x.Sess.A x.Sess.n x.Sess.c) x.Sess.xs L3 := by
  have hs := hs.fr LL
  obtain ⟨L1, L2, L3, rfl, h⟩ := h
  exact ⟨L1, L2, L3, by simpa only [List.append_assoc] using hs, h⟩
theorem ownStateR.ret {w w' : World} {K : List Nat} {L1 : Hp} {e : Ending} {D : StateD} {v0 : Int} {v1 : Int} {v2 : Int} {v3 : Int} {A1 : Option Addr} {n1 c1 : Nat} {x1 : _} {A2 : Option Addr} {n2 c2 : Nat} {x2 : _} {A3 : Option Addr} {n3 c3 : Nat} {x3 : _} (he : e = .returned (.agg (List.toArray [i64 v0, i64 v1, i64 v2, i64 v3, .slice A1 n1 c1, .slice A2 n2 c2, .slice A3 n3 c3]))) (hs : St w K L1 w') (ho : ownStateR ⟨0, 0, 0, 0, ⟨A1, n1, c1, x1⟩, ⟨A2, n2, c2, x2⟩, ⟨A3, n3, c3, x3⟩⟩ L1) (hd : (⟨v0, v1, v2, v3, ⟨A1, n1, c1, x1⟩, ⟨A2, n2, c2, x2⟩, ⟨A3, n3, c3, x3⟩⟩ : StateR).dat = D) : ∃ r L1, e = .returned (.agg #[i64 r.W, i64 r.H, i64 r.Limit, i64 r.Next, .slice r.Panes.A r.Panes.n r.Panes.c, .slice r.Wins.A r.Wins.n r.Wins.c, .slice r.Sess.A r.Sess.n r.Sess.c]) ∧ St w K L1 w' ∧ ownStateR r L1 ∧ r.dat = D := ⟨⟨v0, v1, v2, v3, ⟨A1, n1, c1, x1⟩, ⟨A2, n2, c2, x2⟩, ⟨A3, n3, c3, x3⟩⟩, L1, he, hs, ho, hd⟩
theorem ownStateR.open_ {w0 w : World} {T : List Nat} {L R : Hp} {x : StateR} (hs : St w0 T (L ++ R) w) (h : ownStateR x L) : ∃ L1 L2 L3, St w0 T (L1 ++ (L2 ++ (L3 ++ R))) w ∧ OwnN encPaneR ownPaneR 93 (.slice x.Panes.A x.Panes.n x.Panes.c) x.Panes.xs L1 ∧ OwnN encWinR ownWinR 58 (.slice x.Wins.A x.Wins.n x.Wins.c) x.Wins.xs L2 ∧ OwnN encSessR ownSessR 106 (.slice x.Sess.A x.Sess.n x.Sess.c) x.Sess.xs L3 := by
  obtain ⟨L1, L2, L3, rfl, h⟩ := h
  exact ⟨L1, L2, L3, by simpa only [List.append_assoc] using hs, h⟩
theorem ownStateR.len {x : StateR} {L : Hp} (h : ownStateR x L) : x.Panes.xs.length = x.Panes.n ∧ x.Wins.xs.length = x.Wins.n ∧ x.Sess.xs.length = x.Sess.n := by
  obtain ⟨L1, L2, L3, rfl, o1, o2, o3⟩ := h
  exact ⟨(OwnN.len_ o1), (OwnN.len_ o2), (OwnN.len_ o3)⟩
theorem ownStateR.ok {B : Nat} {w : World} {x : StateR} {L : Hp} (h : ownStateR x L) (hh : ∀ p, p ∈ L → w.heap[p.1]? = some p.2) (h2 : smState B x.dat) : okStateR B w x := by
  obtain ⟨L1, L2, L3, rfl, o1, o2, o3⟩ := h
  simp only [List.mem_append] at hh
  exact ⟨OwnN.ok o1 (fun p hp => hh p (.inl hp)) (fun y Li hy h3 hl => h3.ok hl (h2.2.1 _ (List.mem_map_of_mem hy))), OwnN.cap o1, (by have := OwnN.len_ o1; have h3 := h2.1; simp only [StateR.dat, smState, List.length_map] at h3; omega), OwnN.ok o2 (fun p hp => hh p (.inr (.inl hp))) (fun y Li hy h3 hl => h3.ok hl (h2.2.2.2.1 _ (List.mem_map_of_mem hy))), OwnN.cap o2, (by have := OwnN.len_ o2; have h3 := h2.2.2.1; simp only [StateR.dat, smState, List.length_map] at h3; omega), OwnN.ok o3 (fun p hp => hh p (.inr (.inr (hp)))) (fun y Li hy h3 hl => h3.ok hl (h2.2.2.2.2.2 _ (List.mem_map_of_mem hy))), OwnN.cap o3, (by have := OwnN.len_ o3; have h3 := h2.2.2.2.2.1; simp only [StateR.dat, smState, List.length_map] at h3; omega)⟩
def endState (k : Int) (x : StateR) : Int := (((k + cnts cntEPane x.Panes.xs) + cnts cntEWin x.Wins.xs) + cnts cntESess x.Sess.xs)
theorem findI_mem {α : Type} {p : α → Bool} {xs : List α} : 0 ≤ findI p xs ↔ ∃ x, x ∈ xs ∧ p x = true := by
 rcases findI_cases (p := p) (xs := xs) with ⟨h1, h2⟩ | ⟨i, h, h1, h2⟩
 ·rw [h1]
  refine ⟨fun h => by omega, fun ⟨x, hx, hp⟩ => ?_⟩
  rw [h2 x hx] at hp; cases hp
 ·rw [h1]
  exact ⟨fun _ => ⟨xs[i], List.getElem_mem h, h2.1⟩, fun _ => by omega⟩
theorem find_findI {α : Type} {p : α → Bool} : ∀ {xs : List α}, xs.find? p = if 0 ≤ findI p xs then xs[(findI p xs).toNat]? else none := by
 intro xs
 rcases findI_cases (p := p) (xs := xs) with ⟨h1, h2⟩ | ⟨i, h, h1, h2, h3⟩
 ·rw [h1, if_neg (by omega), List.find?_eq_none]
  intro x hx; rw [h2 x hx]; decide
 ·rw [h1, if_pos (by omega), Int.toNat_natCast, List.getElem?_eq_getElem h, List.find?_eq_some_iff_getElem]
  exact ⟨by simpa using h2, i, h, rfl, fun j hj => by rw [h3 j hj]; rfl⟩
def winHas (p : Int) (w : WinD) : Bool := hasI (leavesL w.Tree) p
def areaW (s : StateD) (p : Int) (w : WinD) : Int × Int := if (w.Zoom && decide (w.Active = p)) = true then (s.W, s.H) else ((placeR w.Tree s.W s.H p).W, (placeR w.Tree s.W s.H p).H)
def areaD (s : StateD) (p : Int) : Int × Int :=
 match s.Wins.find? (winHas p) with
 | none => (0, 0)
 | some w => areaW s p w
def idAsc (l : List Int) : Bool := (List.range l.length).all fun i => decide (i = 0) || decide (iat l (i - 1) < iat l i)
theorem idAsc_iff {l : List Int} : idAsc l = true ↔ ∀ i, 0 < i → i < l.length → iat l (i - 1) < iat l i := by
 unfold idAsc
 rw [List.all_eq_true]
 constructor
 ·intro h i h0 hi
  have := h i (List.mem_range.2 hi)
  rw [Bool.or_eq_true, decide_eq_true_eq, decide_eq_true_eq] at this
  omega
 ·intro h i hi
  rw [Bool.or_eq_true, decide_eq_true_eq, decide_eq_true_eq]
  by_cases h0 : i = 0
  ·exact .inl h0
  ·exact .inr (h i (by omega) (List.mem_range.1 hi))
theorem idAsc_lt {l : List Int} (h : idAsc l = true) : ∀ {j i : Nat}, j < i → i < l.length → iat l j < iat l i := by
 rw [idAsc_iff] at h
 intro j i
 induction i with
 | zero => intro hj; omega
 | succ i ih =>
  intro hj hi
  have h1 := h (i + 1) (by omega) hi
  rw [Nat.add_sub_cancel] at h1
  by_cases he : j = i
  ·subst he; exact h1
  ·have := ih (by omega) (by omega)
   omega
theorem idAsc_nodup {l : List Int} (h : idAsc l = true) : l.Nodup := by
 unfold List.Nodup
 rw [List.pairwise_iff_getElem]
 intro i j hi hj hij he
 have h1 := idAsc_lt h hij hj
 have e1 := gat_get (F := encI) (xs := l) (k := i) hi
 have e2 := gat_get (F := encI) (xs := l) (k := j) hj
 rw [List.getElem?_eq_getElem hi] at e1
 rw [List.getElem?_eq_getElem hj] at e2
 have e3 := Option.some.inj e1
 have e4 := Option.some.inj e2
 unfold iat at h1
 rw [← e3, ← e4, he] at h1
 omega
theorem perm_of_sub : ∀ {a b : List Int}, a.Nodup → (∀ x, x ∈ a → x ∈ b) → b.length ≤ a.length → a.Perm b
 | [], b, _, _, hl => by
  have : b = [] := List.eq_nil_of_length_eq_zero (by simpa using hl)
  rw [this]
 | x :: r, b, hn, hs, hl => by
  have hx : x ∈ b := hs x List.mem_cons_self
  have hp := List.perm_cons_erase hx
  rw [List.nodup_cons] at hn
  have hr : ∀ y, y ∈ r → y ∈ b.erase x := fun y hy => (List.mem_erase_of_ne (fun e => hn.1 (by rw [← e]; exact hy))).2 (hs y (List.mem_cons_of_mem _ hy))
  have hlen := hp.length_eq
  rw [List.length_cons] at hlen hl
  exact ((perm_of_sub hn.2 hr (by omega)).cons x).trans hp.symm
theorem sortI_eq {a b : List Int} : sortI a = sortI b ↔ a.Perm b := by
 constructor
 ·intro h
  exact (sortI_perm a).symm.trans (h ▸ sortI_perm b)
 ·intro h
  exact List.Perm.eq_of_pairwise (le := fun x y : Int => x ≤ y) (fun x y _ _ h1 h2 => by omega) (sortI_sorted a) (sortI_sorted b) ((sortI_perm a).trans (h.trans (sortI_perm b).symm))
theorem once_iff {a b : List Int} (hb : b.Nodup) : sortI a = sortI b ↔ (a.Nodup ∧ (∀ x, x ∈ a → x ∈ b)) ∧ a.length = b.length := by
 rw [sortI_eq]
 constructor
 ·intro h
  exact ⟨⟨h.nodup_iff.2 hb, fun x hx => h.mem_iff.1 hx⟩, h.length_eq⟩
 ·rintro ⟨⟨h1, h2⟩, h3⟩
  exact perm_of_sub h1 h2 (by omega)
def pIds (s : StateD) : List Int := s.Panes.map (·.Id)
def wIds (s : StateD) : List Int := s.Wins.map (·.Id)
def isLive (p : PaneD) : Bool := decide (p.Life = 1)
def pidsL (l : List PaneD) : List Int := (l.filter isLive).map (·.Pid)
def paneB (s : StateD) (p : PaneD) : Bool := (paneOk p && decide (p.Id < s.Next)) && decide (p.Term.S.Limit = s.Limit)
def winB (s : StateD) (w : WinD) : Bool := ((decide (1 ≤ w.Id) && decide (w.Id < s.Next)) && (wordOk w.Name && placesOk w.Tree s.W s.H)) && hasI (panesL w.Tree) w.Active
def sessB (x : SessD) : Bool := wordOk x.Name && hasI x.Wins x.Active
def treesL (l : List WinD) : List Int := l.flatMap fun w => panesL w.Tree
def sessL (l : List SessD) : List Int := l.flatMap (·.Wins)
def panesC (s : StateD) : Bool := s.Panes.all (paneB s) && idAsc (pIds s)
def pidsC (s : StateD) : Bool := decide (pidsL s.Panes).Nodup
def noWin (s : StateD) : Bool := s.Panes.all fun p => !hasI (wIds s) p.Id
def areaB (s : StateD) (p : PaneD) : Bool := decide (areaD s p.Id = (p.Term.S.W, p.Term.S.H))
def areasC (s : StateD) : Bool := s.Panes.all (areaB s)
def winsC (s : StateD) : Bool := s.Wins.all (winB s) && idAsc (wIds s)
def namesC (s : StateD) : Bool := decide (s.Sess.map (·.Name)).Nodup
def sessC (s : StateD) : Bool := s.Sess.all sessB && namesC s
def perm1 (s : StateD) : Bool := decide (sortI (treesL s.Wins) = sortI (pIds s))
def perm2 (s : StateD) : Bool := decide (sortI (sessL s.Sess) = sortI (wIds s))
def all1 (s : StateD) : Bool := (decide (treesL s.Wins).Nodup && (treesL s.Wins).all fun x => hasI (pIds s) x) && decide ((treesL s.Wins).length = s.Panes.length)
def all2 (s : StateD) : Bool := (decide (sessL s.Sess).Nodup && (sessL s.Sess).all fun x => hasI (wIds s) x) && decide ((sessL s.Sess).length = s.Wins.length)
def panesOkI (s : StateD) : Bool := ((panesC s && noWin s) && pidsC s) && decide (s.Panes.length ≤ 24)
def winsOkI (s : StateD) : Bool := winsC s && (decide (s.Wins.length ≤ 12) && perm1 s)
def sessOkI (s : StateD) : Bool := sessC s && (decide (s.Sess.length ≤ 8) && perm2 s)
def numsC (s : StateD) : Bool := (isSize s.W s.H && within s.Limit 0 100) && isId s.Next
def stateOk (s : StateD) : Bool := (numsC s && (panesOkI s && (winsOkI s && sessOkI s))) && areasC s
def winsOkS (s : StateD) : Bool := (winsC s && noWin s) && all1 s
def sessOkS (s : StateD) : Bool := sessC s && all2 s
def panesOkS (s : StateD) : Bool := (panesC s && areasC s) && pidsC s
def lensC (s : StateD) : Bool := (decide (s.Panes.length ≤ 24) && decide (s.Wins.length ≤ 12)) && decide (s.Sess.length ≤ 8)
def stateOkS (s : StateD) : Bool := (numsC s && lensC s) && (winsOkS s && (sessOkS s && panesOkS s))
theorem perm1_all {s : StateD} (h : panesC s = true) : perm1 s = all1 s := by
 unfold panesC at h
 rw [Bool.and_eq_true] at h
 have hn := idAsc_nodup h.2
 rw [Bool.eq_iff_iff]
 unfold perm1 all1
 rw [decide_eq_true_eq, once_iff hn, Bool.and_eq_true, Bool.and_eq_true, decide_eq_true_eq, decide_eq_true_eq, List.all_eq_true]
 have hl : (pIds s).length = s.Panes.length := by unfold pIds; rw [List.length_map]
 rw [hl]
 constructor
 ·rintro ⟨⟨h1, h2⟩, h3⟩; exact ⟨⟨h1, fun x hx => by unfold hasI; exact decide_eq_true (h2 x hx)⟩, h3⟩
 ·rintro ⟨⟨h1, h2⟩, h3⟩; exact ⟨⟨h1, fun x hx => by have := h2 x hx; unfold hasI at this; exact of_decide_eq_true this⟩, h3⟩
theorem perm2_all {s : StateD} (h : winsC s = true) : perm2 s = all2 s := by
 unfold winsC at h
 rw [Bool.and_eq_true] at h
 have hn := idAsc_nodup h.2
 rw [Bool.eq_iff_iff]
 unfold perm2 all2
 rw [decide_eq_true_eq, once_iff hn, Bool.and_eq_true, Bool.and_eq_true, decide_eq_true_eq, decide_eq_true_eq, List.all_eq_true]
 have hl : (wIds s).length = s.Wins.length := by unfold wIds; rw [List.length_map]
 rw [hl]
 constructor
 ·rintro ⟨⟨h1, h2⟩, h3⟩; exact ⟨⟨h1, fun x hx => by unfold hasI; exact decide_eq_true (h2 x hx)⟩, h3⟩
 ·rintro ⟨⟨h1, h2⟩, h3⟩; exact ⟨⟨h1, fun x hx => by have := h2 x hx; unfold hasI at this; exact of_decide_eq_true this⟩, h3⟩
theorem stateOk_S (s : StateD) : stateOkS s = stateOk s := by
 unfold stateOkS stateOk winsOkS sessOkS panesOkS lensC panesOkI winsOkI sessOkI
 cases h1 : panesC s with
 | false => simp
 | true =>
  cases h2 : winsC s with
  | false => simp
  | true =>
   rw [perm1_all h1, perm2_all h2]
   cases numsC s <;> cases noWin s <;> cases pidsC s <;> cases areasC s <;> cases sessC s <;> cases all1 s <;> cases all2 s <;> simp [Bool.and_comm, Bool.and_left_comm, Bool.and_assoc]
theorem gat_map {α β : Type} {F : Enc α} {G : Enc β} {f : α → β} {xs : List α} {i : Nat} (h : i < xs.length) : gat G (xs.map f) i = f (gat F xs i) := by
 have e1 := gat_get (F := F) h
 have e2 := gat_get (F := G) (xs := xs.map f) (k := i) (by rw [List.length_map]; exact h)
 rw [List.getElem?_map, e1] at e2
 exact (Option.some.inj e2).symm
theorem all_map_gat {α β : Type} {F : Enc α} {f : α → β} {p : β → Bool} {xs : List α} : (xs.map f).all p = true ↔ ∀ i, i < xs.length → p (f (gat F xs i)) = true := by
 rw [List.all_eq_true]
 constructor
 ·intro h i hi
  exact h _ (List.mem_map_of_mem (gat_mem hi))
 ·intro h x hx
  obtain ⟨y, hy, rfl⟩ := List.mem_map.1 hx
  obtain ⟨i, hi, rfl⟩ := List.mem_iff_getElem.1 hy
  have e1 := gat_get (F := F) hi
  rw [List.getElem?_eq_getElem hi] at e1
  rw [Option.some.inj e1]
  exact h i hi
theorem idAsc_gat {α : Type} {F : Enc α} {f : α → Int} {xs : List α} : idAsc (xs.map f) = true ↔ ∀ i, 0 < i → i < xs.length → f (gat F xs (i - 1)) < f (gat F xs i) := by
 rw [idAsc_iff, List.length_map]
 constructor
 ·intro h i h0 hi
  have := h i h0 hi
  unfold iat at this
  rwa [gat_map (F := F) (by omega), gat_map (F := F) hi] at this
 ·intro h i h0 hi
  unfold iat
  rw [gat_map (F := F) (by omega), gat_map (F := F) hi]
  exact h i h0 hi
theorem pIds_R (s : StateR) : pIds s.dat = s.Panes.xs.map (·.Id) := by
 show (s.Panes.xs.map PaneR.dat).map (·.Id) = _
 rw [List.map_map]; rfl
theorem wIds_R (s : StateR) : wIds s.dat = s.Wins.xs.map (·.Id) := by
 show (s.Wins.xs.map WinR.dat).map (·.Id) = _
 rw [List.map_map]; rfl
theorem panesC_iff {s : StateR} : panesC s.dat = true ↔ ∀ i, i < s.Panes.xs.length → paneB s.dat (gat encPaneR s.Panes.xs i).dat = true ∧ (0 < i → (gat encPaneR s.Panes.xs (i - 1)).Id < (gat encPaneR s.Panes.xs i).Id) := by
 unfold panesC
 rw [Bool.and_eq_true, pIds_R, idAsc_gat (F := encPaneR)]
 rw [show s.dat.Panes = s.Panes.xs.map PaneR.dat from rfl, all_map_gat (F := encPaneR)]
 exact ⟨fun ⟨h1, h2⟩ i hi => ⟨h1 i hi, fun h0 => h2 i h0 hi⟩, fun h => ⟨fun i hi => (h i hi).1, fun i h0 hi => (h i hi).2 h0⟩⟩
theorem winsC_iff {s : StateR} : winsC s.dat = true ↔ ∀ i, i < s.Wins.xs.length → winB s.dat (gat encWinR s.Wins.xs i).dat = true ∧ (0 < i → (gat encWinR s.Wins.xs (i - 1)).Id < (gat encWinR s.Wins.xs i).Id) := by
 unfold winsC
 rw [Bool.and_eq_true, wIds_R, idAsc_gat (F := encWinR)]
 rw [show s.dat.Wins = s.Wins.xs.map WinR.dat from rfl, all_map_gat (F := encWinR)]
 exact ⟨fun ⟨h1, h2⟩ i hi => ⟨h1 i hi, fun h0 => h2 i h0 hi⟩, fun h => ⟨fun i hi => (h i hi).1, fun i h0 hi => (h i hi).2 h0⟩⟩
theorem noWin_iff {s : StateR} : noWin s.dat = true ↔ ∀ i, i < s.Panes.xs.length → hasI (wIds s.dat) (gat encPaneR s.Panes.xs i).Id = false := by
 unfold noWin
 rw [show s.dat.Panes = s.Panes.xs.map PaneR.dat from rfl, all_map_gat (F := encPaneR)]
 exact ⟨fun h i hi => by have := h i hi; rw [Bool.not_eq_true'] at this; exact this, fun h i hi => by rw [Bool.not_eq_true']; exact h i hi⟩
theorem areasC_iff {s : StateR} : areasC s.dat = true ↔ ∀ i, i < s.Panes.xs.length → areaB s.dat (gat encPaneR s.Panes.xs i).dat = true := by
 unfold areasC
 rw [show s.dat.Panes = s.Panes.xs.map PaneR.dat from rfl, all_map_gat (F := encPaneR)]
theorem winAt_has {s : StateD} {p : Int} : 0 ≤ findI (fun q : WinD => decide (q.Id = p)) s.Wins ↔ hasI (wIds s) p = true := by
 rw [findI_mem]
 unfold hasI wIds
 rw [decide_eq_true_eq, List.mem_map]
 exact ⟨fun ⟨x, hx, h⟩ => ⟨x, hx, of_decide_eq_true h⟩, fun ⟨x, hx, h⟩ => ⟨x, hx, decide_eq_true h⟩⟩
theorem paneAt_has {s : StateD} {p : Int} : 0 ≤ findI (fun q : PaneD => decide (q.Id = p)) s.Panes ↔ hasI (pIds s) p = true := by
 rw [findI_mem]
 unfold hasI pIds
 rw [decide_eq_true_eq, List.mem_map]
 exact ⟨fun ⟨x, hx, h⟩ => ⟨x, hx, of_decide_eq_true h⟩, fun ⟨x, hx, h⟩ => ⟨x, hx, decide_eq_true h⟩⟩
theorem pidsL_snoc {l : List PaneD} {p : PaneD} : pidsL (l ++ [p]) = pidsL l ++ if isLive p = true then [p.Pid] else [] := by
 unfold pidsL
 rw [List.filter_append, List.map_append]
 cases h : isLive p <;> simp [h]
theorem pidsL_take {xs : List PaneR} {i : Nat} (h : i < xs.length) : pidsL ((xs.take (i + 1)).map PaneR.dat) = pidsL ((xs.take i).map PaneR.dat) ++ if (gat encPaneR xs i).Life = 1 then [(gat encPaneR xs i).Pid] else [] := by
 rw [map_take_succ (F := encPaneR) h, pidsL_snoc]
 congr 1
 show (if isLive (gat encPaneR xs i).dat = true then _ else _) = _
 unfold isLive
 simp only [decide_eq_true_eq]
 rfl
theorem pidsC_sub {s : StateR} {i : Nat} (h : ¬ (pidsL ((s.Panes.xs.take i).map PaneR.dat)).Nodup) : pidsC s.dat = false := by
 unfold pidsC
 rw [decide_eq_false_iff_not]
 intro hn
 apply h
 have hs : ((s.Panes.xs.take i).map PaneR.dat).Sublist s.dat.Panes := (List.take_sublist _ _).map _
 exact hn.sublist ((hs.filter _).map _)
theorem pidsC_all {s : StateR} {i : Nat} (hi : s.Panes.xs.length ≤ i) (h : (pidsL ((s.Panes.xs.take i).map PaneR.dat)).Nodup) : pidsC s.dat = true := by
 rw [List.take_of_length_le hi] at h
 exact decide_eq_true h
theorem treesL_snoc {xs : List WinR} {i : Nat} (h : i < xs.length) : treesL ((xs.take (i + 1)).map WinR.dat) = treesL ((xs.take i).map WinR.dat) ++ panesL (gat encWinR xs i).Tree.xs := by
 rw [map_take_succ (F := encWinR) h]
 unfold treesL
 rw [List.flatMap_append]
 simp [WinR.dat]
theorem sessL_snoc {xs : List SessR} {i : Nat} (h : i < xs.length) : sessL ((xs.take (i + 1)).map SessR.dat) = sessL ((xs.take i).map SessR.dat) ++ (gat encSessR xs i).Wins.xs := by
 rw [map_take_succ (F := encSessR) h]
 unfold sessL
 rw [List.flatMap_append]
 simp [SessR.dat]
theorem sessL_sum {l : List SessD} : (sessL l).length ≤ (l.map totSess).sum := by
 induction l with
 | nil => exact Nat.zero_le _
 | cons x r ih =>
  have e : sessL (x :: r) = x.Wins ++ sessL r := by simp [sessL]
  rw [e, List.length_append, List.map_cons, List.sum_cons]
  have : x.Wins.length ≤ totSess x := by unfold totSess; omega
  omega
theorem ids_take {α : Type} {F : Enc α} {f : α → Int} {xs : List α} {i : Nat} (h : i < xs.length) : (xs.take (i + 1)).map f = (xs.take i).map f ++ [f (gat F xs i)] := by
 rw [List.take_add_one, gat_get (F := F) h, List.map_append]
 rfl
theorem sessC_names {s : StateR} : namesC s.dat = true ↔ ∀ i, i < s.Sess.xs.length → findI (fun q : SessD => decide (q.Name = (gat encSessR s.Sess.xs i).Name)) s.dat.Sess = i := by
 have hl : s.dat.Sess = s.Sess.xs.map SessR.dat := rfl
 have hN : s.dat.Sess.map (·.Name) = s.Sess.xs.map (·.Name) := by rw [hl, List.map_map]; rfl
 unfold namesC
 rw [decide_eq_true_eq, hN]
 have hat : ∀ j (hj : j < s.Sess.xs.length), s.Sess.xs[j] = gat encSessR s.Sess.xs j := fun j hj => by
  have e1 := gat_get (F := encSessR) hj
  rw [List.getElem?_eq_getElem hj] at e1
  exact Option.some.inj e1
 constructor
 ·intro hn i hi
  rw [hl, findI_map]
  refine findI_some (F := encSessR) (p := fun q : SessR => decide (q.dat.Name = (gat encSessR s.Sess.xs i).Name)) hi (fun j hj => ?_) (decide_eq_true rfl)
  rw [decide_eq_false_iff_not]
  intro he
  unfold List.Nodup at hn
  rw [List.pairwise_iff_getElem] at hn
  refine hn j i (by rw [List.length_map]; omega) (by rw [List.length_map]; exact hi) hj ?_
  rw [List.getElem_map, List.getElem_map, hat j (by omega), hat i hi]
  exact he
 ·intro h
  unfold List.Nodup
  rw [List.pairwise_iff_getElem]
  intro i j hi hj hij he
  rw [List.length_map] at hj
  rw [List.getElem_map, List.getElem_map, hat i (by omega), hat j hj] at he
  have he2 : (gat encSessR s.Sess.xs i).Name = (gat encSessR s.Sess.xs j).Name := he
  have h1 := h i (by omega)
  have h2 := h j hj
  rw [he2, h2] at h1
  omega
theorem inf181 : Tryz.prog.info? 181 = some Tryz.t181 := by kernel_rfl
set_option maxHeartbeats 4000000 in
theorem k37_ (a : GridR) (w : World) (f_a : okGridR 549755813888 w a) :
    Calls Tryz.prog 246 #[.agg #[i64 a.W, i64 a.H, .slice a.Cells.A a.Cells.n a.Cells.c]] w fun e w' => ∃ r L1, e = .returned (.agg #[i64 r.W, i64 r.H, .slice r.Cells.A r.Cells.n r.Cells.c]) ∧ St w [] L1 w' ∧ ownGridR r L1 ∧ r.dat = a.dat := by
 have nb_a_Cells := f_a.Cells_n
 have nl_a_Cells := f_a.Cells.len
 refine enter 15 Tryz.func246 rfl Tryz.ntmps246 rfl rfl ?_
 have hs1 := St.init w
 refine WC.sr (WL.bx hs1 rfl (fun b2 _ hs3 => WL.al hs3 Tryz.zeroValue76 rfl rfl (fun b4 _ hs5 => WL.nil (WC.sr (WL.al hs5 Tryz.zeroValue76 rfl rfl (fun b6 _ hs7 => WL.nil (WC.sr ?_)))))))
 refine WL.r 3 hs7 [2] rfl (WL.st tbk hs7 0 rfl rfl (fun _ hs8 => WL.nil (WC.sr (WL.r 3 hs8 [2] rfl (WL.st tbk hs8 0 rfl rfl (fun _ hs9 => WL.nil (WC.sr ?_)))))))
 refine WL.r 2 hs9 [2] rfl (WL.cl Tryz.call279 rfl (k11_ _ _ _ _ _ (SlF.st0 f_a.Cells hs9) ?_) ?_)
 · first | assumption | rfl | omega
 rintro _ whs10 ⟨A11, c12, L1_13, rfl, hs10, ho14⟩
 replace hs10 := hs9.callF hs10
 refine ⟨_, rfl, ?_⟩
 replace hs10 := St.back [_, _, _] hs10
 refine WL.r 1 hs10 [] rfl (WL.st tbk hs10 0 rfl rfl (fun _ hs15 => WL.nil (WC.sr (WL.r 1 hs15 [0] rfl (WL.st tbk hs15 1 rfl rfl (fun _ hs16 => WL.nil (WC.ret ?_)))))))
 refine retV1 rfl (resV.cellA tbk hs16 1 rfl rfl rfl rfl) (⟨⟨a.W, a.H, SlD.of ho14⟩, _, rfl, (St.keep1 (hs16.fr L1_13)), ?_, ?_⟩)
 · exact ho14
 · exact GridD.ext' rfl rfl rfl
set_option maxHeartbeats 4000000 in
theorem k38_ (a : GridR) (left : Int) (w : World) (f_a : okGridR 9223372036854775807 w a) (h1 : 0 ≤ left) (h2 : left ≤ 1048576) :
    Calls Tryz.prog 244 #[.agg #[i64 a.W, i64 a.H, .slice a.Cells.A a.Cells.n a.Cells.c], i64 left] w fun e w' => e = .returned (.int .i64 (szR left (totGrid a.dat))) ∧ St w [] [] w' := by
 have nb_a_Cells := f_a.Cells_n
 have nl_a_Cells := f_a.Cells.len
 refine enter 12 Tryz.func244 rfl Tryz.ntmps244 rfl rfl ?_
 have hs1 := St.init w
 refine WC.sr (WL.bx hs1 rfl (fun b2 _ hs3 => WL.r 1 hs3 [] rfl (WL.nil (WC.sr (WL.r 3 hs3 [0] rfl ?_)))))
 refine WL.cl Tryz.call277 rfl (k13_ _ _ _ _ _ _ (SlF.st0 f_a.Cells hs3) ?_ ?_ ?_) ?_
 · first | assumption | omega
 · first | assumption | omega | exact szR_b (by assumption) (by omega) (by first | assumption | omega)
 · first | assumption | omega
 rintro _ whs4 ⟨rfl, hs4⟩
 replace hs4 := hs3.call0 hs4
 refine ⟨_, rfl, WL.r 1 hs4 [] rfl (WL.nil (WC.seq (fun K5 hK5 => WC.r1 hs4 [] rfl ?_)))⟩
 refine WC.cD rfl (fun qh6 => ?_) (fun qh6 => ?_)
 ·try have soh6 := szR_ok qh6 (by omega)
  try have sbh6 := szR_b qh6 (by omega) (by first | assumption | omega)
  try have snh6 := szR_no qh6
  refine WC.r1 hs4 [] rfl (WC.ret (tkR ?_))
  clear hK5
  refine rtv rfl rfl hs4 ?_
  simp only [totGrid, GridR.dat] at *; first | (rw [szR_lt (by omega)]; done) | (refine congrArg (Value.int _) ?_; symm; refine (szR_le ?_).trans ?_ <;> omega) | rfl
 try have soh6 := szR_ok qh6 (by omega)
 try have sbh6 := szR_b qh6 (by omega) (by first | assumption | omega)
 try have snh6 := szR_no qh6
 refine WC.skip (hK5 _ _ (WC.r1 hs4 [] rfl (WC.ret (rtv rfl rfl hs4 ?_))))
 simp only [totGrid, GridR.dat] at *; first | (rw [szR_lt (by omega)]; done) | (refine congrArg (Value.int _) ?_; symm; refine (szR_le ?_).trans ?_ <;> omega) | rfl
set_option maxHeartbeats 4000000 in
theorem k39_ (a : VpR) (w : World) (f_a : okVpR 549755813888 w a) :
    Calls Tryz.prog 206 #[.agg #[i64 a.State, .bool a.Mark, .slice a.Args.A a.Args.n a.Args.c, .slice a.Part.A a.Part.n a.Part.c]] w fun e w' => ∃ r L1, e = .returned (.agg #[i64 r.State, .bool r.Mark, .slice r.Args.A r.Args.n r.Args.c, .slice r.Part.A r.Part.n r.Part.c]) ∧ St w [] L1 w' ∧ ownVpR r L1 ∧ r.dat = a.dat := by
 have nb_a_Args := f_a.Args_n
 have nl_a_Args := f_a.Args.len
 have nb_a_Part := f_a.Part_n
 have nl_a_Part := f_a.Part.len
 refine enter 19 Tryz.func206 rfl Tryz.ntmps206 rfl rfl ?_
 have hs1 := St.init w
 refine WC.sr (WL.bx hs1 rfl (fun b2 _ hs3 => WL.al hs3 Tryz.zeroValue84 rfl rfl (fun b4 _ hs5 => WL.nil (WC.sr (WL.al hs5 Tryz.zeroValue84 rfl rfl (fun b6 _ hs7 => WL.nil (WC.sr ?_)))))))
 refine WL.r 3 hs7 [2] rfl (WL.st tbk hs7 0 rfl rfl (fun _ hs8 => WL.nil (WC.sr (WL.r 3 hs8 [2] rfl (WL.st tbk hs8 0 rfl rfl (fun _ hs9 => WL.nil (WC.sr ?_)))))))
 refine WL.r 2 hs9 [2] rfl (WL.cl Tryz.call164 rfl (k16_ _ _ _ _ _ (SlF.st0 f_a.Args hs9) ?_) ?_)
 · first | assumption | rfl | omega
 rintro _ whs10 ⟨A11, c12, L1_13, rfl, hs10, ho14⟩
 replace hs10 := hs9.callF hs10
 refine ⟨_, rfl, ?_⟩
 replace hs10 := St.back [_, _, _] hs10
 refine WL.r 1 hs10 [] rfl (WL.st tbk hs10 0 rfl rfl (fun _ hs15 => WL.nil (WC.sr (WL.r 2 hs15 [2] rfl ?_))))
 refine WL.cl Tryz.call34 rfl (k5_ _ _ _ _ _ (SlF.st0 f_a.Part hs15) ?_) ?_
 · first | assumption | rfl | omega
 rintro _ whs16 ⟨A17, c18, L1_19, rfl, hs16, ho20⟩
 replace hs16 := hs15.callF hs16
 refine ⟨_, rfl, ?_⟩
 replace hs16 := St.back [_, _, _] hs16
 refine WL.r 1 hs16 [] rfl (WL.st tbk hs16 0 rfl rfl (fun _ hs21 => WL.nil (WC.sr (WL.r 1 hs21 [0] rfl (WL.st tbk hs21 1 rfl rfl (fun _ hs22 => WL.nil (WC.ret ?_)))))))
 refine retV1 rfl (resV.cellA tbk hs22 1 rfl rfl rfl rfl) ?_
 obtain ⟨L24, hs23, ho25⟩ := ownVpR.fl hs22 ho14 ho20
 have hs26 := (((hs23.fb b2).fb b4).fb b6)
 refine ⟨⟨a.State, a.Mark, SlD.of ho14, SlD.of ho20⟩, _, rfl, (St.keep1 (hs26.fr L24)), ?_, ?_⟩
 · exact (by exact ho25)
 · exact VpD.ext' rfl rfl rfl rfl
set_option maxHeartbeats 4000000 in
theorem k40_ (a : VpR) (left : Int) (w : World) (f_a : okVpR 9223372036854775807 w a) (h1 : 0 ≤ left) (h2 : left ≤ 1048576) :
    Calls Tryz.prog 204 #[.agg #[i64 a.State, .bool a.Mark, .slice a.Args.A a.Args.n a.Args.c, .slice a.Part.A a.Part.n a.Part.c], i64 left] w fun e w' => e = .returned (.int .i64 (szR left (totVp a.dat))) ∧ St w [] [] w' := by
 have nb_a_Args := f_a.Args_n
 have nl_a_Args := f_a.Args.len
 have nb_a_Part := f_a.Part_n
 have nl_a_Part := f_a.Part.len
 refine enter 18 Tryz.func204 rfl Tryz.ntmps204 rfl rfl ?_
 have hs1 := St.init w
 refine WC.sr (WL.bx hs1 rfl (fun b2 _ hs3 => WL.r 1 hs3 [] rfl (WL.nil (WC.sr (WL.r 3 hs3 [0] rfl ?_)))))
 refine WL.cl Tryz.call160 rfl (k15_ _ _ _ _ _ _ (SlF.st0 f_a.Args hs3) ?_ ?_ ?_) ?_
 · first | assumption | omega
 · first | assumption | omega | exact szR_b (by assumption) (by omega) (by first | assumption | omega)
 · first | assumption | omega
 rintro _ whs4 ⟨rfl, hs4⟩
 replace hs4 := hs3.call0 hs4
 refine ⟨_, rfl, WL.r 1 hs4 [] rfl (WL.nil (WC.seq (fun K5 hK5 => WC.r1 hs4 [] rfl ?_)))⟩
 refine WC.cD rfl (fun qh6 => ?_) (fun qh6 => ?_)
 ·try have soh6 := szR_ok qh6 (by omega)
  try have sbh6 := szR_b qh6 (by omega) (by first | assumption | omega)
  try have snh6 := szR_no qh6
  refine WC.r1 hs4 [] rfl (WC.ret (tkR ?_))
  clear hK5
  refine rtv rfl rfl hs4 ?_
  simp only [totVp, VpR.dat] at *; first | (rw [szR_lt (by omega)]; done) | (refine congrArg (Value.int _) ?_; symm; refine (szR_le ?_).trans ?_ <;> omega) | rfl
 try have soh6 := szR_ok qh6 (by omega)
 try have sbh6 := szR_b qh6 (by omega) (by first | assumption | omega)
 try have snh6 := szR_no qh6
 refine WC.skip (hK5 _ _ (WC.sr (WL.r 3 hs4 [0] rfl ?_)))
 refine WL.cl Tryz.call243 rfl (k4_ _ _ _ _ _ _ (SlF.st0 f_a.Part hs4) ?_ ?_ ?_) ?_
 · first | assumption | omega
 · first | assumption | omega | exact szR_b (by assumption) (by omega) (by first | assumption | omega)
 · first | assumption | omega
 rintro _ whs7 ⟨rfl, hs7⟩
 replace hs7 := hs4.call0 hs7
 refine ⟨_, rfl, WL.r 1 hs7 [] rfl (WL.nil (WC.seq (fun K8 hK8 => WC.r1 hs7 [] rfl ?_)))⟩
 refine WC.cD rfl (fun qh9 => ?_) (fun qh9 => ?_)
 ·try have soh9 := szR_ok qh9 (by omega)
  try have sbh9 := szR_b qh9 (by omega) (by first | assumption | omega)
  try have snh9 := szR_no qh9
  refine WC.r1 hs7 [] rfl (WC.ret (tkR ?_))
  clear hK8
  refine rtv rfl rfl hs7 ?_
  simp only [totVp, VpR.dat] at *; first | (rw [szR_lt (by omega)]; done) | (refine congrArg (Value.int _) ?_; symm; refine (szR_le ?_).trans ?_ <;> omega) | rfl
 try have soh9 := szR_ok qh9 (by omega)
 try have sbh9 := szR_b qh9 (by omega) (by first | assumption | omega)
 try have snh9 := szR_no qh9
 refine WC.skip (hK8 _ _ (WC.r1 hs7 [] rfl (WC.ret (rtv rfl rfl hs7 ?_))))
 simp only [totVp, VpR.dat] at *; first | (rw [szR_lt (by omega)]; done) | (refine congrArg (Value.int _) ?_; symm; refine (szR_le ?_).trans ?_ <;> omega) | rfl
set_option maxHeartbeats 4000000 in
theorem k41_ (a : RowR) (w : World) (f_a : okRowR 549755813888 w a) :
    Calls Tryz.prog 280 #[.agg #[.slice a.Cells.A a.Cells.n a.Cells.c]] w fun e w' => ∃ r L1, e = .returned (.agg #[.slice r.Cells.A r.Cells.n r.Cells.c]) ∧ St w [] L1 w' ∧ ownRowR r L1 ∧ r.dat = a.dat := by
 have nb_a_Cells := f_a.Cells_n
 have nl_a_Cells := f_a.Cells.len
 refine enter 9 Tryz.func280 rfl Tryz.ntmps280 rfl rfl ?_
 have hs1 := St.init w
 refine WC.sr (WL.bx hs1 rfl (fun b2 _ hs3 => WL.al hs3 Tryz.zeroValue181 rfl rfl (fun b4 _ hs5 => WL.nil (WC.sr (WL.al hs5 Tryz.zeroValue181 rfl rfl (fun b6 _ hs7 => WL.nil (WC.sr ?_)))))))
 refine WL.r 2 hs7 [2] rfl (WL.cl Tryz.call279 rfl (k11_ _ _ _ _ _ (SlF.st0 f_a.Cells hs7) ?_) ?_)
 · first | assumption | rfl | omega
 rintro _ whs8 ⟨A9, c10, L1_11, rfl, hs8, ho12⟩
 replace hs8 := hs7.callF hs8
 refine ⟨_, rfl, ?_⟩
 replace hs8 := St.back [_, _, _] hs8
 refine WL.r 1 hs8 [] rfl (WL.st tbk hs8 0 rfl rfl (fun _ hs13 => WL.nil (WC.sr (WL.r 1 hs13 [0] rfl (WL.st tbk hs13 1 rfl rfl (fun _ hs14 => WL.nil (WC.ret ?_)))))))
 refine retV1 rfl (resV.cellA tbk hs14 1 rfl rfl rfl rfl) (⟨⟨SlD.of ho12⟩, _, rfl, (St.keep1 (hs14.fr L1_11)), ?_, ?_⟩)
 · exact ho12
 · exact RowD.ext' rfl
set_option maxHeartbeats 4000000 in
theorem k42_ (a : RowR) (left : Int) (w : World) (f_a : okRowR 9223372036854775807 w a) (h1 : 0 ≤ left) (h2 : left ≤ 1048576) :
    Calls Tryz.prog 278 #[.agg #[.slice a.Cells.A a.Cells.n a.Cells.c], i64 left] w fun e w' => e = .returned (.int .i64 (szR left (totRow a.dat))) ∧ St w [] [] w' := by
 have nb_a_Cells := f_a.Cells_n
 have nl_a_Cells := f_a.Cells.len
 refine enter 12 Tryz.func278 rfl Tryz.ntmps278 rfl rfl ?_
 have hs1 := St.init w
 refine WC.sr (WL.bx hs1 rfl (fun b2 _ hs3 => WL.r 1 hs3 [] rfl (WL.nil (WC.sr (WL.r 3 hs3 [0] rfl ?_)))))
 refine WL.cl Tryz.call277 rfl (k13_ _ _ _ _ _ _ (SlF.st0 f_a.Cells hs3) ?_ ?_ ?_) ?_
 · first | assumption | omega
 · first | assumption | omega | exact szR_b (by assumption) (by omega) (by first | assumption | omega)
 · first | assumption | omega
 rintro _ whs4 ⟨rfl, hs4⟩
 replace hs4 := hs3.call0 hs4
 refine ⟨_, rfl, WL.r 1 hs4 [] rfl (WL.nil (WC.seq (fun K5 hK5 => WC.r1 hs4 [] rfl ?_)))⟩
 refine WC.cD rfl (fun qh6 => ?_) (fun qh6 => ?_)
 ·try have soh6 := szR_ok qh6 (by omega)
  try have sbh6 := szR_b qh6 (by omega) (by first | assumption | omega)
  try have snh6 := szR_no qh6
  refine WC.r1 hs4 [] rfl (WC.ret (tkR ?_))
  clear hK5
  refine rtv rfl rfl hs4 ?_
  simp only [totRow, RowR.dat] at *; first | (rw [szR_lt (by omega)]; done) | (refine congrArg (Value.int _) ?_; symm; refine (szR_le ?_).trans ?_ <;> omega) | rfl
 try have soh6 := szR_ok qh6 (by omega)
 try have sbh6 := szR_b qh6 (by omega) (by first | assumption | omega)
 try have snh6 := szR_no qh6
 refine WC.skip (hK5 _ _ (WC.r1 hs4 [] rfl (WC.ret (rtv rfl rfl hs4 ?_))))
 simp only [totRow, RowR.dat] at *; first | (rw [szR_lt (by omega)]; done) | (refine congrArg (Value.int _) ?_; symm; refine (szR_le ?_).trans ?_ <;> omega) | rfl
theorem k43_ (A_a : Option Addr) (n_a c_a : Nat) (a : List RowR) (left : Int) (w : World) (f_a : SlN encRowR (okRowR 9223372036854775807) w A_a n_a a) (h1 : 0 ≤ left) (h2 : left ≤ 1048576) (h3 : n_a ≤ 9223372036854775807) :
    Calls Tryz.prog 245 #[.slice A_a n_a c_a, i64 left] w fun e w' => e = .returned (.int .i64 (szR left (tots totRow (a.map RowR.dat)))) ∧ St w [] [] w' := by
 have hl := f_a.sl.len
 have hT : (tots totRow (a.map RowR.dat) : Int) = n_a + (a.map (fun x => totRow (RowR.dat x))).sum := by rw [tots_map, hl]; omega
 refine enter 27 Tryz.func245 rfl Tryz.ntmps245 rfl rfl ?_
 have hs1 := St.init w
 refine WC.r1 hs1 [] rfl (WC.r1 hs1 [] rfl (WC.seq (fun K2 hK2 => WC.r1 hs1 [] rfl ?_)))
 refine WC.cD rfl (fun qh3 => ?_) (fun qh3 => ?_)
 ·refine WC.r1 hs1 [] rfl (WC.ret (tkR ?_))
  clear hK2
  refine rtv rfl rfl hs1 ?_
  rw [szR_lt (by omega)]
 refine WC.skip (hK2 _ _ (WC.seq (fun K4 hK4 => WC.r1 hs1 [] rfl (WC.block ?_))))
 refine WC.lS [0, 11] rfl hs1 (fun k_ f w' => ∃ (i : Nat) (q : Int), k_ = n_a - i ∧ (i ≤ n_a) ∧ (0 ≤ q) ∧ (q + n_a + ((a.take i).map (fun x => totRow (RowR.dat x))).sum = left) ∧ Sub [(5, .int .i64 i), (1, .int .i64 q)] f) ((fun (i : Nat) (q : Int) => n_a - i) (0) ((left - n_a))) ?_ ?_
 ·refine ⟨0, (left - n_a), rfl, ?_, ?_, ?_, ⟨rfl, rfl, trivial⟩⟩
  · exact Nat.zero_le _
  · omega
  · simp
 clear hs1
 rintro _ f w ⟨i, q, rfl, p0, p1, p2, hG⟩ hF hs5
 refine WC.sub _ (hG.app hF) ?_
 clear hG hF
 refine WC.seq (fun K6 hK6 => WC.r1 hs5 [] rfl ?_)
 refine WC.cD rfl (fun qh7 => ?_) (fun qh7 => ?_)
 ·have hs1 := sum_take (F := encRowR) (f := (fun x => totRow (RowR.dat x))) (l := a) (i := i) (by omega)
  have hs2 := sum_take_le (f := (fun x => totRow (RowR.dat x))) a (i + 1)
  refine WC.skip (hK6 _ _ (WC.seq (fun K8 hK8 => WC.block (WC.sr (WL.r 2 hs5 [] rfl ?_)))))
  refine WL.val rfl rfl rfl (Run.idxN Tryz.runUnderlying137 Tryz.sizeOf285 rfl rfl rfl ?_ ?_ ?_) ?_
  · exact SlF.some_ (SlF.st0 f_a.sl hs5)
  · omega
  · omega
  refine WL.val rfl rfl rfl (Run.loadA Tryz.isAgg285 Tryz.sizeOf285 rfl rfl (SlF.whole (SlF.st0 f_a.sl hs5) ?_)) ?_
  · omega
  refine WL.r 1 hs5 [] rfl (WL.cl Tryz.call278 rfl (k42_ (gat encRowR a i) _ _ (okRowR.st0 (SlN.nth f_a (by omega)) hs5) ?_ ?_) ?_)
  · first | assumption | omega
  · first | assumption | omega | exact szR_b (by assumption) (by omega) (by first | assumption | omega)
  rintro _ whs9 ⟨rfl, hs9⟩
  replace hs9 := hs5.call0 hs9
  refine ⟨_, rfl, WL.r 1 hs9 [] rfl (WL.nil (WC.r1 hs9 [] rfl (WC.cD rfl (fun qh10 => ?_) (fun qh10 => ?_))))⟩
  ·refine WC.r1 hs9 [] rfl (WC.ret (ibR (tkR (tkR (ibR (tkR ?_))))))
   clear hK8 hK4
   refine rtv rfl rfl hs9 ?_
   have h9 := szR_no qh10
   rw [szR_lt (by omega)]
  refine WC.skip (hK8 _ _ (WC.region (WL.r 3 hs9 [] rfl (WL.nil (tkN ?_)))))
  refine ⟨sbF rfl, hs9, _, ?_, i + 1, _, rfl, ?_, ?_, ?_, ⟨rfl, rfl, trivial⟩⟩
  · omega
  · omega
  · omega
  · have h9 := szR_ok qh10 (Int.natCast_nonneg _); omega
 refine WC.exit (hK4 _ _ (WC.r1 hs5 [] rfl (WC.ret (rtv rfl rfl hs5 ?_))))
 have h9 : a.take i = a := List.take_of_length_le (by omega)
 rw [h9] at p2
 rw [szR_le (by omega)]
 congr 1; omega
theorem k44_ (A_a : Option Addr) (n_a c_a : Nat) (a : List RowR) (w : World) (f_a : SlN encRowR (okRowR 549755813888) w A_a n_a a) (hn : n_a ≤ 549755813888) :
    Calls Tryz.prog 248 #[.slice A_a n_a c_a] w fun e w' => ∃ A c xs L1, e = .returned (.slice A n_a c) ∧ St w [] L1 w' ∧ OwnN encRowR ownRowR 181 (.slice A n_a c) xs L1 ∧ xs.map RowR.dat = a.map RowR.dat := by
 have hl := f_a.sl.len
 refine enter 23 Tryz.func248 rfl Tryz.ntmps248 rfl rfl ?_
 have hs1 := St.init w
 refine WC.r1 hs1 [] rfl (WC.sr (WL.r 2 hs1 [] rfl (WL.makeF (F := encRowR) hs1 Tryz.underlying87 inf181 rfl rfl rfl rfl rfl rfl rfl rfl rfl ?_ ?_ (fun A5 c6 L2 whs3 hs3 ho4 => ?_))))
 · have e_ : Tryz.t181.bytes = 24 := rfl
   rw [e_]; omega
 · omega
 obtain ⟨L7, hs8, ho9⟩ := OwnN.new (own := ownRowR) hs3 ho4 (OwnF.nil _ _)
 refine WL.r 1 hs8 [] rfl (WL.nil (WC.seq (fun K10 hK10 => WC.r1 hs8 [] rfl (WC.block ?_))))
 refine WC.lO [0, 2] rfl hs8 (fun k_ f L_ => ∃ (i : Nat) (ys : List RowR) (A11 : Option Addr) (c12 : Nat), k_ = n_a - i ∧ (i ≤ n_a) ∧ (ys.length = i) ∧ (ys.map RowR.dat = (a.take i).map RowR.dat) ∧ OwnN encRowR ownRowR 181 (.slice A11 (n_a) c12) (ys ++ List.replicate (n_a - i) encRowR.dflt) L_ ∧ Sub [(3, .slice A11 (n_a) c12), (4, .int .i64 i)] f) (((fun (i : Nat) (ys : List RowR) => n_a - i) (0) ([]))) ?_ ?_
 ·refine ⟨0, [], _, _, rfl, ?_, ?_, ?_, (by simpa using ho9), ⟨rfl, rfl, trivial⟩⟩
  · exact Nat.zero_le _
  · rfl
  · rfl
 clear hs8
 rintro _ f w L13 ⟨i, ys, A11, c12, rfl, p0, p1, p2, ho14, hG⟩ hF hs15
 refine WC.sub _ (hG.app hF) ?_
 clear hG hF
 have hlen : (ys ++ List.replicate (n_a - i) encRowR.dflt).length = n_a := by simp; omega
 refine WC.seq (fun K16 hK16 => WC.r1 hs15 [] rfl ?_)
 refine WC.cq rfl (fun h17 qh17 => ?_) (fun h17 qh17 => ?_)
 ·refine WC.skip (hK16 _ _ (WC.seq (fun K18 hK18 => WC.block (WC.region (WL.r 4 hs15 [] rfl ?_)))))
  refine WL.val rfl rfl rfl (Run.idxN Tryz.runUnderlying137 Tryz.sizeOf285 rfl rfl rfl ?_ ?_ ?_) ?_
  · exact SlF.some_ (SlF.st0 f_a.sl hs15)
  · omega
  · omega
  refine WL.val rfl rfl rfl (Run.loadA Tryz.isAgg285 Tryz.sizeOf285 rfl rfl (SlF.whole (SlF.st0 f_a.sl hs15) ?_)) ?_
  · omega
  refine WL.cl Tryz.call280 rfl (k41_ (gat encRowR a i) _ (okRowR.st0 (SlN.nth f_a (by omega)) hs15)) ?_
  rintro _ whs19 ⟨r20, L1_21, rfl, hs19, ho22, hd23⟩
  replace hs19 := hs15.callF hs19
  refine ⟨_, rfl, WL.val rfl rfl rfl (Run.idxN Tryz.runUnderlying87 Tryz.sizeOf181 rfl rfl rfl ?_ ?_ ?_) ?_⟩
  · exact SlF.some_ (OwnN.sl ho14 (hs19.ow L13))
  · omega
  · omega
  obtain ⟨L24, L25, hs28, ho26, ho27⟩ := OwnN.open_ (hs19.fr L13) ho14
  refine WL.storeF1 (x' := r20) hs28 ho26 Tryz.sizeOf181 rfl rfl rfl rfl rfl rfl rfl rfl rfl ?_ rfl (fun L29 whs30 hs30 ho31 _ => ?_)
  · omega
  obtain ⟨L32, hs34, hb33⟩ := Bag.replace (r := r20) (i := i) ((hs30.fr L1_21).fr L25) ho27 (by omega) ho22
  refine WL.nil (hK18 _ _ (WC.region (WL.r 3 hs34 [] rfl (WL.nil (tkN ?_)))))
  obtain ⟨L36, hs35, ho37⟩ := OwnN.fold (hs34.fr L29) ho31 hb33
  rw [set_at p1 (by omega)] at ho37
  refine ⟨sbF rfl, _, hs35, _, ?_, i + 1, (ys ++ [r20]), _, _, rfl, ?_, ?_, ?_, ho37, ⟨rfl, rfl, trivial⟩⟩
  · omega
  · omega
  · simp; omega
  · rw [List.map_append, p2, map_take_succ (F := encRowR) (by omega)]; congr 1 <;> simp only [List.map_cons, List.map_nil] <;> congr 1 <;> assumption
 refine WC.exit (hK10 _ _ (WC.r1 hs15 [] rfl (WC.ret (retV1 rfl (resV.tmp rfl) ?_))))
 have hi_ : i = n_a := by omega
 subst hi_
 have hx_ := ho14
 simp only [Nat.sub_self, List.replicate_zero, List.append_nil] at hx_
 exact ⟨_, _, ys, _, rfl, (St.keep1 hs15), hx_, by rw [p2, List.take_of_length_le (by omega)]⟩
set_option maxHeartbeats 4000000 in
theorem k45_ (a : ScrR) (w : World) (f_a : okScrR 549755813888 w a) :
    Calls Tryz.prog 207 #[.agg (cScr a).toArray] w fun e w' => ∃ r L1, e = .returned (.agg (cScr r).toArray) ∧ St w [] L1 w' ∧ ownScrR r L1 ∧ r.dat = a.dat := by
 have nb_a_Main_Cells := f_a.Main.Cells_n
 have nl_a_Main_Cells := f_a.Main.Cells.len
 have nb_a_Alt_Cells := f_a.Alt.Cells_n
 have nl_a_Alt_Cells := f_a.Alt.Cells.len
 have nb_a_Tabs := f_a.Tabs_n
 have nl_a_Tabs := f_a.Tabs.len
 have nb_a_Back := f_a.Back_n
 have nl_a_Back := f_a.Back.sl.len
 refine enter 68 Tryz.func207 rfl Tryz.ntmps207 rfl rfl ?_
 have hs1 := St.init w
 refine WC.sr (WL.bx hs1 rfl (fun b2 _ hs3 => WL.al hs3 Tryz.zeroValue89 rfl rfl (fun b4 _ hs5 => WL.nil (WC.sr (WL.al hs5 Tryz.zeroValue89 rfl rfl (fun b6 _ hs7 => WL.nil (WC.sr ?_)))))))
 refine WL.r 3 hs7 [2] rfl (WL.st tbk hs7 0 rfl rfl (fun _ hs8 => WL.nil (WC.sr (WL.r 3 hs8 [2] rfl (WL.st tbk hs8 0 rfl rfl (fun _ hs9 => WL.nil (WC.sr ?_)))))))
 refine WL.r 2 hs9 [2] rfl (WL.cl Tryz.call246 rfl (k37_ a.Main _ (okGridR.st0 f_a.Main hs9)) ?_)
 rintro _ whs10 ⟨r11, L1_12, rfl, hs10, ho13, hd14⟩
 replace hs10 := hs9.callF hs10
 refine ⟨_, rfl, ?_⟩
 replace hs10 := St.back [_, _, _] hs10
 refine WL.r 1 hs10 [] rfl (WL.st tbk hs10 0 rfl rfl (fun _ hs15 => WL.nil (WC.sr (WL.r 2 hs15 [2] rfl (WL.cl Tryz.call246 rfl (k37_ a.Alt _ (okGridR.st0 f_a.Alt hs15)) ?_)))))
 rintro _ whs16 ⟨r17, L1_18, rfl, hs16, ho19, hd20⟩
 replace hs16 := hs15.callF hs16
 refine ⟨_, rfl, ?_⟩
 replace hs16 := St.back [_, _, _] hs16
 refine WL.r 1 hs16 [] rfl (WL.st tbk hs16 0 rfl rfl (fun _ hs21 => WL.nil (WC.sr (WL.r 3 hs21 [2] rfl (WL.st tbk hs21 0 rfl rfl (fun _ hs22 => WL.nil (WC.sr ?_)))))))
 refine WL.r 3 hs22 [2] rfl (WL.st tbk hs22 0 rfl rfl (fun _ hs23 => WL.nil (WC.sr (WL.r 3 hs23 [2] rfl (WL.st tbk hs23 0 rfl rfl (fun _ hs24 => WL.nil (WC.sr ?_)))))))
 refine WL.r 3 hs24 [2] rfl (WL.st tbk hs24 0 rfl rfl (fun _ hs25 => WL.nil (WC.sr (WL.r 2 hs25 [2] rfl (WL.cl Tryz.call247 rfl (k7_ _ _ _ _ _ _) ?_)))))
 rintro _ whs26 ⟨rfl, hs26⟩
 replace hs26 := hs25.call0 hs26
 refine ⟨_, rfl, WL.r 1 hs26 [] rfl (WL.st tbk hs26 0 rfl rfl (fun _ hs27 => WL.nil (WC.sr (WL.r 3 hs27 [2] rfl (WL.st tbk hs27 0 rfl rfl (fun _ hs28 => WL.nil ?_))))))⟩
 refine WC.sr (WL.r 3 hs28 [2] rfl (WL.st tbk hs28 0 rfl rfl (fun _ hs29 => WL.nil (WC.sr (WL.r 3 hs29 [2] rfl (WL.st tbk hs29 0 rfl rfl (fun _ hs30 => WL.nil ?_)))))))
 refine WC.sr (WL.r 3 hs30 [2] rfl (WL.st tbk hs30 0 rfl rfl (fun _ hs31 => WL.nil (WC.sr (WL.r 3 hs31 [2] rfl (WL.st tbk hs31 0 rfl rfl (fun _ hs32 => WL.nil ?_)))))))
 refine WC.sr (WL.r 3 hs32 [2] rfl (WL.st tbk hs32 0 rfl rfl (fun _ hs33 => WL.nil (WC.sr (WL.r 2 hs33 [2] rfl (WL.cl Tryz.call247 rfl (k7_ _ _ _ _ _ _) ?_))))))
 rintro _ whs34 ⟨rfl, hs34⟩
 replace hs34 := hs33.call0 hs34
 refine ⟨_, rfl, WL.r 1 hs34 [] rfl (WL.st tbk hs34 0 rfl rfl (fun _ hs35 => WL.nil (WC.sr (WL.r 2 hs35 [2] rfl ?_))))⟩
 refine WL.cl Tryz.call164 rfl (k16_ _ _ _ _ _ (SlF.st0 f_a.Tabs hs35) ?_) ?_
 · first | assumption | rfl | omega
 rintro _ whs36 ⟨A37, c38, L1_39, rfl, hs36, ho40⟩
 replace hs36 := hs35.callF hs36
 refine ⟨_, rfl, ?_⟩
 replace hs36 := St.back [_, _, _] hs36
 refine WL.r 1 hs36 [] rfl (WL.st tbk hs36 0 rfl rfl (fun _ hs41 => WL.nil (WC.sr (WL.r 3 hs41 [2] rfl (WL.st tbk hs41 0 rfl rfl (fun _ hs42 => WL.nil (WC.sr ?_)))))))
 refine WL.r 2 hs42 [2] rfl (WL.cl Tryz.call248 rfl (k44_ _ _ _ _ _ (SlN.st0 okRowR.st0 f_a.Back hs42) ?_) ?_)
 · first | assumption | rfl | omega
 rintro _ whs43 ⟨A44, c45, xs46, L1_47, rfl, hs43, ho48, hd49⟩
 replace hs43 := hs42.callF hs43
 refine ⟨_, rfl, ?_⟩
 replace hs43 := St.back [_, _, _] hs43
 refine WL.r 1 hs43 [] rfl (WL.st tbk hs43 0 rfl rfl (fun _ hs50 => WL.nil (WC.sr (WL.r 1 hs50 [0] rfl (WL.st tbk hs50 1 rfl rfl (fun _ hs51 => WL.nil (WC.ret ?_)))))))
 refine retV1 rfl (resV.cellA tbk hs51 1 rfl rfl rfl rfl) ?_
 obtain ⟨L53, hs52, ho54⟩ := ownScrR.fl hs51 ho13 ho19 ho40 ho48
 have hs55 := (((hs52.fb b2).fb b4).fb b6)
 refine ⟨⟨a.W, a.H, ⟨r11.W, r11.H, SlD.of ho13⟩, ⟨r17.W, r17.H, SlD.of ho19⟩, a.OnAlt, a.X, a.Y, a.Wrap, ⟨_, _, _, _, _⟩, a.Top, a.Bot, a.NoWrap, a.Hide, a.SaveX, a.SaveY, ⟨_, _, _, _, _⟩, SlD.of ho40, a.Limit, SlD.ofN ho48⟩, _, rfl, (St.keep1 (hs55.fr L53)), ?_, ?_⟩
 · exact (by exact ho54)
 · exact ScrD.ext' rfl rfl hd14 hd20 rfl rfl rfl rfl rfl rfl rfl rfl rfl rfl rfl rfl rfl rfl hd49
set_option maxHeartbeats 4000000 in
theorem k46_ (a : ScrR) (left : Int) (w : World) (f_a : okScrR 9223372036854775807 w a) (h1 : 0 ≤ left) (h2 : left ≤ 1048576) :
    Calls Tryz.prog 205 #[.agg (cScr a).toArray, i64 left] w fun e w' => e = .returned (.int .i64 (szR left (totScr a.dat))) ∧ St w [] [] w' := by
 have nb_a_Main_Cells := f_a.Main.Cells_n
 have nl_a_Main_Cells := f_a.Main.Cells.len
 have nb_a_Alt_Cells := f_a.Alt.Cells_n
 have nl_a_Alt_Cells := f_a.Alt.Cells.len
 have nb_a_Tabs := f_a.Tabs_n
 have nl_a_Tabs := f_a.Tabs.len
 have nb_a_Back := f_a.Back_n
 have nl_a_Back := f_a.Back.sl.len
 refine enter 30 Tryz.func205 rfl Tryz.ntmps205 rfl rfl ?_
 have hs1 := St.init w
 refine WC.sr (WL.bx hs1 rfl (fun b2 _ hs3 => WL.r 1 hs3 [] rfl (WL.nil (WC.sr (WL.r 3 hs3 [0] rfl ?_)))))
 refine WL.cl Tryz.call244 rfl (k38_ a.Main _ _ (okGridR.st0 f_a.Main hs3) ?_ ?_) ?_
 · first | assumption | omega
 · first | assumption | omega | exact szR_b (by assumption) (by omega) (by first | assumption | omega)
 rintro _ whs4 ⟨rfl, hs4⟩
 replace hs4 := hs3.call0 hs4
 refine ⟨_, rfl, WL.r 1 hs4 [] rfl (WL.nil (WC.seq (fun K5 hK5 => WC.r1 hs4 [] rfl ?_)))⟩
 refine WC.cD rfl (fun qh6 => ?_) (fun qh6 => ?_)
 ·try have soh6 := szR_ok qh6 (by omega)
  try have sbh6 := szR_b qh6 (by omega) (by first | assumption | omega)
  try have snh6 := szR_no qh6
  refine WC.r1 hs4 [] rfl (WC.ret (tkR ?_))
  clear hK5
  refine rtv rfl rfl hs4 ?_
  simp only [totGrid, totScr, GridR.dat, ScrR.dat] at *; first | (rw [szR_lt (by omega)]; done) | (refine congrArg (Value.int _) ?_; symm; refine (szR_le ?_).trans ?_ <;> omega) | rfl
 try have soh6 := szR_ok qh6 (by omega)
 try have sbh6 := szR_b qh6 (by omega) (by first | assumption | omega)
 try have snh6 := szR_no qh6
 refine WC.skip (hK5 _ _ (WC.sr (WL.r 3 hs4 [0] rfl ?_)))
 refine WL.cl Tryz.call244 rfl (k38_ a.Alt _ _ (okGridR.st0 f_a.Alt hs4) ?_ ?_) ?_
 · first | assumption | omega
 · first | assumption | omega | exact szR_b (by assumption) (by omega) (by first | assumption | omega)
 rintro _ whs7 ⟨rfl, hs7⟩
 replace hs7 := hs4.call0 hs7
 refine ⟨_, rfl, WL.r 1 hs7 [] rfl (WL.nil (WC.seq (fun K8 hK8 => WC.r1 hs7 [] rfl ?_)))⟩
 refine WC.cD rfl (fun qh9 => ?_) (fun qh9 => ?_)
 ·try have soh9 := szR_ok qh9 (by omega)
  try have sbh9 := szR_b qh9 (by omega) (by first | assumption | omega)
  try have snh9 := szR_no qh9
  refine WC.r1 hs7 [] rfl (WC.ret (tkR ?_))
  clear hK8
  refine rtv rfl rfl hs7 ?_
  simp only [totGrid, totScr, GridR.dat, ScrR.dat] at *; first | (rw [szR_lt (by omega)]; done) | (refine congrArg (Value.int _) ?_; symm; refine (szR_le ?_).trans ?_ <;> omega) | rfl
 try have soh9 := szR_ok qh9 (by omega)
 try have sbh9 := szR_b qh9 (by omega) (by first | assumption | omega)
 try have snh9 := szR_no qh9
 refine WC.skip (hK8 _ _ (WC.sr (WL.r 3 hs7 [0] rfl ?_)))
 refine WL.cl Tryz.call160 rfl (k15_ _ _ _ _ _ _ (SlF.st0 f_a.Tabs hs7) ?_ ?_ ?_) ?_
 · first | assumption | omega
 · first | assumption | omega | exact szR_b (by assumption) (by omega) (by first | assumption | omega)
 · first | assumption | omega
 rintro _ whs10 ⟨rfl, hs10⟩
 replace hs10 := hs7.call0 hs10
 refine ⟨_, rfl, WL.r 1 hs10 [] rfl (WL.nil (WC.seq (fun K11 hK11 => WC.r1 hs10 [] rfl ?_)))⟩
 refine WC.cD rfl (fun qh12 => ?_) (fun qh12 => ?_)
 ·try have soh12 := szR_ok qh12 (by omega)
  try have sbh12 := szR_b qh12 (by omega) (by first | assumption | omega)
  try have snh12 := szR_no qh12
  refine WC.r1 hs10 [] rfl (WC.ret (tkR ?_))
  clear hK11
  refine rtv rfl rfl hs10 ?_
  simp only [totGrid, totScr, GridR.dat, ScrR.dat] at *; first | (rw [szR_lt (by omega)]; done) | (refine congrArg (Value.int _) ?_; symm; refine (szR_le ?_).trans ?_ <;> omega) | rfl
 try have soh12 := szR_ok qh12 (by omega)
 try have sbh12 := szR_b qh12 (by omega) (by first | assumption | omega)
 try have snh12 := szR_no qh12
 refine WC.skip (hK11 _ _ (WC.sr (WL.r 3 hs10 [0] rfl ?_)))
 refine WL.cl Tryz.call245 rfl (k43_ _ _ _ _ _ _ (SlN.st0 okRowR.st0 f_a.Back hs10) ?_ ?_ ?_) ?_
 · first | assumption | omega
 · first | assumption | omega | exact szR_b (by assumption) (by omega) (by first | assumption | omega)
 · first | assumption | omega
 rintro _ whs13 ⟨rfl, hs13⟩
 replace hs13 := hs10.call0 hs13
 refine ⟨_, rfl, WL.r 1 hs13 [] rfl (WL.nil (WC.seq (fun K14 hK14 => WC.r1 hs13 [] rfl ?_)))⟩
 refine WC.cD rfl (fun qh15 => ?_) (fun qh15 => ?_)
 ·try have soh15 := szR_ok qh15 (by omega)
  try have sbh15 := szR_b qh15 (by omega) (by first | assumption | omega)
  try have snh15 := szR_no qh15
  refine WC.r1 hs13 [] rfl (WC.ret (tkR ?_))
  clear hK14
  refine rtv rfl rfl hs13 ?_
  simp only [totGrid, totScr, GridR.dat, ScrR.dat] at *; first | (rw [szR_lt (by omega)]; done) | (refine congrArg (Value.int _) ?_; symm; refine (szR_le ?_).trans ?_ <;> omega) | rfl
 try have soh15 := szR_ok qh15 (by omega)
 try have sbh15 := szR_b qh15 (by omega) (by first | assumption | omega)
 try have snh15 := szR_no qh15
 refine WC.skip (hK14 _ _ (WC.r1 hs13 [] rfl (WC.ret (rtv rfl rfl hs13 ?_))))
 simp only [totGrid, totScr, GridR.dat, ScrR.dat] at *; first | (rw [szR_lt (by omega)]; done) | (refine congrArg (Value.int _) ?_; symm; refine (szR_le ?_).trans ?_ <;> omega) | rfl
set_option maxHeartbeats 4000000 in
theorem k47_ (a : TermR) (w : World) (f_a : okTermR 549755813888 w a) :
    Calls Tryz.prog 162 #[.agg #[i64 a.P.State, .bool a.P.Mark, .slice a.P.Args.A a.P.Args.n a.P.Args.c, .slice a.P.Part.A a.P.Part.n a.P.Part.c, i64 a.S.W, i64 a.S.H, i64 a.S.Main.W, i64 a.S.Main.H, .slice a.S.Main.Cells.A a.S.Main.Cells.n a.S.Main.Cells.c, i64 a.S.Alt.W, i64 a.S.Alt.H, .slice a.S.Alt.Cells.A a.S.Alt.Cells.n a.S.Alt.Cells.c, .bool a.S.OnAlt, i64 a.S.X, i64 a.S.Y, .bool a.S.Wrap, i64 a.S.A.Fg, i64 a.S.A.Bg, .bool a.S.A.Bold, .bool a.S.A.Under, .bool a.S.A.Turn, i64 a.S.Top, i64 a.S.Bot, .bool a.S.NoWrap, .bool a.S.Hide, i64 a.S.SaveX, i64 a.S.SaveY, i64 a.S.SaveA.Fg, i64 a.S.SaveA.Bg, .bool a.S.SaveA.Bold, .bool a.S.SaveA.Under, .bool a.S.SaveA.Turn, .slice a.S.Tabs.A a.S.Tabs.n a.S.Tabs.c, i64 a.S.Limit, .slice a.S.Back.A a.S.Back.n a.S.Back.c]] w fun e w' => ∃ r L1, e = .returned (.agg #[i64 r.P.State, .bool r.P.Mark, .slice r.P.Args.A r.P.Args.n r.P.Args.c, .slice r.P.Part.A r.P.Part.n r.P.Part.c, i64 r.S.W, i64 r.S.H, i64 r.S.Main.W, i64 r.S.Main.H, .slice r.S.Main.Cells.A r.S.Main.Cells.n r.S.Main.Cells.c, i64 r.S.Alt.W, i64 r.S.Alt.H, .slice r.S.Alt.Cells.A r.S.Alt.Cells.n r.S.Alt.Cells.c, .bool r.S.OnAlt, i64 r.S.X, i64 r.S.Y, .bool r.S.Wrap, i64 r.S.A.Fg, i64 r.S.A.Bg, .bool r.S.A.Bold, .bool r.S.A.Under, .bool r.S.A.Turn, i64 r.S.Top, i64 r.S.Bot, .bool r.S.NoWrap, .bool r.S.Hide, i64 r.S.SaveX, i64 r.S.SaveY, i64 r.S.SaveA.Fg, i64 r.S.SaveA.Bg, .bool r.S.SaveA.Bold, .bool r.S.SaveA.Under, .bool r.S.SaveA.Turn, .slice r.S.Tabs.A r.S.Tabs.n r.S.Tabs.c, i64 r.S.Limit, .slice r.S.Back.A r.S.Back.n r.S.Back.c]) ∧ St w [] L1 w' ∧ ownTermR r L1 ∧ r.dat = a.dat := by
 have nb_a_P_Args := f_a.P.Args_n
 have nl_a_P_Args := f_a.P.Args.len
 have nb_a_P_Part := f_a.P.Part_n
 have nl_a_P_Part := f_a.P.Part.len
 have nb_a_S_Main_Cells := f_a.S.Main.Cells_n
 have nl_a_S_Main_Cells := f_a.S.Main.Cells.len
 have nb_a_S_Alt_Cells := f_a.S.Alt.Cells_n
 have nl_a_S_Alt_Cells := f_a.S.Alt.Cells.len
 have nb_a_S_Tabs := f_a.S.Tabs_n
 have nl_a_S_Tabs := f_a.S.Tabs.len
 have nb_a_S_Back := f_a.S.Back_n
 have nl_a_S_Back := f_a.S.Back.sl.len
 refine enter 13 Tryz.func162 rfl Tryz.ntmps162 rfl rfl ?_
 have hs1 := St.init w
 refine WC.sr (WL.bx hs1 rfl (fun b2 _ hs3 => WL.al hs3 Tryz.zeroValue91 rfl rfl (fun b4 _ hs5 => WL.nil (WC.sr (WL.al hs5 Tryz.zeroValue91 rfl rfl (fun b6 _ hs7 => WL.nil (WC.sr ?_)))))))
 refine WL.r 2 hs7 [2] rfl (WL.cl Tryz.call206 rfl (k39_ a.P _ (okVpR.st0 f_a.P hs7)) ?_)
 rintro _ whs8 ⟨r9, L1_10, rfl, hs8, ho11, hd12⟩
 replace hs8 := hs7.callF hs8
 refine ⟨_, rfl, ?_⟩
 replace hs8 := St.back [_, _, _] hs8
 refine WL.r 1 hs8 [] rfl (WL.st tbk hs8 0 rfl rfl (fun _ hs13 => WL.nil (WC.sr (WL.r 2 hs13 [2] rfl (WL.cl Tryz.call207 rfl (k45_ a.S _ (okScrR.st0 f_a.S hs13)) ?_)))))
 rintro _ whs14 ⟨r15, L1_16, rfl, hs14, ho17, hd18⟩
 replace hs14 := hs13.callF hs14
 refine ⟨_, rfl, ?_⟩
 replace hs14 := St.back [_, _, _] hs14
 refine WL.r 1 hs14 [] rfl (WL.st tbk hs14 0 rfl rfl (fun _ hs19 => WL.nil (WC.sr (WL.r 1 hs19 [0] rfl (WL.st tbk hs19 1 rfl rfl (fun _ hs20 => WL.nil (WC.ret ?_)))))))
 refine retV1 rfl (resV.cellA tbk hs20 1 rfl rfl rfl rfl) ?_
 obtain ⟨L21, L22, hs25, ho23, ho24⟩ := ownVpR.op hs20 ho11
 have hs26 := (((hs25.fb b2).fb b4).fb b6)
 obtain ⟨L27, L28, L29, L30, hs35, ho31, ho32, ho33, ho34⟩ := ownScrR.op hs26 ho17
 have hs36 := (((hs35.fb b2).fb b4).fb b6)
 obtain ⟨L38, hs37, ho39⟩ := ownTermR.fl hs36 ho23 ho24 ho31 ho32 ho33 ho34
 have hs40 := (((hs37.fb b2).fb b4).fb b6)
 refine ⟨⟨⟨r9.State, r9.Mark, SlD.of ho23, SlD.of ho24⟩, ⟨r15.W, r15.H, ⟨r15.Main.W, r15.Main.H, SlD.of ho31⟩, ⟨r15.Alt.W, r15.Alt.H, SlD.of ho32⟩, r15.OnAlt, r15.X, r15.Y, r15.Wrap, ⟨r15.A.Fg, r15.A.Bg, r15.A.Bold, r15.A.Under, r15.A.Turn⟩, r15.Top, r15.Bot, r15.NoWrap, r15.Hide, r15.SaveX, r15.SaveY, ⟨r15.SaveA.Fg, r15.SaveA.Bg, r15.SaveA.Bold, r15.SaveA.Under, r15.SaveA.Turn⟩, SlD.of ho33, r15.Limit, SlD.ofN ho34⟩⟩, _, rfl, (St.keep1 (hs40.fr L38)), ?_, ?_⟩
 · exact (by exact ho39)
 · exact TermD.ext' hd12 hd18
set_option maxHeartbeats 4000000 in
theorem k48_ (a : TermR) (left : Int) (w : World) (f_a : okTermR 9223372036854775807 w a) (h1 : 0 ≤ left) (h2 : left ≤ 1048576) :
    Calls Tryz.prog 158 #[.agg #[i64 a.P.State, .bool a.P.Mark, .slice a.P.Args.A a.P.Args.n a.P.Args.c, .slice a.P.Part.A a.P.Part.n a.P.Part.c, i64 a.S.W, i64 a.S.H, i64 a.S.Main.W, i64 a.S.Main.H, .slice a.S.Main.Cells.A a.S.Main.Cells.n a.S.Main.Cells.c, i64 a.S.Alt.W, i64 a.S.Alt.H, .slice a.S.Alt.Cells.A a.S.Alt.Cells.n a.S.Alt.Cells.c, .bool a.S.OnAlt, i64 a.S.X, i64 a.S.Y, .bool a.S.Wrap, i64 a.S.A.Fg, i64 a.S.A.Bg, .bool a.S.A.Bold, .bool a.S.A.Under, .bool a.S.A.Turn, i64 a.S.Top, i64 a.S.Bot, .bool a.S.NoWrap, .bool a.S.Hide, i64 a.S.SaveX, i64 a.S.SaveY, i64 a.S.SaveA.Fg, i64 a.S.SaveA.Bg, .bool a.S.SaveA.Bold, .bool a.S.SaveA.Under, .bool a.S.SaveA.Turn, .slice a.S.Tabs.A a.S.Tabs.n a.S.Tabs.c, i64 a.S.Limit, .slice a.S.Back.A a.S.Back.n a.S.Back.c], i64 left] w fun e w' => e = .returned (.int .i64 (szR left (totTerm a.dat))) ∧ St w [] [] w' := by
 have nb_a_P_Args := f_a.P.Args_n
 have nl_a_P_Args := f_a.P.Args.len
 have nb_a_P_Part := f_a.P.Part_n
 have nl_a_P_Part := f_a.P.Part.len
 have nb_a_S_Main_Cells := f_a.S.Main.Cells_n
 have nl_a_S_Main_Cells := f_a.S.Main.Cells.len
 have nb_a_S_Alt_Cells := f_a.S.Alt.Cells_n
 have nl_a_S_Alt_Cells := f_a.S.Alt.Cells.len
 have nb_a_S_Tabs := f_a.S.Tabs_n
 have nl_a_S_Tabs := f_a.S.Tabs.len
 have nb_a_S_Back := f_a.S.Back_n
 have nl_a_S_Back := f_a.S.Back.sl.len
 refine enter 18 Tryz.func158 rfl Tryz.ntmps158 rfl rfl ?_
 have hs1 := St.init w
 refine WC.sr (WL.bx hs1 rfl (fun b2 _ hs3 => WL.r 1 hs3 [] rfl (WL.nil (WC.sr (WL.r 3 hs3 [0] rfl ?_)))))
 refine WL.cl Tryz.call204 rfl (k40_ a.P _ _ (okVpR.st0 f_a.P hs3) ?_ ?_) ?_
 · first | assumption | omega
 · first | assumption | omega | exact szR_b (by assumption) (by omega) (by first | assumption | omega)
 rintro _ whs4 ⟨rfl, hs4⟩
 replace hs4 := hs3.call0 hs4
 refine ⟨_, rfl, WL.r 1 hs4 [] rfl (WL.nil (WC.seq (fun K5 hK5 => WC.r1 hs4 [] rfl ?_)))⟩
 refine WC.cD rfl (fun qh6 => ?_) (fun qh6 => ?_)
 ·try have soh6 := szR_ok qh6 (by omega)
  try have sbh6 := szR_b qh6 (by omega) (by first | assumption | omega)
  try have snh6 := szR_no qh6
  refine WC.r1 hs4 [] rfl (WC.ret (tkR ?_))
  clear hK5
  refine rtv rfl rfl hs4 ?_
  simp only [totGrid, totScr, totTerm, totVp, GridR.dat, ScrR.dat, TermR.dat, VpR.dat] at *; first | (rw [szR_lt (by omega)]; done) | (refine congrArg (Value.int _) ?_; symm; refine (szR_le ?_).trans ?_ <;> omega) | rfl
 try have soh6 := szR_ok qh6 (by omega)
 try have sbh6 := szR_b qh6 (by omega) (by first | assumption | omega)
 try have snh6 := szR_no qh6
 refine WC.skip (hK5 _ _ (WC.sr (WL.r 3 hs4 [0] rfl ?_)))
 refine WL.cl Tryz.call205 rfl (k46_ a.S _ _ (okScrR.st0 f_a.S hs4) ?_ ?_) ?_
 · first | assumption | omega
 · first | assumption | omega | exact szR_b (by assumption) (by omega) (by first | assumption | omega)
 rintro _ whs7 ⟨rfl, hs7⟩
 replace hs7 := hs4.call0 hs7
 refine ⟨_, rfl, WL.r 1 hs7 [] rfl (WL.nil (WC.seq (fun K8 hK8 => WC.r1 hs7 [] rfl ?_)))⟩
 refine WC.cD rfl (fun qh9 => ?_) (fun qh9 => ?_)
 ·try have soh9 := szR_ok qh9 (by omega)
  try have sbh9 := szR_b qh9 (by omega) (by first | assumption | omega)
  try have snh9 := szR_no qh9
  refine WC.r1 hs7 [] rfl (WC.ret (tkR ?_))
  clear hK8
  refine rtv rfl rfl hs7 ?_
  simp only [totGrid, totScr, totTerm, totVp, GridR.dat, ScrR.dat, TermR.dat, VpR.dat] at *; first | (rw [szR_lt (by omega)]; done) | (refine congrArg (Value.int _) ?_; symm; refine (szR_le ?_).trans ?_ <;> omega) | rfl
 try have soh9 := szR_ok qh9 (by omega)
 try have sbh9 := szR_b qh9 (by omega) (by first | assumption | omega)
 try have snh9 := szR_no qh9
 refine WC.skip (hK8 _ _ (WC.r1 hs7 [] rfl (WC.ret (rtv rfl rfl hs7 ?_))))
 simp only [totGrid, totScr, totTerm, totVp, GridR.dat, ScrR.dat, TermR.dat, VpR.dat] at *; first | (rw [szR_lt (by omega)]; done) | (refine congrArg (Value.int _) ?_; symm; refine (szR_le ?_).trans ?_ <;> omega) | rfl
theorem k49_ (q : WinR) (b_p : Nat) (p : Int) (w : World) (f_q : okWinR 549755813888 w q) (f_p : SlF encI w (some ⟨b_p, 0, none⟩) 1 [p]) (hq : q.Tree.n ≤ 1048576) :
    Calls Tryz.prog 45 #[.agg #[i64 q.Id, .string q.Name, .slice q.Tree.A q.Tree.n q.Tree.c, i64 q.Active, .bool q.Zoom], .pointer (some ⟨b_p, 0, none⟩)] w fun e w' => e = .returned (.bool (hasI (leavesL q.Tree.xs) p)) ∧ St w [] [] w' := by
 have nz_q_Name := f_q.Name_z
 have nb_q_Tree := f_q.Tree_n
 have nl_q_Tree := f_q.Tree.len
 have hll := leavesL_len q.Tree.xs
 refine enter 9 Tryz.func45 rfl Tryz.ntmps45 rfl rfl ?_
 have hs1 := St.init w
 refine WC.sr (WL.bx hs1 rfl (fun b2 _ hs3 => WL.r 1 hs3 [] rfl (WL.nil (WC.seq (fun K4 hK4 => WC.rH hs3 hs3 (fun _ hs5 => ?_))))))
 refine WH.rn [0, 1] hs5 [0] rfl rfl ?_
 refine WH.take 3 rfl (by kernel_rfl) rfl rfl rfl hs5 (fun w_ hs_ => (Run.load Tryz.isAgg3 rfl rfl (SlF.var (SlF.st0 f_p (hs_ : St _ _ _ _)) rfl))) ?_
 refine WH.o1 2 rfl (WL.cl Tryz.call47 rfl (k36_ _ _ _ _ _ (SlF.st0 f_q.Tree hs5) ?_) ?_)
 · first | assumption | rfl | omega
 rintro _ whs6 ⟨A7, c8, L1_9, rfl, hs6, ho10⟩
 replace hs6 := hs5.callF hs6
 refine ⟨_, rfl, ?_⟩
 replace hs6 := St.back [_] hs6
 refine WL.nil ⟨(hs6.rm L1_9), WH.o1 4 rfl (WL.cl Tryz.call46 rfl (k29_ _ _ _ _ _ _ (SlF.ofOwn ho10 (hs6.ow L1_9)) ?_) ?_)⟩
 · first | assumption | rfl | omega
 rintro _ whs11 ⟨rfl, hs11⟩
 replace hs11 := hs6.call0 hs11
 refine ⟨_, rfl, WL.nil ⟨(hs11.rm L1_9), WH.rn [5] (hs11.rm L1_9) [] rfl rfl (WH.dn (hK4 _ _ (WC.ret (rtv rfl rfl hs11 ?_))))⟩⟩
 rfl
theorem k50_ (A_s : Option Addr) (n_s c_s : Nat) (s : List WinR) (b_p : Nat) (p : Int) (w : World) (f_s : SlN encWinR (okWinR 549755813888) w A_s n_s s) (f_p : SlF encI w (some ⟨b_p, 0, none⟩) 1 [p]) (hn : n_s ≤ 549755813888) (hW : ∀ y, y ∈ s → y.Tree.n ≤ 1048576) :
    Calls Tryz.prog 44 #[.slice A_s n_s c_s, .func (.func 45) #[] #[.pointer (some ⟨b_p, 0, none⟩)]] w fun e w' => e = .returned (.int .i64 (findI (fun q : WinR => hasI (leavesL q.Tree.xs) p) s)) ∧ St w [] [] w' := by
 have hsl := f_s.sl.len
 refine enter 19 Tryz.func44 rfl Tryz.ntmps44 rfl rfl ?_
 have hs1 := St.init w
 refine WC.r1 hs1 [] rfl (WC.seq (fun K2 hK2 => WC.r1 hs1 [] rfl (WC.block ?_)))
 refine WC.lS [0, 1, 7] rfl hs1 (fun k_ f w' => ∃ (i : Nat), k_ = n_s - i ∧ (i ≤ n_s) ∧ (∀ j, j < i → (fun q : WinR => hasI (leavesL q.Tree.xs) p) (gat encWinR s j) = false) ∧ Sub [(8, .int .i64 i)] f) ((fun (i : Nat) => n_s - i) (0)) ?_ ?_
 ·refine ⟨0, rfl, ?_, ?_, ⟨rfl, trivial⟩⟩
  · exact Nat.zero_le _
  · exact fun j hj => absurd hj (by omega)
 clear hs1
 rintro _ f w ⟨i, rfl, p0, p1, hG⟩ hF hs3
 refine WC.sub _ (hG.app hF) ?_
 clear hG hF
 refine WC.r1 hs3 [] rfl (WC.seq (fun K4 hK4 => ?_))
 refine WC.cond rfl (fun h5 => ?_) (fun h5 => ?_)
 ·have qh5 := h5
  try simp only [decide_eq_true_eq, decide_eq_false_iff_not] at qh5
  have hWi := hW (gat encWinR s i) (gat_mem (by omega))
  refine WC.skip (hK4 _ _ (WC.seq (fun K6 hK6 => WC.block (WC.r1 hs3 [] rfl (WC.sr (WL.r 3 hs3 [] rfl ?_))))))
  refine WL.val rfl rfl rfl (Run.idxN Tryz.runUnderlying30 Tryz.sizeOf58 rfl rfl rfl ?_ ?_ ?_) ?_
  · exact SlF.some_ (SlF.st0 f_s.sl hs3)
  · omega
  · omega
  refine WL.val rfl rfl rfl (Run.loadA Tryz.isAgg58 Tryz.sizeOf58 rfl rfl (SlF.whole (SlF.st0 f_s.sl hs3) ?_)) ?_
  · omega
  refine WL.call rfl rfl rfl (Run.callC Tryz.call45 rfl rfl rfl) (k49_ (gat encWinR s i) _ _ _ (okWinR.st0 (SlN.nth f_s (by omega)) hs3) (SlF.st0 f_p hs3) ?_) ?_
  · first | assumption | rfl | omega
  rintro _ whs7 ⟨rfl, hs7⟩
  replace hs7 := hs3.call0 hs7
  refine ⟨_, rfl, WL.nil (WC.cond rfl (fun h8 => ?_) (fun h8 => ?_))⟩
  ·have qh8 := h8
   try simp only [decide_eq_true_eq, decide_eq_false_iff_not] at qh8
   refine WC.r1 hs7 [] rfl (WC.ret (ibR (tkR (tkR (ibR (tkR ?_))))))
   clear hK6 hK2
   refine rtv rfl rfl hs7 ?_
   rw [findI_some (F := encWinR) (by rw [f_s.sl.len]; omega) p1 h8]
  have qh8 := h8
  try simp only [decide_eq_true_eq, decide_eq_false_iff_not] at qh8
  refine WC.skip (hK6 _ _ (WC.region (WL.r 2 hs7 [] rfl (WL.nil (tkN ?_)))))
  refine ⟨sbF rfl, hs7, _, ?_, i + 1, rfl, ?_, ?_, ⟨rfl, trivial⟩⟩
  · omega
  · omega
  · intro j hj; rcases Nat.lt_or_ge j i with h_ | h_
    · exact p1 j h_
    · obtain rfl : j = i := by omega
      exact h8
 have qh5 := h5
 try simp only [decide_eq_true_eq, decide_eq_false_iff_not] at qh5
 refine WC.exit (hK2 _ _ (WC.r1 hs3 [] rfl (WC.ret (rtv rfl rfl hs3 ?_))))
 rw [findI_none (F := encWinR) (fun j hj => p1 j (by rw [f_s.sl.len] at hj; omega))]
theorem k51_ (s : StateR) (p : Int) (w : World) (f_s : okStateR 549755813888 w s) (hT : totState s.dat ≤ 1048576) :
    Calls Tryz.prog 14 #[.agg #[i64 s.W, i64 s.H, i64 s.Limit, i64 s.Next, .slice s.Panes.A s.Panes.n s.Panes.c, .slice s.Wins.A s.Wins.n s.Wins.c, .slice s.Sess.A s.Sess.n s.Sess.c], i64 p] w fun e w' => e = .returned (.int .i64 (findI (winHas p) s.dat.Wins)) ∧ St w [] [] w' := by
 have nb_s_Panes := f_s.Panes_n
 have nl_s_Panes := f_s.Panes.sl.len
 have nb_s_Wins := f_s.Wins_n
 have nl_s_Wins := f_s.Wins.sl.len
 have nb_s_Sess := f_s.Sess_n
 have nl_s_Sess := f_s.Sess.sl.len
 have hsm0 : smState 1048576 s.dat := totState_sm hT
 have hWn : ∀ y, y ∈ s.Wins.xs → y.Tree.n ≤ 1048576 := fun y hy => by have h1 := (f_s.Wins.all y hy).Tree.len; have h2 : y.Tree.xs.length ≤ 1048576 := (hsm0.2.2.2.1 _ (List.mem_map_of_mem hy)).2; omega
 refine enter 9 Tryz.func14 rfl Tryz.ntmps14 rfl rfl ?_
 have hs1 := St.init w
 refine WC.sr (WL.bx hs1 rfl (fun b2 _ hs3 => WL.bx hs3 rfl (fun b4 _ hs5 => WL.r 1 hs5 [] rfl (WL.nil (WC.sr (WL.r 2 hs5 [1] rfl (WL.val rfl rfl rfl (Run.makeFunc rfl rfl) ?_)))))))
 refine WL.cl Tryz.call44 rfl (k50_ _ _ _ _ _ _ _ (SlN.st0 okWinR.st0 f_s.Wins hs5) (SlF.own1 (hs5.own _ (nthL_mem (i := 0) rfl)).1) ?_ ?_) ?_
 iterate 2 first | assumption | rfl | omega
 rintro _ whs6 ⟨rfl, hs6⟩
 replace hs6 := hs5.call0 hs6
 refine ⟨_, rfl, WL.r 1 hs6 [] rfl (WL.nil (WC.ret (rtv rfl rfl hs6 ?_)))⟩
 rw [show s.dat.Wins = s.Wins.xs.map WinR.dat from rfl, findI_map]; rfl
theorem k52_ (s : StateR) (p : Int) (w : World) (f_s : okStateR 549755813888 w s) (hT : totState s.dat ≤ 1048576) :
    Calls Tryz.prog 12 #[.agg #[i64 s.W, i64 s.H, i64 s.Limit, i64 s.Next, .slice s.Panes.A s.Panes.n s.Panes.c, .slice s.Wins.A s.Wins.n s.Wins.c, .slice s.Sess.A s.Sess.n s.Sess.c], i64 p] w fun e w' => e = .returned (.int .i64 (findI (winHas p) s.dat.Wins)) ∧ St w [] [] w' := by
 have nb_s_Panes := f_s.Panes_n
 have nl_s_Panes := f_s.Panes.sl.len
 have nb_s_Wins := f_s.Wins_n
 have nl_s_Wins := f_s.Wins.sl.len
 have nb_s_Sess := f_s.Sess_n
 have nl_s_Sess := f_s.Sess.sl.len
 have hsm0 : smState 1048576 s.dat := totState_sm hT
 have hWn : ∀ y, y ∈ s.Wins.xs → y.Tree.n ≤ 1048576 := fun y hy => by have h1 := (f_s.Wins.all y hy).Tree.len; have h2 : y.Tree.xs.length ≤ 1048576 := (hsm0.2.2.2.1 _ (List.mem_map_of_mem hy)).2; omega
 refine enter 22 Tryz.func12 rfl Tryz.ntmps12 rfl rfl ?_
 have hs1 := St.init w
 refine WC.sr (WL.bx hs1 rfl (fun b2 _ hs3 => WL.r 1 hs3 [] rfl (WL.nil (WC.seq (fun K4 hK4 => WC.r1 hs3 [0] rfl (WC.block ?_))))))
 refine WC.lS [1, 8, 9] rfl hs3 (fun k_ f w' => ∃ (i : Nat), k_ = s.Wins.n - i ∧ (i ≤ s.Wins.n) ∧ (∀ j, j < i → (fun q : WinR => hasI (leavesL q.Tree.xs) p) (gat encWinR s.Wins.xs j) = false) ∧ Sub [(10, .int .i64 i)] f) ((fun (i : Nat) => s.Wins.n - i) (0)) ?_ ?_
 ·refine ⟨0, rfl, ?_, ?_, ⟨rfl, trivial⟩⟩
  · exact Nat.zero_le _
  · exact fun j hj => absurd hj (by omega)
 clear hs3
 rintro _ f w ⟨i, rfl, p0, p1, hG⟩ hF hs5
 refine WC.sub _ (hG.app hF) ?_
 clear hG hF
 refine WC.r1 hs5 [] rfl (WC.seq (fun K6 hK6 => ?_))
 refine WC.cq rfl (fun h7 qh7 => ?_) (fun h7 qh7 => ?_)
 ·have hWi := hWn (gat encWinR s.Wins.xs i) (gat_mem (by omega))
  have hll := leavesL_len (gat encWinR s.Wins.xs i).Tree.xs
  have hTl := (SlN.nth f_s.Wins (show i < s.Wins.n by omega)).Tree.len
  refine WC.skip (hK6 _ _ (WC.seq (fun K8 hK8 => WC.block (WC.sr (WL.r 1 hs5 [] rfl ?_)))))
  refine WL.val rfl rfl rfl (Run.idxN Tryz.runUnderlying30 Tryz.sizeOf58 rfl rfl rfl ?_ ?_ ?_) ?_
  · exact SlF.some_ (SlF.st0 f_s.Wins.sl hs5)
  · omega
  · omega
  refine WL.val rfl rfl rfl (Run.loadA Tryz.isAgg58 Tryz.sizeOf58 rfl rfl (SlF.whole (SlF.st0 f_s.Wins.sl hs5) ?_)) ?_
  · omega
  refine WL.al hs5 Tryz.zeroValue58 rfl rfl (fun b9 _ hs10 => WL.r 1 hs10 [] rfl (WL.st tbk hs10 0 rfl rfl (fun _ hs11 => WL.nil (WC.sr (WL.r 2 hs11 [0] rfl ?_)))))
  refine WL.cl Tryz.call40 rfl (k32_ _ _ _ _ _ (SlF.st0 (SlN.nth f_s.Wins (by omega)).Tree hs11) ?_) ?_
  · first | assumption | rfl | omega
  rintro _ whs12 ⟨A13, c14, L1_15, rfl, hs12, ho16⟩
  replace hs12 := hs11.callF hs12
  refine ⟨_, rfl, ?_⟩
  replace hs12 := St.back [_, _] hs12
  refine WL.r 1 hs12 [] rfl (WL.cl Tryz.call39 rfl (k30_ _ _ _ _ _ _ (SlF.ofOwn ho16 (hs12.ow L1_15)) ?_) ?_)
  · first | assumption | rfl | omega
  rintro _ whs17 ⟨rfl, hs17⟩
  replace hs17 := hs12.call0 hs17
  refine ⟨_, rfl, WL.nil (WC.cq rfl (fun h18 qh18 => ?_) (fun h18 qh18 => ?_))⟩
  ·refine WC.r1 hs17 [] rfl (WC.ret (ibR (tkR (tkR (ibR (tkR ?_))))))
   clear hK8 hK4
   refine rtv rfl rfl hs17 ?_
   rw [show s.dat.Wins = s.Wins.xs.map WinR.dat from rfl, findI_map]; exact congrArg (Value.int _) (findI_some (F := encWinR) (p := (fun q : WinR => hasI (leavesL q.Tree.xs) p)) (xs := s.Wins.xs) (by omega) p1 h18).symm
  refine WC.skip (hK8 _ _ (WC.region (WL.r 2 hs17 [] rfl (WL.nil (tkN ?_)))))
  refine ⟨sbF rfl, (hs17.drop (by repeat (first | exact List.Sublist.refl _ | exact List.sublist_append_left _ _ | exact List.Sublist.trans (List.sublist_append_left _ _) (List.sublist_append_left _ _) | apply List.Sublist.cons | refine List.Sublist.trans ?_ (sR _)))), _, ?_, i + 1, rfl, ?_, ?_, ⟨rfl, trivial⟩⟩
  · omega
  · omega
  · intro j hj; rcases Nat.lt_or_ge j i with h_ | h_
    · exact p1 j h_
    · obtain rfl : j = i := by omega
      exact h18
 refine WC.exit (hK4 _ _ (WC.r1 hs5 [] rfl (WC.ret (rtv rfl rfl hs5 ?_))))
 rw [show s.dat.Wins = s.Wins.xs.map WinR.dat from rfl, findI_map]; exact congrArg (Value.int _) (findI_none (F := encWinR) (p := (fun q : WinR => hasI (leavesL q.Tree.xs) p)) (xs := s.Wins.xs) (fun j hj => p1 j (by omega))).symm
theorem inf71 : Tryz.prog.info? 71 = some Tryz.t71 := by kernel_rfl
set_option maxHeartbeats 1000000 in
theorem k53_ (n_Pane : Int) (n_Down : Bool) (n_First : Int) (r_Pane : Int) (r_X : Int) (r_Y : Int) (r_W : Int) (r_H : Int) (w : World) (hb : -1000000 ≤ n_First ∧ n_First ≤ 1000000 ∧ 0 ≤ r_X ∧ r_X ≤ 1000 ∧ 0 ≤ r_Y ∧ r_Y ≤ 1000 ∧ 0 ≤ r_W ∧ r_W ≤ 1000 ∧ 0 ≤ r_H ∧ r_H ≤ 1000) :
    Calls Tryz.prog 264 #[.agg #[i64 n_Pane, .bool n_Down, i64 n_First], .agg #[i64 r_Pane, i64 r_X, i64 r_Y, i64 r_W, i64 r_H]] w fun e w' => e = .returned (.tuple #[.agg (encRect.enc (firstR (⟨n_Pane, n_Down, n_First⟩ : NodeD) (⟨r_Pane, r_X, r_Y, r_W, r_H⟩ : RectD))).toArray, .agg (encRect.enc (secondR (⟨n_Pane, n_Down, n_First⟩ : NodeD) (⟨r_Pane, r_X, r_Y, r_W, r_H⟩ : RectD))).toArray, .bool (decide (3 ≤ sizeR (⟨n_Pane, n_Down, n_First⟩ : NodeD) (⟨r_Pane, r_X, r_Y, r_W, r_H⟩ : RectD)))]) ∧ St w [] [] w' := by
 refine enter 56 Tryz.func264 rfl Tryz.ntmps264 rfl rfl ?_
 have hs1 := St.init w
 refine WC.sr (WL.bx hs1 rfl (fun b2 _ hs3 => WL.bx hs3 rfl (fun b4 _ hs5 => WL.al hs5 Tryz.zeroValue71 rfl rfl (fun b6 _ hs7 => WL.al hs7 Tryz.zeroValue71 rfl rfl (fun b8 _ hs9 => WL.r 1 hs9 [] rfl (WL.nil (WC.seq (fun K10 hK10 => ?_))))))))
 apply WC.join2 (fun b11 b12 => (b11, .cells (List.toArray [i64 (r_Pane), i64 (r_X), i64 (r_Y), i64 (r_W), i64 (r_H)]) _ _) :: (b12, .cells (List.toArray [i64 (r_Pane), i64 (r_X), i64 (r_Y), i64 (r_W), i64 (r_H)]) _ _) :: (b8, _) :: (b6, _) :: (b4, _) :: (b2, _) :: _) (fun b11 b12 => [(0, _), (1, _), (2, _), (3, _), (4, _), (5, _), (6, _), (7, _), (8, _)])
 ·refine WC.rH hs9 hs9 (fun _ hs13 => ?_)
  refine WH.rn [0, 1] hs13 [2, 2] rfl rfl (WH.all [2, 3] (by kernel_rfl) rfl (WHs.cons (i := 2) rfl ?_ (WHs.cons (i := 3) rfl ?_ WHs.nil)))
  ·refine WL.al hs13 Tryz.zeroValue71 rfl rfl (fun b14 _ hs15 => WL.nil ⟨hs15.d1, WH.o1 3 rfl (WL.al hs15 Tryz.zeroValue71 rfl rfl (fun b16 _ hs17 => WL.nil ⟨hs17.d1.d1, WH.o1 4 rfl (WL.st tbk hs17 1 rfl rfl (fun _ hs18 => WL.nil ⟨hs18.d1.d1, ?_⟩))⟩))⟩)
   refine WH.o1 5 rfl (WL.st tbk hs18 0 rfl rfl (fun _ hs19 => WL.nil ⟨hs19.d1.d1, WH.dn (⟨rfl, b14, b16, (St.swap [] hs19), ⟨rfl, rfl, rfl, rfl, rfl, rfl, rfl, rfl, rfl, trivial⟩⟩)⟩))
  refine WL.al hs13 Tryz.zeroValue71 rfl rfl (fun b20 _ hs21 => WL.nil ⟨hs21.d1, WH.o1 2 rfl (WL.al hs21 Tryz.zeroValue71 rfl rfl (fun b22 _ hs23 => WL.nil ⟨hs23.d1.d1, WH.o1 4 rfl (WL.st tbk hs23 0 rfl rfl (fun _ hs24 => WL.nil ⟨hs24.d1.d1, ?_⟩))⟩))⟩)
  refine WH.o1 5 rfl (WL.st tbk hs24 1 rfl rfl (fun _ hs25 => WL.nil ⟨hs25.d1.d1, WH.dn (⟨rfl, b22, b20, hs25, ⟨rfl, rfl, rfl, rfl, rfl, rfl, rfl, rfl, rfl, trivial⟩⟩)⟩))
 ·rintro f_hs26 whs26 ⟨b11, b12, hs26, hG27⟩
  replace hs26 : St _ _ _ _ := hs26
  refine hK10 _ _ (WC.sub _ hG27 (WC.r1 hs26 [4] rfl (WC.seq (fun K28 hK28 => WC.r1 hs26 [5] rfl ?_))))
  refine WC.cq rfl (fun h29 qh29 => ?_) (fun h29 qh29 => ?_)
  ·have hd : n_Down = true := qh29
   have e1 : firstR (⟨n_Pane, n_Down, n_First⟩ : NodeD) (⟨r_Pane, r_X, r_Y, r_W, r_H⟩ : RectD) = ⟨r_Pane, r_X, r_Y, r_W, min n_First (r_H - 2)⟩ := by simp [firstR, hd]
   have e2 : secondR (⟨n_Pane, n_Down, n_First⟩ : NodeD) (⟨r_Pane, r_X, r_Y, r_W, r_H⟩ : RectD) = ⟨r_Pane, r_X, r_Y + min n_First (r_H - 2) + 1, r_W, r_H - min n_First (r_H - 2) - 1⟩ := by simp [secondR, hd]
   have e3 : sizeR (⟨n_Pane, n_Down, n_First⟩ : NodeD) (⟨r_Pane, r_X, r_Y, r_W, r_H⟩ : RectD) = r_H := by simp [sizeR, hd]
   refine WC.region (WL.r 3 hs26 [4] rfl (WL.nil (hK28 _ _ (WC.r1 hs26 [5] rfl (WC.seq (fun K30 hK30 => WC.r1 hs26 [5] rfl (WC.condT rfl h29 ?_)))))))
   apply WC.join0 ((b11, .cells (List.toArray [i64 (r_Pane), i64 (r_X), i64 (r_Y), i64 (r_W), i64 (min n_First (r_H - 2))]) _ _) :: (b12, .cells (List.toArray [i64 (r_Pane), i64 (r_X), i64 (r_Y + min n_First (r_H - 2) + 1), i64 (r_W), i64 (r_H - min n_First (r_H - 2) - 1)]) _ _) :: (b8, _) :: (b6, _) :: (b4, _) :: (b2, _) :: _) ([(0, _), (1, _), (2, _), (3, _), (4, _), (5, _), (6, _), (7, _), (8, _), (9, _), (10, _), (13, _), (14, _), (15, _), (16, _), (17, _), (18, _), (19, _), (20, _), (21, _), (22, _), (23, _), (24, _), (25, _)])
   ·refine WC.rH hs26.d1.d1 hs26 (fun _ hs32 => ?_)
    refine WH.rn [0, 1, 2, 3, 4, 5, 6, 7, 8, 9, 10] hs32.d1.d1 [2] rfl rfl (WH.o1 11 rfl (WL.st tbk hs32 0 rfl rfl (fun _ hs33 => WL.nil ⟨hs33.d1.d1, WH.rn [12] hs33.d1.d1 [] rfl rfl (WH.o1 13 rfl (WL.st tbk hs33 1 rfl rfl (fun _ hs34 => WL.nil ⟨hs34.d1.d1, ?_⟩)))⟩)))
    refine WH.rn [14] hs34.d1.d1 [] rfl rfl (WH.o1 15 rfl (WL.st tbk hs34 1 rfl rfl (fun _ hs35 => WL.nil ⟨hs35.d1.d1, WH.dn (⟨rfl, hs35, ⟨rfl, rfl, rfl, rfl, rfl, rfl, rfl, rfl, rfl, rfl, rfl, rfl, rfl, rfl, rfl, rfl, rfl, rfl, rfl, rfl, rfl, rfl, rfl, rfl, trivial⟩⟩)⟩)))
   ·rintro f_hs36 whs36 ⟨hs36, hG37⟩
    replace hs36 : St _ _ _ _ := hs36
    refine hK30 _ _ (WC.sub _ hG37 (WC.seq (fun K38 hK38 => ?_)))
    apply WC.join0 ((b11, _) :: (b12, _) :: (b8, .cells (List.toArray [i64 (r_Pane), i64 (r_X), i64 (r_Y + min n_First (r_H - 2) + 1), i64 (r_W), i64 (r_H - min n_First (r_H - 2) - 1)]) _ _) :: (b6, .cells (List.toArray [i64 (r_Pane), i64 (r_X), i64 (r_Y), i64 (r_W), i64 (min n_First (r_H - 2))]) _ _) :: (b4, _) :: (b2, _) :: _) ([(0, _), (1, _), (2, _), (3, _), (4, _), (5, _), (7, _), (8, _), (9, _), (10, _), (13, _), (14, _), (15, _), (16, _), (17, _), (18, _), (19, _), (20, _), (21, _), (22, _), (23, _), (24, _), (25, _), (6, _)])
    ·refine WC.rH ((hs36.fb b8).d1.fb b6).d1 hs36 (fun _ hs39 => ?_)
     refine WH.rn [0, 1, 2, 3] ((hs39.fb b8).d1.fb b6).d1 [0, 1] rfl rfl (WH.o1 4 rfl (WL.st tbk hs39 3 rfl rfl (fun _ hs40 => WL.nil ⟨((hs40.fb b8).d1.fb b6).d1, WH.o1 5 rfl (WL.st tbk hs40 2 rfl rfl (fun _ hs41 => WL.nil ⟨((hs41.fb b8).d1.fb b6).d1, WH.rn [6] ((hs41.fb b8).d1.fb b6).d1 [] rfl rfl ?_⟩))⟩)))
     refine WH.dn (⟨rfl, hs41, ⟨rfl, rfl, rfl, rfl, rfl, rfl, rfl, rfl, rfl, rfl, rfl, rfl, rfl, rfl, rfl, rfl, rfl, rfl, rfl, rfl, rfl, rfl, rfl, rfl, trivial⟩⟩)
    ·rintro f_hs42 whs42 ⟨hs42, hG43⟩
     replace hs42 : St _ _ _ _ := hs42
     refine hK38 _ _ (WC.sub _ hG43 (WC.ret (retV3 rfl (resV.cellA tbk hs42 3 rfl rfl rfl rfl) (resV.cellA tbk hs42 2 rfl rfl rfl rfl) (resV.tmp rfl) (⟨congrArg Ending.returned ?_, hs42.nil⟩))))
     rw [e1, e2, e3]; rfl
  have hd : n_Down = false := qh29
  have e1 : firstR (⟨n_Pane, n_Down, n_First⟩ : NodeD) (⟨r_Pane, r_X, r_Y, r_W, r_H⟩ : RectD) = ⟨r_Pane, r_X, r_Y, min n_First (r_W - 2), r_H⟩ := by simp [firstR, hd]
  have e2 : secondR (⟨n_Pane, n_Down, n_First⟩ : NodeD) (⟨r_Pane, r_X, r_Y, r_W, r_H⟩ : RectD) = ⟨r_Pane, r_X + min n_First (r_W - 2) + 1, r_Y, r_W - min n_First (r_W - 2) - 1, r_H⟩ := by simp [secondR, hd]
  have e3 : sizeR (⟨n_Pane, n_Down, n_First⟩ : NodeD) (⟨r_Pane, r_X, r_Y, r_W, r_H⟩ : RectD) = r_W := by simp [sizeR, hd]
  refine WC.skip (hK28 _ _ (WC.r1 hs26 [5] rfl (WC.seq (fun K44 hK44 => WC.r1 hs26 [5] rfl (WC.condF rfl h29 ?_)))))
  apply WC.join0 ((b11, .cells (List.toArray [i64 (r_Pane), i64 (r_X), i64 (r_Y), i64 (min n_First (r_W - 2)), i64 (r_H)]) _ _) :: (b12, .cells (List.toArray [i64 (r_Pane), i64 (r_X + min n_First (r_W - 2) + 1), i64 (r_Y), i64 (r_W - min n_First (r_W - 2) - 1), i64 (r_H)]) _ _) :: (b8, _) :: (b6, _) :: (b4, _) :: (b2, _) :: _) ([(0, _), (1, _), (2, _), (3, _), (4, _), (5, _), (6, _), (7, _), (8, _), (9, _), (10, _), (13, _), (14, _), (15, _), (16, _), (19, _), (20, _), (21, _), (22, _), (23, _), (24, _), (25, _)])
  ·refine WC.rH hs26.d1.d1 hs26 (fun _ hs46 => ?_)
   refine WH.rn [0, 1, 2, 3, 4, 5, 6, 7, 8, 9, 10] hs46.d1.d1 [2] rfl rfl (WH.o1 11 rfl (WL.st tbk hs46 0 rfl rfl (fun _ hs47 => WL.nil ⟨hs47.d1.d1, WH.rn [12] hs47.d1.d1 [] rfl rfl (WH.o1 13 rfl (WL.st tbk hs47 1 rfl rfl (fun _ hs48 => WL.nil ⟨hs48.d1.d1, ?_⟩)))⟩)))
   refine WH.rn [14] hs48.d1.d1 [] rfl rfl (WH.o1 15 rfl (WL.st tbk hs48 1 rfl rfl (fun _ hs49 => WL.nil ⟨hs49.d1.d1, WH.dn (⟨rfl, hs49, ⟨rfl, rfl, rfl, rfl, rfl, rfl, rfl, rfl, rfl, rfl, rfl, rfl, rfl, rfl, rfl, rfl, rfl, rfl, rfl, rfl, rfl, rfl, trivial⟩⟩)⟩)))
  ·rintro f_hs50 whs50 ⟨hs50, hG51⟩
   replace hs50 : St _ _ _ _ := hs50
   refine hK44 _ _ (WC.sub _ hG51 (WC.seq (fun K52 hK52 => ?_)))
   apply WC.join0 ((b11, _) :: (b12, _) :: (b8, .cells (List.toArray [i64 (r_Pane), i64 (r_X + min n_First (r_W - 2) + 1), i64 (r_Y), i64 (r_W - min n_First (r_W - 2) - 1), i64 (r_H)]) _ _) :: (b6, .cells (List.toArray [i64 (r_Pane), i64 (r_X), i64 (r_Y), i64 (min n_First (r_W - 2)), i64 (r_H)]) _ _) :: (b4, _) :: (b2, _) :: _) ([(0, _), (1, _), (2, _), (3, _), (4, _), (5, _), (7, _), (8, _), (9, _), (10, _), (13, _), (14, _), (15, _), (16, _), (19, _), (20, _), (21, _), (22, _), (23, _), (24, _), (25, _), (6, _)])
   ·refine WC.rH ((hs50.fb b8).d1.fb b6).d1 hs50 (fun _ hs53 => ?_)
    refine WH.rn [0, 1, 2, 3] ((hs53.fb b8).d1.fb b6).d1 [0, 1] rfl rfl (WH.o1 4 rfl (WL.st tbk hs53 3 rfl rfl (fun _ hs54 => WL.nil ⟨((hs54.fb b8).d1.fb b6).d1, WH.o1 5 rfl (WL.st tbk hs54 2 rfl rfl (fun _ hs55 => WL.nil ⟨((hs55.fb b8).d1.fb b6).d1, WH.rn [6] ((hs55.fb b8).d1.fb b6).d1 [] rfl rfl ?_⟩))⟩)))
    refine WH.dn (⟨rfl, hs55, ⟨rfl, rfl, rfl, rfl, rfl, rfl, rfl, rfl, rfl, rfl, rfl, rfl, rfl, rfl, rfl, rfl, rfl, rfl, rfl, rfl, rfl, rfl, trivial⟩⟩)
   ·rintro f_hs56 whs56 ⟨hs56, hG57⟩
    replace hs56 : St _ _ _ _ := hs56
    refine hK52 _ _ (WC.sub _ hG57 (WC.ret (retV3 rfl (resV.cellA tbk hs56 3 rfl rfl rfl rfl) (resV.cellA tbk hs56 2 rfl rfl rfl rfl) (resV.tmp rfl) (⟨congrArg Ending.returned ?_, hs56.nil⟩))))
    rw [e1, e2, e3]; rfl
theorem k54_ (f : Int) (n : Int) (w : World) (hb : -1000000 ≤ n ∧ n ≤ 1000000) :
    Calls Tryz.prog 214 #[i64 f, i64 n] w fun e w' => e = .returned (.int .i64 (min f (n - 2))) ∧ St w [] [] w' := by
 refine enter 12 Tryz.func214 rfl Tryz.ntmps214 rfl rfl ?_
 have hs1 := St.init w
 refine WC.r1 hs1 [] rfl (WC.seq (fun K2 hK2 => WC.r1 hs1 [] rfl ?_))
 refine WC.cD rfl (fun qh3 => ?_) (fun qh3 => ?_)
 ·refine WC.r1 hs1 [] rfl (WC.ret (tkR ?_))
  clear hK2
  refine rtv rfl rfl hs1 ?_
  refine congrArg (Value.int .i64) ?_; omega
 refine WC.skip (hK2 _ _ (WC.r1 hs1 [] rfl (WC.ret (rtv rfl rfl hs1 ?_))))
 refine congrArg (Value.int .i64) ?_; omega
set_option maxHeartbeats 2000000 in
theorem k55_ (m_ : Nat) : ∀ (A_t : Option Addr) (n_t c_t : Nat) (t : List NodeD) (at_ : Int) (i : Nat) (r_Pane : Int) (r_X : Int) (r_Y : Int) (r_W : Int) (r_H : Int) (S : Tr) (w : World) (f_t : SlF encNode w A_t n_t t) (hn : n_t ≤ 268435456) (hat : at_ = (i : Int)) (hS : At t i S) (hr : Fine (⟨r_Pane, r_X, r_Y, r_W, r_H⟩ : RectD)) (hm_ : S.flat.length = m_), Calls Tryz.prog 172 #[.slice A_t n_t c_t, i64 at_, .agg #[i64 r_Pane, i64 r_X, i64 r_Y, i64 r_W, i64 r_H]] w fun e w' => ∃ A c L1, e = .returned (.tuple #[.slice A ((placeS S (⟨r_Pane, r_X, r_Y, r_W, r_H⟩ : RectD)).1).length c, .bool (placeS S (⟨r_Pane, r_X, r_Y, r_W, r_H⟩ : RectD)).2]) ∧ St w [] L1 w' ∧ OwnF encRect 71 (.slice A ((placeS S (⟨r_Pane, r_X, r_Y, r_W, r_H⟩ : RectD)).1).length c) ((placeS S (⟨r_Pane, r_X, r_Y, r_W, r_H⟩ : RectD)).1) L1 := by
 induction m_ using Nat.strongRecOn with
 | ind m_ IH =>
  intro A_t n_t c_t t at_ i r_Pane r_X r_Y r_W r_H S w f_t hn hat hS hr hm_
  subst hat
  have hl := f_t.len
  have hlt := hS.lt
  have hnode := hS.ok (gat encNode t i) (by have := hS.head; exact List.mem_of_mem_head? this)
  have hpb := nodeOk_pane hnode
  obtain ⟨hr0, hr1, hr2, hr3, hr4, hr5, hr6⟩ := id hr
  simp only at hr0 hr1 hr2 hr3 hr4 hr5 hr6
  refine enter 102 Tryz.func172 rfl Tryz.ntmps172 rfl rfl ?_
  have hs1 := St.init w
  refine WC.sr (WL.bx hs1 rfl (fun b2 _ hs3 => WL.r 2 hs3 [] rfl (WL.nil (WC.sr (WL.r 2 hs3 [] rfl ?_)))))
  refine WL.val rfl rfl rfl (Run.idxN Tryz.runUnderlying56 Tryz.sizeOf103 rfl rfl rfl ?_ ?_ ?_) ?_
  · exact SlF.some_ (SlF.st0 f_t hs3)
  · omega
  · omega
  refine WL.val rfl rfl rfl (Run.loadA Tryz.isAgg103 Tryz.sizeOf103 rfl rfl (SlF.whole (SlF.st0 f_t hs3) ?_)) ?_
  · omega
  refine WL.al hs3 Tryz.zeroValue103 rfl rfl (fun b4 _ hs5 => WL.st tbk hs5 0 rfl rfl (fun _ hs6 => WL.nil (WC.seq (fun K7 hK7 => WC.r1 hs6 [0] rfl ?_))))
  refine WC.cD rfl (fun qh8 => ?_) (fun qh8 => ?_)
  ·have hlf : isSplit t i = false := by simp [isSplit]; omega
   have hSe := hS.of_leaf hlf
   subst hSe
   refine WC.sr (WL.r 3 hs6 [0] rfl (WL.st tbk hs6 1 rfl rfl (fun _ hs9 => WL.nil (WC.sr (WL.r 1 hs9 [1] rfl (WL.buildF (F := encRect) hs9 ([⟨(gat encNode t i).Pane, r_X, r_Y, r_W, r_H⟩]) Tryz.runUnderlying158 Tryz.sizeOf71 Tryz.zeroValue71 rfl rfl rfl rfl rfl rfl rfl rfl rfl rfl rfl rfl (fun A13 c14 L10 whs11 hs11 ho12 => ?_)))))))
   replace hs11 := St.back [_, _] hs11
   refine WL.r 2 hs11 [] rfl (WL.nil (WC.ret (tkR ?_)))
   clear hK7
   refine retV2 rfl (resV.tmp rfl) (resV.tmp rfl) (⟨_, _, _, rfl, (St.keep1 (hs11.fr L10)), ho12⟩)
  have hsp : isSplit t i = true := by simp [isSplit]; omega
  obtain ⟨n, a, b, rfl⟩ := hS.of_split hsp
  obtain ⟨hn', ha, hb⟩ := hS.parts
  subst hn'
  have hF : 1 ≤ (gat encNode t i).First ∧ (gat encNode t i).First ≤ 120 := by
    have := hnode; rw [nodeOk, if_pos (by simpa [isSplit] using hsp), within_iff] at this; exact this
  have hle := hS.le
  simp only [Tr.flat, List.length_cons, List.length_append] at hle
  refine WC.skip (hK7 _ _ (WC.sr (WL.r 1 hs6 [1] rfl (WL.al hs6 Tryz.zeroValue71 rfl rfl (fun b15 _ hs16 => WL.st tbk hs16 0 rfl rfl (fun _ hs17 => WL.nil (WC.sr ?_)))))))
  refine WL.r 1 hs17 [2] rfl (WL.al hs17 Tryz.zeroValue71 rfl rfl (fun b18 _ hs19 => WL.st tbk hs19 0 rfl rfl (fun _ hs20 => WL.nil (WC.seq (fun K21 hK21 => WC.r1 hs20 [2] rfl ?_)))))
  refine WC.cq rfl (fun h22 qh22 => ?_) (fun h22 qh22 => ?_)
  ·have hd : (gat encNode t i).Down = true := qh22
   refine WC.seq (fun K23 hK23 => WC.r1 hs20 [3] rfl ?_)
   refine WC.cD rfl (fun qh24 => ?_) (fun qh24 => ?_)
   ·have hpl : placeS (.split (gat encNode t i) a b) (⟨r_Pane, r_X, r_Y, r_W, r_H⟩ : RectD) = ([], false) := by
      have : ¬ 3 ≤ sizeR (gat encNode t i) (⟨r_Pane, r_X, r_Y, r_W, r_H⟩ : RectD) := by simp only [sizeR, hd]; simp; omega
      simp only [placeS, if_neg this]
    refine WC.r1 hs20 [] rfl (WC.ret (tkR (tkR ?_)))
    clear hK23 hK21
    refine retV2 rfl (resV.tmp rfl) (resV.tmp rfl) ?_
    rw [hpl]
    exact ⟨_, _, _, rfl, hs20.nil, OwnF.nil encRect 71⟩
   have hs3 : 3 ≤ sizeR (gat encNode t i) (⟨r_Pane, r_X, r_Y, r_W, r_H⟩ : RectD) := by simp only [sizeR, hd]; simp; omega
   have hfe : firstR (gat encNode t i) (⟨r_Pane, r_X, r_Y, r_W, r_H⟩ : RectD) = ⟨r_Pane, r_X, r_Y, r_W, min (gat encNode t i).First (r_H - 2)⟩ := by simp [firstR, hd]
   have hse : secondR (gat encNode t i) (⟨r_Pane, r_X, r_Y, r_W, r_H⟩ : RectD) = ⟨r_Pane, r_X, r_Y + min (gat encNode t i).First (r_H - 2) + 1, r_W, r_H - min (gat encNode t i).First (r_H - 2) - 1⟩ := by simp [secondR, hd]
   have hpl : placeS (.split (gat encNode t i) a b) (⟨r_Pane, r_X, r_Y, r_W, r_H⟩ : RectD) = ((placeS a ⟨r_Pane, r_X, r_Y, r_W, min (gat encNode t i).First (r_H - 2)⟩).1 ++ (placeS b ⟨r_Pane, r_X, r_Y + min (gat encNode t i).First (r_H - 2) + 1, r_W, r_H - min (gat encNode t i).First (r_H - 2) - 1⟩).1, (placeS a ⟨r_Pane, r_X, r_Y, r_W, min (gat encNode t i).First (r_H - 2)⟩).2 && (placeS b ⟨r_Pane, r_X, r_Y + min (gat encNode t i).First (r_H - 2) + 1, r_W, r_H - min (gat encNode t i).First (r_H - 2) - 1⟩).2) := by simp only [placeS, if_pos hs3, hfe, hse]
   refine WC.skip (hK23 _ _ (WC.sr (WL.r 4 hs20 [2, 3] rfl ?_)))
   refine WL.cl Tryz.call214 rfl (k54_ _ _ _ ?_) ?_
   · first | assumption | rfl | omega
   rintro _ whs25 ⟨rfl, hs25⟩
   replace hs25 := hs20.call0 hs25
   refine ⟨_, rfl, WL.r 1 hs25 [] rfl (WL.st tbk hs25 1 rfl rfl (fun _ hs26 => WL.nil (WC.sr (WL.r 7 hs26 [3, 1] rfl (WL.st tbk hs26 0 rfl rfl (fun _ hs27 => WL.nil ?_))))))⟩
   refine WC.region (WL.r 7 hs27 [3, 1] rfl (WL.st tbk hs27 0 rfl rfl (fun _ hs28 => WL.nil (hK21 _ _ (WC.sr (WL.r 4 hs28 [1] rfl ?_))))))
   refine WL.cl Tryz.call172 rfl (IH _ ?_ _ _ _ _ _ (i + 1) _ _ _ _ _ a _ (SlF.st0 f_t hs28) ?_ ?_ ?_ ?_ rfl) ?_
   · (rw [← hm_]; simp only [Tr.flat, List.length_cons, List.length_append]; omega)
   · exact hn
   · rfl
   · exact ha
   · exact hfe ▸ Fine.first hr hF.1 hs3
   rintro _ whs29 ⟨A30, c31, L1_32, rfl, hs29, ho33⟩
   replace hs29 := hs28.callF hs29
   refine ⟨_, rfl, ?_⟩
   replace hs29 := St.back [_, _, _, _] hs29
   refine WL.r 5 hs29 [] rfl (WL.nil (WC.seq (fun K34 hK34 => WC.rH hs29 hs29 (fun _ hs35 => ?_))))
   refine WH.rn [0, 1, 2, 3, 5] hs35 [0] rfl rfl (WH.o1 4 rfl (WL.cl Tryz.call161 rfl (k26_ _ _ _ _ (i + 1) _ (SlF.st0 f_t hs35) ?_ ?_) ?_))
   iterate 2 omega
   rintro _ whs36 ⟨rfl, hs36⟩
   replace hs36 := hs35.call0 hs36
   refine ⟨_, rfl, WL.nil ⟨hs36, WH.o1 6 rfl (WL.cl Tryz.call172 rfl (IH _ ?_ _ _ _ _ _ (i + 1 + a.flat.length) _ _ _ _ _ b _ (SlF.st0 f_t hs36) ?_ ?_ ?_ ?_ rfl) ?_)⟩⟩
   · (rw [← hm_]; simp only [Tr.flat, List.length_cons, List.length_append]; omega)
   · exact hn
   · (have := ha.sEnd; omega)
   · exact hb
   · exact hse ▸ Fine.second hr hF.1 hs3
   rintro _ whs37 ⟨A38, c39, L1_40, rfl, hs37, ho41⟩
   replace hs37 := hs36.callF hs37
   refine ⟨_, rfl, ?_⟩
   replace hs37 := St.back [_, _, _, _] hs37
   refine WL.nil ⟨(hs37.rm L1_40), WH.rn [7, 8, 9, 10, 11] (hs37.rm L1_40) [] rfl rfl (WH.dn (hK34 _ _ (WC.sr (WL.r 2 hs37 [] rfl ?_))))⟩
   refine WL.appendG (hs37.fr L1_32) ho33 (SlF.src (SlF.ofOwn ho41 (hs37.ow L1_40)) Tryz.underlying158) Tryz.underlying158 inf71 rfl rfl rfl rfl rfl rfl rfl rfl rfl rfl ?_ (fun A45 c46 L42 whs43 hs43 ho44 => ?_)
   · refine Nat.le_trans (Nat.add_le_add placeS_len placeS_len) ?_; omega
   replace hs43 := St.back [_, _, _, _] hs43
   refine WL.r 2 hs43 [] rfl (WL.pA tbk 1 Acts.nil hs43 [] rfl rfl rfl rfl (fun g_ => trivial) (WL.r 2 hs43 [] rfl (WL.nil (WC.ret (retV2 rfl (resV.tmp rfl) (resV.tmp rfl) ?_)))))
   rw [hpl]
   exact ⟨_, _, _, rfl, (St.keep1 (hs43.fr L42)), ho44⟩
  have hd : (gat encNode t i).Down = false := qh22
  refine WC.seq (fun K47 hK47 => WC.r1 hs20 [3] rfl ?_)
  refine WC.cD rfl (fun qh48 => ?_) (fun qh48 => ?_)
  ·have hpl : placeS (.split (gat encNode t i) a b) (⟨r_Pane, r_X, r_Y, r_W, r_H⟩ : RectD) = ([], false) := by
     have : ¬ 3 ≤ sizeR (gat encNode t i) (⟨r_Pane, r_X, r_Y, r_W, r_H⟩ : RectD) := by simp only [sizeR, hd]; simp; omega
     simp only [placeS, if_neg this]
   refine WC.r1 hs20 [] rfl (WC.ret (tkR (tkR ?_)))
   clear hK47 hK21
   refine retV2 rfl (resV.tmp rfl) (resV.tmp rfl) ?_
   rw [hpl]
   exact ⟨_, _, _, rfl, hs20.nil, OwnF.nil encRect 71⟩
  have hs3 : 3 ≤ sizeR (gat encNode t i) (⟨r_Pane, r_X, r_Y, r_W, r_H⟩ : RectD) := by simp only [sizeR, hd]; simp; omega
  have hfe : firstR (gat encNode t i) (⟨r_Pane, r_X, r_Y, r_W, r_H⟩ : RectD) = ⟨r_Pane, r_X, r_Y, min (gat encNode t i).First (r_W - 2), r_H⟩ := by simp [firstR, hd]
  have hse : secondR (gat encNode t i) (⟨r_Pane, r_X, r_Y, r_W, r_H⟩ : RectD) = ⟨r_Pane, r_X + min (gat encNode t i).First (r_W - 2) + 1, r_Y, r_W - min (gat encNode t i).First (r_W - 2) - 1, r_H⟩ := by simp [secondR, hd]
  have hpl : placeS (.split (gat encNode t i) a b) (⟨r_Pane, r_X, r_Y, r_W, r_H⟩ : RectD) = ((placeS a ⟨r_Pane, r_X, r_Y, min (gat encNode t i).First (r_W - 2), r_H⟩).1 ++ (placeS b ⟨r_Pane, r_X + min (gat encNode t i).First (r_W - 2) + 1, r_Y, r_W - min (gat encNode t i).First (r_W - 2) - 1, r_H⟩).1, (placeS a ⟨r_Pane, r_X, r_Y, min (gat encNode t i).First (r_W - 2), r_H⟩).2 && (placeS b ⟨r_Pane, r_X + min (gat encNode t i).First (r_W - 2) + 1, r_Y, r_W - min (gat encNode t i).First (r_W - 2) - 1, r_H⟩).2) := by simp only [placeS, if_pos hs3, hfe, hse]
  refine WC.skip (hK47 _ _ (WC.sr (WL.r 4 hs20 [2, 3] rfl ?_)))
  refine WL.cl Tryz.call214 rfl (k54_ _ _ _ ?_) ?_
  · first | assumption | rfl | omega
  rintro _ whs49 ⟨rfl, hs49⟩
  replace hs49 := hs20.call0 hs49
  refine ⟨_, rfl, WL.r 1 hs49 [] rfl (WL.st tbk hs49 1 rfl rfl (fun _ hs50 => WL.nil (WC.sr (WL.r 7 hs50 [3, 1] rfl (WL.st tbk hs50 0 rfl rfl (fun _ hs51 => WL.nil ?_))))))⟩
  refine WC.region (WL.r 7 hs51 [3, 1] rfl (WL.st tbk hs51 0 rfl rfl (fun _ hs52 => WL.nil (hK21 _ _ (WC.sr (WL.r 4 hs52 [1] rfl ?_))))))
  refine WL.cl Tryz.call172 rfl (IH _ ?_ _ _ _ _ _ (i + 1) _ _ _ _ _ a _ (SlF.st0 f_t hs52) ?_ ?_ ?_ ?_ rfl) ?_
  · (rw [← hm_]; simp only [Tr.flat, List.length_cons, List.length_append]; omega)
  · exact hn
  · rfl
  · exact ha
  · exact hfe ▸ Fine.first hr hF.1 hs3
  rintro _ whs53 ⟨A54, c55, L1_56, rfl, hs53, ho57⟩
  replace hs53 := hs52.callF hs53
  refine ⟨_, rfl, ?_⟩
  replace hs53 := St.back [_, _, _, _] hs53
  refine WL.r 5 hs53 [] rfl (WL.nil (WC.seq (fun K58 hK58 => WC.rH hs53 hs53 (fun _ hs59 => ?_))))
  refine WH.rn [0, 1, 2, 3, 5] hs59 [0] rfl rfl (WH.o1 4 rfl (WL.cl Tryz.call161 rfl (k26_ _ _ _ _ (i + 1) _ (SlF.st0 f_t hs59) ?_ ?_) ?_))
  iterate 2 omega
  rintro _ whs60 ⟨rfl, hs60⟩
  replace hs60 := hs59.call0 hs60
  refine ⟨_, rfl, WL.nil ⟨hs60, WH.o1 6 rfl (WL.cl Tryz.call172 rfl (IH _ ?_ _ _ _ _ _ (i + 1 + a.flat.length) _ _ _ _ _ b _ (SlF.st0 f_t hs60) ?_ ?_ ?_ ?_ rfl) ?_)⟩⟩
  · (rw [← hm_]; simp only [Tr.flat, List.length_cons, List.length_append]; omega)
  · exact hn
  · (have := ha.sEnd; omega)
  · exact hb
  · exact hse ▸ Fine.second hr hF.1 hs3
  rintro _ whs61 ⟨A62, c63, L1_64, rfl, hs61, ho65⟩
  replace hs61 := hs60.callF hs61
  refine ⟨_, rfl, ?_⟩
  replace hs61 := St.back [_, _, _, _] hs61
  refine WL.nil ⟨(hs61.rm L1_64), WH.rn [7, 8, 9, 10, 11] (hs61.rm L1_64) [] rfl rfl (WH.dn (hK58 _ _ (WC.sr (WL.r 2 hs61 [] rfl ?_))))⟩
  refine WL.appendG (hs61.fr L1_56) ho57 (SlF.src (SlF.ofOwn ho65 (hs61.ow L1_64)) Tryz.underlying158) Tryz.underlying158 inf71 rfl rfl rfl rfl rfl rfl rfl rfl rfl rfl ?_ (fun A69 c70 L66 whs67 hs67 ho68 => ?_)
  · refine Nat.le_trans (Nat.add_le_add placeS_len placeS_len) ?_; omega
  replace hs67 := St.back [_, _, _, _] hs67
  refine WL.r 2 hs67 [] rfl (WL.pA tbk 1 Acts.nil hs67 [] rfl rfl rfl rfl (fun g_ => trivial) (WL.r 2 hs67 [] rfl (WL.nil (WC.ret (retV2 rfl (resV.tmp rfl) (resV.tmp rfl) ?_)))))
  rw [hpl]
  exact ⟨_, _, _, rfl, (St.keep1 (hs67.fr L66)), ho68⟩
theorem k56_ (A_t : Option Addr) (n_t c_t : Nat) (t : List NodeD) (at_ : Int) (i : Nat) (r_Pane : Int) (r_X : Int) (r_Y : Int) (r_W : Int) (r_H : Int) (S : Tr) (w : World) (f_t : SlF encNode w A_t n_t t) (hn : n_t ≤ 268435456) (hat : at_ = (i : Int)) (hS : At t i S) (hr : Fine (⟨r_Pane, r_X, r_Y, r_W, r_H⟩ : RectD)) :
    Calls Tryz.prog 172 #[.slice A_t n_t c_t, i64 at_, .agg #[i64 r_Pane, i64 r_X, i64 r_Y, i64 r_W, i64 r_H]] w fun e w' => ∃ A c L1, e = .returned (.tuple #[.slice A ((placeS S (⟨r_Pane, r_X, r_Y, r_W, r_H⟩ : RectD)).1).length c, .bool (placeS S (⟨r_Pane, r_X, r_Y, r_W, r_H⟩ : RectD)).2]) ∧ St w [] L1 w' ∧ OwnF encRect 71 (.slice A ((placeS S (⟨r_Pane, r_X, r_Y, r_W, r_H⟩ : RectD)).1).length c) ((placeS S (⟨r_Pane, r_X, r_Y, r_W, r_H⟩ : RectD)).1) L1 := k55_ _ A_t n_t c_t t at_ i r_Pane r_X r_Y r_W r_H S w f_t hn hat hS hr rfl
set_option maxHeartbeats 2000000 in
theorem k57_ (m_ : Nat) : ∀ (A_t : Option Addr) (n_t c_t : Nat) (t : List NodeD) (at_ : Int) (i : Nat) (r_Pane r_X r_Y r_W r_H : Int) (S : Tr) (b_t b_o b_f b_p : Nat) (A_o : Option Addr) (c_o : Nat) (zs : List RectD) (L_o : Hp) (w : World) (f_t : SlF encNode w A_t n_t t) (g_t : SlF encH w (some ⟨b_t, 0, none⟩) 1 [⟨A_t, n_t, c_t⟩]) (g_p : SlF encFn w (some ⟨b_p, 0, none⟩) 1 [⟨.func 263, [.pointer (some ⟨b_t, 0, none⟩), .pointer (some ⟨b_o, 0, none⟩), .pointer (some ⟨b_f, 0, none⟩), .pointer (some ⟨b_p, 0, none⟩)]⟩]) (o_o : OwnF encRect 71 (.slice A_o zs.length c_o) zs L_o) (hh : ∀ p, p ∈ [(b_o, Obj.cells (List.toArray [.slice A_o (zs).length c_o]) 158 (0, 0)), (b_f, Obj.cells (List.toArray [.bool true]) 4 (0, 0))] ++ L_o → w.heap[p.1]? = some p.2) (hd : (([(b_o, Obj.cells (List.toArray [.slice A_o (zs).length c_o]) 158 (0, 0)), (b_f, Obj.cells (List.toArray [.bool true]) 4 (0, 0))] ++ L_o).map (·.1)).Nodup) (s_t : 0 < n_t → (adr A_t).block ∉ (([(b_o, Obj.cells (List.toArray [.slice A_o (zs).length c_o]) 158 (0, 0)), (b_f, Obj.cells (List.toArray [.bool true]) 4 (0, 0))] ++ L_o).map (·.1))) (v_t : 0 < 1 → (adr (some ⟨b_t, 0, none⟩)).block ∉ (([(b_o, Obj.cells (List.toArray [.slice A_o (zs).length c_o]) 158 (0, 0)), (b_f, Obj.cells (List.toArray [.bool true]) 4 (0, 0))] ++ L_o).map (·.1))) (v_p : 0 < 1 → (adr (some ⟨b_p, 0, none⟩)).block ∉ (([(b_o, Obj.cells (List.toArray [.slice A_o (zs).length c_o]) 158 (0, 0)), (b_f, Obj.cells (List.toArray [.bool true]) 4 (0, 0))] ++ L_o).map (·.1))) (hn : n_t ≤ 268435456) (hat : at_ = (i : Int)) (hS : At t i S) (hr : Fine (⟨r_Pane, r_X, r_Y, r_W, r_H⟩ : RectD)) (hz : zs.length + S.flat.length ≤ 268435456) (hm_ : S.flat.length = m_), Calls Tryz.prog 263 #[i64 at_, .agg #[i64 r_Pane, i64 r_X, i64 r_Y, i64 r_W, i64 r_H], .pointer (some ⟨b_t, 0, none⟩), .pointer (some ⟨b_o, 0, none⟩), .pointer (some ⟨b_f, 0, none⟩), .pointer (some ⟨b_p, 0, none⟩)] w fun e w' => ∃ A c L1, e = .returned (.tuple #[]) ∧ St w (([(b_o, Obj.cells (List.toArray [.slice A_o (zs).length c_o]) 158 (0, 0)), (b_f, Obj.cells (List.toArray [.bool true]) 4 (0, 0))] ++ L_o).map (·.1)) ((b_o, Obj.cells (List.toArray [.slice A (zs ++ (putL S (⟨r_Pane, r_X, r_Y, r_W, r_H⟩ : RectD)).1).length c]) 158 (0, 0)) :: (b_f, Obj.cells (List.toArray [.bool (putL S (⟨r_Pane, r_X, r_Y, r_W, r_H⟩ : RectD)).2]) 4 (0, 0)) :: L1) w' ∧ OwnF encRect 71 (.slice A (zs ++ (putL S (⟨r_Pane, r_X, r_Y, r_W, r_H⟩ : RectD)).1).length c) (zs ++ (putL S (⟨r_Pane, r_X, r_Y, r_W, r_H⟩ : RectD)).1) L1 := by
 induction m_ using Nat.strongRecOn with
 | ind m_ IH =>
  intro A_t n_t c_t t at_ i r_Pane r_X r_Y r_W r_H S b_t b_o b_f b_p A_o c_o zs L_o w f_t g_t g_p o_o hh hd s_t v_t v_p hn hat hS hr hz hm_
  subst hat
  have hl := f_t.len
  have hlt := hS.lt
  have hnode := hS.ok (gat encNode t i) (by have := hS.head; exact List.mem_of_mem_head? this)
  have hpb := nodeOk_pane hnode
  obtain ⟨hr0, hr1, hr2, hr3, hr4, hr5, hr6⟩ := id hr
  simp only at hr0 hr1 hr2 hr3 hr4 hr5 hr6
  have hst0 := St.takeN w [(b_o, Obj.cells (List.toArray [.slice A_o (zs).length c_o]) 158 (0, 0)), (b_f, Obj.cells (List.toArray [.bool true]) 4 (0, 0))] L_o hh hd
  refine enter 56 Tryz.func263 rfl Tryz.ntmps263 rfl rfl ?_
  have hs1 := hst0
  refine WC.sr (WL.bx hs1 rfl (fun b2 _ hs3 => WL.nil (WC.sr (WL.val rfl rfl rfl (Run.load Tryz.isAgg56 rfl rfl (SlF.var (v := .slice A_t n_t c_t) (SlF.st g_t hs3 v_t) rfl)) (WL.r 1 hs3 [] rfl ?_)))))
  refine WL.val rfl rfl rfl (Run.idxK (i) Tryz.runUnderlying56 Tryz.sizeOf103 rfl rfl rfl ?_ ?_ ?_) ?_
  · exact SlF.some_ (SlF.st f_t hs3 s_t)
  · omega
  · omega
  refine WL.val rfl rfl rfl (Run.fieldO Tryz.runUnderlying103 rfl rfl rfl Tryz.sizeOf3 rfl) (WL.val rfl rfl rfl (Run.load Tryz.isAgg3 rfl rfl (SlF.fld (SlF.st f_t hs3 s_t) ?_ rfl)) ?_)
  · omega
  refine WL.r 1 hs3 [] rfl (WL.st tbk hs3 0 rfl rfl (fun _ hs4 => WL.nil (WC.sr (WL.r 2 hs4 [1, 0] rfl (WL.buildSlice hs4 Tryz.runUnderlying158 Tryz.sizeOf71 Tryz.zeroValue71 rfl rfl rfl rfl rfl rfl rfl rfl rfl rfl (fun b5 whs6 hs6 => ?_))))))
  refine WL.appendG (hs6.fr L_o) o_o (srcF (F := encRect) (ys := [⟨(gat encNode t i).Pane, r_X, r_Y, r_W, r_H⟩]) Tryz.underlying158 rfl rfl (hs6.own _ (nthL_mem (i := 0) rfl)).1) Tryz.underlying158 inf71 rfl rfl rfl rfl rfl rfl rfl rfl rfl rfl ?_ (fun A10 c11 L7 whs8 hs8 ho9 => ?_)
  · simp only [List.length_cons, List.length_nil]; omega
  replace hs8 := St.back [_, _, _, _] hs8
  refine WL.st tbk hs8 2 rfl rfl (fun _ hs12 => WL.nil (WC.seq (fun K13 hK13 => WC.sr (WL.val rfl rfl rfl (Run.load Tryz.isAgg56 rfl rfl (SlF.var (v := .slice A_t n_t c_t) (SlF.st g_t hs12 v_t) rfl)) (WL.r 1 hs12 [] rfl ?_)))))
  refine WL.val rfl rfl rfl (Run.idxK (i) Tryz.runUnderlying56 Tryz.sizeOf103 rfl rfl rfl ?_ ?_ ?_) ?_
  · exact SlF.some_ (SlF.st f_t hs12 s_t)
  · omega
  · omega
  refine WL.val rfl rfl rfl (Run.loadA Tryz.isAgg103 Tryz.sizeOf103 rfl rfl (SlF.whole (SlF.st f_t hs12 s_t) ?_)) ?_
  · omega
  refine WL.cl Tryz.call168 rfl (k22_ _ _ _ _) ?_
  rintro _ whs14 ⟨rfl, hs14⟩
  replace hs14 := hs12.call0 hs14
  refine ⟨_, rfl, WL.r 1 hs14 [] rfl (WL.pO tbk 2 Acts.nil hs14 [3] rfl rfl rfl rfl (fun g_ => ⟨rfl, trivial⟩) (WL.nil (WC.cq rfl (fun h15 qh15 => ?_) (fun h15 qh15 => ?_))))⟩
  ·have hlf : isSplit t i = false := by simp at qh15; simp [isSplit]; omega
   have hSe := hS.of_leaf hlf
   subst hSe
   have hpl : putL (.leaf (gat encNode t i)) (⟨r_Pane, r_X, r_Y, r_W, r_H⟩ : RectD) = ([⟨(gat encNode t i).Pane, r_X, r_Y, r_W, r_H⟩], true) := by simp [putL]
   refine WC.ret (tkR ?_)
   clear hK13
   refine retK0' rfl ?_
   rw [hpl]
   have hx_ := OwnF.eqOf (xs := zs ++ [⟨(gat encNode t i).Pane, r_X, r_Y, r_W, r_H⟩]) ho9 (by simp)
   rw [← hx_]
   exact ⟨_, _, _, rfl, St.keep1 (St.front (L1 := (b_o, _) :: (b_f, _) :: L7) [_, _] hs14), ho9⟩
  have hsp : isSplit t i = true := by simp at qh15; simp [isSplit]; omega
  obtain ⟨n, a, b, rfl⟩ := hS.of_split hsp
  obtain ⟨hn', ha, hb⟩ := hS.parts
  subst hn'
  have hF : 1 ≤ (gat encNode t i).First ∧ (gat encNode t i).First ≤ 120 := by
    have := hnode; rw [nodeOk, if_pos (by simpa [isSplit] using hsp), within_iff] at this; exact this
  have hle := hS.le
  simp only [Tr.flat, List.length_cons, List.length_append] at hle
  have hRR : (⟨r_Pane, r_X, r_Y, r_W, r_H⟩ : RectD) = (⟨(gat encNode t i).Pane, r_X, r_Y, r_W, r_H⟩ : RectD) := by
    have h1_ : (gat encNode t i).Pane = 0 := by simpa [isSplit] using hsp
    rw [h1_, hr0]
  refine WC.skip (hK13 _ _ (WC.seq (fun K16 hK16 => ?_)))
  apply WC.join2 (fun b17 b18 => (b17, .cells (List.toArray (encRect.enc (firstR (gat encNode t i) (⟨(gat encNode t i).Pane, r_X, r_Y, r_W, r_H⟩ : RectD)))) _ _) :: (b18, .cells (List.toArray (encRect.enc (secondR (gat encNode t i) (⟨(gat encNode t i).Pane, r_X, r_Y, r_W, r_H⟩ : RectD)))) _ _) :: (b5, _) :: (b2, _) :: (b_o, _) :: (b_f, _) :: _) (fun b17 b18 => [(0, _), (1, _), (2, _), (3, _), (4, _), (5, _), (7, _), (11, _), (12, _), (13, _), (14, _), (15, _), (16, _), (17, _), (18, _), (19, _), (20, _), (21, _), (22, _), (23, _), (24, _), (25, _), (26, _), (29, _), (8, _), (9, _), (10, _)])
  ·refine WC.rH hs14 hs14 (fun _ hs19 => ?_)
   refine WH.take 0 rfl (by kernel_rfl) rfl rfl rfl hs19 (fun w_ hs_ => (Run.load Tryz.isAgg56 rfl rfl (SlF.var (v := .slice A_t n_t c_t) (SlF.st g_t (hs_ : St _ _ _ _) v_t) rfl))) ?_
   refine WH.rn [1] hs19 [] rfl rfl ?_
   refine WH.take 2 rfl (by kernel_rfl) rfl rfl rfl hs19 (fun w_ hs_ => (Run.idxK (i) Tryz.runUnderlying56 Tryz.sizeOf103 rfl rfl rfl ?_ ?_ ?_)) ?_
   · exact SlF.some_ (SlF.st f_t (hs_ : St _ _ _ _) s_t)
   · omega
   · omega
   refine WH.take 3 rfl (by kernel_rfl) rfl rfl rfl hs19 (fun w_ hs_ => (Run.loadA Tryz.isAgg103 Tryz.sizeOf103 rfl rfl (SlF.whole (SlF.st f_t (hs_ : St _ _ _ _) s_t) ?_))) ?_
   · omega
   refine WH.rn [4] hs19 [1] rfl rfl (WH.all [5, 10, 11] (by kernel_rfl) rfl (WHs.cons (i := 5) rfl ?_ (WHs.cons (i := 10) rfl ?_ (WHs.cons (i := 11) rfl ?_ WHs.nil))))
   ·refine WL.cl Tryz.call264 rfl (k53_ _ _ _ _ _ _ _ _ _ ?_) ?_
    · (refine ⟨?_, ?_, ?_, ?_, ?_, ?_, ?_, ?_, ?_, ?_⟩ <;> omega)
    rintro _ whs20 ⟨rfl, hs20⟩
    replace hs20 := hs19.call0 hs20
    refine ⟨_, rfl, WL.nil ⟨hs20, WH.rn [6, 7, 8, 9] hs20 [] rfl rfl (WH.all [10, 11] (by kernel_rfl) rfl (WHs.cons (i := 10) rfl ?_ (WHs.cons (i := 11) rfl ?_ WHs.nil)))⟩⟩
    ·refine WL.al hs20 Tryz.zeroValue71 rfl rfl (fun b21 _ hs22 => WL.nil ⟨hs22.d1, WH.o1 11 rfl (WL.al hs22 Tryz.zeroValue71 rfl rfl (fun b23 _ hs24 => WL.nil ⟨hs24.d1.d1, WH.o1 12 rfl (WL.st tbk hs24 1 rfl rfl (fun _ hs25 => WL.nil ⟨hs25.d1.d1, ?_⟩))⟩))⟩)
     refine WH.o1 13 rfl (WL.st tbk hs25 0 rfl rfl (fun _ hs26 => WL.nil ⟨hs26.d1.d1, WH.rn [14] hs26.d1.d1 [] rfl rfl (WH.dn (⟨rfl, b21, b23, (St.swap [] hs26), ⟨rfl, rfl, rfl, rfl, rfl, rfl, rfl, rfl, rfl, rfl, rfl, rfl, rfl, rfl, rfl, rfl, rfl, rfl, rfl, rfl, rfl, rfl, rfl, rfl, rfl, rfl, rfl, trivial⟩⟩))⟩))
    refine WL.al hs20 Tryz.zeroValue71 rfl rfl (fun b27 _ hs28 => WL.nil ⟨hs28.d1, WH.o1 10 rfl (WL.al hs28 Tryz.zeroValue71 rfl rfl (fun b29 _ hs30 => WL.nil ⟨hs30.d1.d1, WH.o1 12 rfl (WL.st tbk hs30 0 rfl rfl (fun _ hs31 => WL.nil ⟨hs31.d1.d1, ?_⟩))⟩))⟩)
    refine WH.o1 13 rfl (WL.st tbk hs31 1 rfl rfl (fun _ hs32 => WL.nil ⟨hs32.d1.d1, WH.rn [14] hs32.d1.d1 [] rfl rfl (WH.dn (⟨rfl, b29, b27, hs32, ⟨rfl, rfl, rfl, rfl, rfl, rfl, rfl, rfl, rfl, rfl, rfl, rfl, rfl, rfl, rfl, rfl, rfl, rfl, rfl, rfl, rfl, rfl, rfl, rfl, rfl, rfl, rfl, trivial⟩⟩))⟩))
   ·refine WL.al hs19 Tryz.zeroValue71 rfl rfl (fun b33 _ hs34 => WL.nil ⟨hs34.d1, ?_⟩)
    refine WH.all [5, 11] (by kernel_rfl) rfl (WHs.cons (i := 5) rfl ?_ (WHs.cons (i := 11) rfl ?_ WHs.nil))
    ·refine WL.cl Tryz.call264 rfl (k53_ _ _ _ _ _ _ _ _ _ ?_) ?_
     · (refine ⟨?_, ?_, ?_, ?_, ?_, ?_, ?_, ?_, ?_, ?_⟩ <;> omega)
     rintro _ whs35 ⟨rfl, hs35⟩
     replace hs35 := hs34.call0 hs35
     refine ⟨_, rfl, WL.nil ⟨hs35.d1, WH.rn [6, 7, 8, 9] hs35.d1 [] rfl rfl (WH.o1 11 rfl (WL.al hs35 Tryz.zeroValue71 rfl rfl (fun b36 _ hs37 => WL.nil ⟨hs37.d1.d1, WH.o1 12 rfl (WL.st tbk hs37 1 rfl rfl (fun _ hs38 => ?_))⟩)))⟩⟩
     refine WL.nil ⟨hs38.d1.d1, WH.o1 13 rfl (WL.st tbk hs38 0 rfl rfl (fun _ hs39 => WL.nil ⟨hs39.d1.d1, WH.rn [14] hs39.d1.d1 [] rfl rfl (WH.dn (⟨rfl, b33, b36, (St.swap [] hs39), ⟨rfl, rfl, rfl, rfl, rfl, rfl, rfl, rfl, rfl, rfl, rfl, rfl, rfl, rfl, rfl, rfl, rfl, rfl, rfl, rfl, rfl, rfl, rfl, rfl, rfl, rfl, rfl, trivial⟩⟩))⟩))⟩
    refine WL.al hs34 Tryz.zeroValue71 rfl rfl (fun b40 _ hs41 => WL.nil ⟨hs41.d1.d1, WH.o1 5 rfl ?_⟩)
    refine WL.cl Tryz.call264 rfl (k53_ _ _ _ _ _ _ _ _ _ ?_) ?_
    · (refine ⟨?_, ?_, ?_, ?_, ?_, ?_, ?_, ?_, ?_, ?_⟩ <;> omega)
    rintro _ whs42 ⟨rfl, hs42⟩
    replace hs42 := hs41.call0 hs42
    refine ⟨_, rfl, WL.nil ⟨hs42.d1.d1, WH.rn [6, 7, 8, 9] hs42.d1.d1 [] rfl rfl (WH.o1 12 rfl (WL.st tbk hs42 1 rfl rfl (fun _ hs43 => WL.nil ⟨hs43.d1.d1, WH.o1 13 rfl (WL.st tbk hs43 0 rfl rfl (fun _ hs44 => ?_))⟩)))⟩⟩
    refine WL.nil ⟨hs44.d1.d1, WH.rn [14] hs44.d1.d1 [] rfl rfl (WH.dn (⟨rfl, b33, b40, (St.swap [] hs44), ⟨rfl, rfl, rfl, rfl, rfl, rfl, rfl, rfl, rfl, rfl, rfl, rfl, rfl, rfl, rfl, rfl, rfl, rfl, rfl, rfl, rfl, rfl, rfl, rfl, rfl, rfl, rfl, trivial⟩⟩))⟩
   refine WL.al hs19 Tryz.zeroValue71 rfl rfl (fun b45 _ hs46 => WL.nil ⟨hs46.d1, ?_⟩)
   refine WH.all [5, 10] (by kernel_rfl) rfl (WHs.cons (i := 5) rfl ?_ (WHs.cons (i := 10) rfl ?_ WHs.nil))
   ·refine WL.cl Tryz.call264 rfl (k53_ _ _ _ _ _ _ _ _ _ ?_) ?_
    · (refine ⟨?_, ?_, ?_, ?_, ?_, ?_, ?_, ?_, ?_, ?_⟩ <;> omega)
    rintro _ whs47 ⟨rfl, hs47⟩
    replace hs47 := hs46.call0 hs47
    refine ⟨_, rfl, WL.nil ⟨hs47.d1, WH.rn [6, 7, 8, 9] hs47.d1 [] rfl rfl (WH.o1 10 rfl (WL.al hs47 Tryz.zeroValue71 rfl rfl (fun b48 _ hs49 => WL.nil ⟨hs49.d1.d1, WH.o1 12 rfl (WL.st tbk hs49 0 rfl rfl (fun _ hs50 => ?_))⟩)))⟩⟩
    refine WL.nil ⟨hs50.d1.d1, WH.o1 13 rfl (WL.st tbk hs50 1 rfl rfl (fun _ hs51 => WL.nil ⟨hs51.d1.d1, WH.rn [14] hs51.d1.d1 [] rfl rfl (WH.dn (⟨rfl, b48, b45, hs51, ⟨rfl, rfl, rfl, rfl, rfl, rfl, rfl, rfl, rfl, rfl, rfl, rfl, rfl, rfl, rfl, rfl, rfl, rfl, rfl, rfl, rfl, rfl, rfl, rfl, rfl, rfl, rfl, trivial⟩⟩))⟩))⟩
   refine WL.al hs46 Tryz.zeroValue71 rfl rfl (fun b52 _ hs53 => WL.nil ⟨hs53.d1.d1, WH.o1 5 rfl ?_⟩)
   refine WL.cl Tryz.call264 rfl (k53_ _ _ _ _ _ _ _ _ _ ?_) ?_
   · (refine ⟨?_, ?_, ?_, ?_, ?_, ?_, ?_, ?_, ?_, ?_⟩ <;> omega)
   rintro _ whs54 ⟨rfl, hs54⟩
   replace hs54 := hs53.call0 hs54
   refine ⟨_, rfl, WL.nil ⟨hs54.d1.d1, WH.rn [6, 7, 8, 9] hs54.d1.d1 [] rfl rfl (WH.o1 12 rfl (WL.st tbk hs54 0 rfl rfl (fun _ hs55 => WL.nil ⟨hs55.d1.d1, WH.o1 13 rfl (WL.st tbk hs55 1 rfl rfl (fun _ hs56 => ?_))⟩)))⟩⟩
   refine WL.nil ⟨hs56.d1.d1, WH.rn [14] hs56.d1.d1 [] rfl rfl (WH.dn (⟨rfl, b52, b45, hs56, ⟨rfl, rfl, rfl, rfl, rfl, rfl, rfl, rfl, rfl, rfl, rfl, rfl, rfl, rfl, rfl, rfl, rfl, rfl, rfl, rfl, rfl, rfl, rfl, rfl, rfl, rfl, rfl, trivial⟩⟩))⟩
  ·rintro f_hs57 whs57 ⟨b17, b18, hs57, hG58⟩
   replace hs57 : St _ _ _ _ := hs57
   refine hK16 _ _ (WC.sub _ hG58 (WC.seq (fun K59 hK59 => WC.sr (WL.r 1 hs57 [] rfl (WL.st tbk hs57 5 rfl rfl (fun _ hs60 => WL.nil (WC.r1 hs60 [] rfl ?_)))))))
   refine WC.cq rfl (fun h61 qh61 => ?_) (fun h61 qh61 => ?_)
   ·have hs3 : ¬ 3 ≤ sizeR (gat encNode t i) (⟨(gat encNode t i).Pane, r_X, r_Y, r_W, r_H⟩ : RectD) := by simpa using h61
    have hpl : putL (.split (gat encNode t i) a b) (⟨r_Pane, r_X, r_Y, r_W, r_H⟩ : RectD) = ([⟨(gat encNode t i).Pane, r_X, r_Y, r_W, r_H⟩], false) := by rw [hRR]; simp only [putL, if_neg hs3]
    have hdec : decide (3 ≤ sizeR (gat encNode t i) (⟨(gat encNode t i).Pane, r_X, r_Y, r_W, r_H⟩ : RectD)) = false := decide_eq_false hs3
    rw [hdec] at hs60
    refine WC.ret (tkR ?_)
    clear hK59
    refine retK0' rfl ?_
    rw [hpl]
    have hx_ := OwnF.eqOf (xs := zs ++ [⟨(gat encNode t i).Pane, r_X, r_Y, r_W, r_H⟩]) ho9 (by simp)
    rw [← hx_]
    exact ⟨_, _, _, rfl, St.keep1 (St.front (L1 := (b_o, _) :: (b_f, _) :: L7) [_, _, _, _] hs60), ho9⟩
   have hs3 : 3 ≤ sizeR (gat encNode t i) (⟨(gat encNode t i).Pane, r_X, r_Y, r_W, r_H⟩ : RectD) := by simpa using h61
   have hdec : decide (3 ≤ sizeR (gat encNode t i) (⟨(gat encNode t i).Pane, r_X, r_Y, r_W, r_H⟩ : RectD)) = true := decide_eq_true hs3
   rw [hdec] at hs60
   refine WC.skip (hK59 _ _ (WC.sr (WL.val rfl rfl rfl (Run.load Tryz.isAgg272 rfl rfl (SlF.var (SlF.st g_p hs60 v_p) rfl)) (WL.r 3 hs60 [0] rfl ?_))))
   have hF62 := St.front (L1 := (b_o, _) :: (b_f, _) :: L7) [_, _, _, _] hs60
   refine WL.call rfl rfl rfl (Run.callC Tryz.call263 rfl rfl rfl) (IH _ ?_ _ _ _ _ _ (i + 1) _ _ _ _ _ a _ _ _ _ _ _ _ _ _ (SlF.st f_t hF62 s_t) (SlF.st g_t hF62 v_t) (SlF.st g_p hF62 v_p) ho9 (St.ownA hF62) (St.nodupL hF62) (St.sepT hF62 f_t s_t) (St.sepT hF62 g_t v_t) (St.sepT hF62 g_p v_p) ?_ ?_ ?_ ?_ ?_ rfl) ?_
   · rw [← hm_]; simp only [Tr.flat, List.length_cons, List.length_append]; omega
   · exact hn
   · rfl
   · exact ha
   · exact Fine.first (hRR ▸ hr) hF.1 hs3
   · simp only [List.length_append, List.length_cons, List.length_nil]; simp only [Tr.flat, List.length_cons, List.length_append] at hz; omega
   rintro _ whs66 ⟨A63, c64, L65, rfl, hs66, ho67⟩
   replace hs66 := St.lend hF62 hs66
   replace hs66 := St.back [_, _, _, _] hs66
   simp only [List.cons_append, List.nil_append] at hs66
   refine ⟨_, rfl, WL.nil (WC.r1 hs66 [5] rfl (WC.cq rfl (fun h68 qh68 => ?_) (fun h68 qh68 => ?_)))⟩
   ·have hpl : putL (.split (gat encNode t i) a b) (⟨r_Pane, r_X, r_Y, r_W, r_H⟩ : RectD) = (⟨(gat encNode t i).Pane, r_X, r_Y, r_W, r_H⟩ :: ((putL a (firstR (gat encNode t i) (⟨(gat encNode t i).Pane, r_X, r_Y, r_W, r_H⟩ : RectD))).1 ++ (putL b (secondR (gat encNode t i) (⟨(gat encNode t i).Pane, r_X, r_Y, r_W, r_H⟩ : RectD))).1), (putL b (secondR (gat encNode t i) (⟨(gat encNode t i).Pane, r_X, r_Y, r_W, r_H⟩ : RectD))).2) := by rw [hRR]; simp only [putL, if_pos hs3, if_pos h68]
    rw [h68] at hs66
    refine WC.rH (((hs66.fb b_o).d1.fb b_f).d1.rm L65) hs66 (fun _ hs69 => ?_)
    refine WH.take 0 rfl (by kernel_rfl) rfl rfl rfl (((hs69.fb b_o).d1.fb b_f).d1.rm L65) (fun w_ hs_ => (Run.load Tryz.isAgg272 rfl rfl (SlF.var (SlF.st g_p (hs_ : St _ _ _ _) v_p) rfl))) ?_
    refine WH.take 1 rfl (by kernel_rfl) rfl rfl rfl (((hs69.fb b_o).d1.fb b_f).d1.rm L65) (fun w_ hs_ => (Run.load Tryz.isAgg56 rfl rfl (SlF.var (v := .slice A_t n_t c_t) (SlF.st g_t (hs_ : St _ _ _ _) v_t) rfl))) ?_
    refine WH.rn [2, 3, 5] (((hs69.fb b_o).d1.fb b_f).d1.rm L65) [1] rfl rfl (WH.o1 4 rfl (WL.cl Tryz.call165 rfl (k24_ _ _ _ _ _ _ (SlF.st f_t hs69 s_t) ?_) ?_))
    · first | assumption | rfl | omega
    rintro _ whs70 ⟨rfl, hs70⟩
    replace hs70 := hs69.call0 hs70
    refine ⟨_, rfl, WL.nil ⟨(((hs70.fb b_o).d1.fb b_f).d1.rm L65), WH.o1 6 rfl ?_⟩⟩
    have hF71 := St.front (L1 := (b_o, _) :: (b_f, _) :: L65) [_, _, _, _] hs70
    refine WL.call rfl rfl rfl (Run.callC Tryz.call263 rfl rfl rfl) (IH _ ?_ _ _ _ _ _ (i + 1 + a.flat.length) _ _ _ _ _ b _ _ _ _ _ _ _ _ _ (SlF.st f_t hF71 s_t) (SlF.st g_t hF71 v_t) (SlF.st g_p hF71 v_p) ho67 (St.ownA hF71) (St.nodupL hF71) (St.sepT hF71 f_t s_t) (St.sepT hF71 g_t v_t) (St.sepT hF71 g_p v_p) ?_ ?_ ?_ ?_ ?_ rfl) ?_
    · rw [← hm_]; simp only [Tr.flat, List.length_cons, List.length_append]; omega
    · exact hn
    · have h_ : endI t ((i : Int) + 1) = (i + 1 + a.flat.length : Nat) := ha.endI
      omega
    · exact hb
    · exact Fine.second (hRR ▸ hr) hF.1 hs3
    · simp only [List.length_append, List.length_cons, List.length_nil]; simp only [Tr.flat, List.length_cons, List.length_append] at hz
      refine Nat.le_trans (Nat.add_le_add_right (Nat.add_le_add_left putL_len _) _) ?_
      omega
    rintro _ whs75 ⟨A72, c73, L74, rfl, hs75, ho76⟩
    replace hs75 := St.lend hF71 hs75
    replace hs75 := St.back [_, _, _, _] hs75
    simp only [List.cons_append, List.nil_append] at hs75
    refine ⟨_, rfl, WL.nil ⟨(((hs75.fb b_o).d1.fb b_f).d1.rm L74), WH.dn (retK0 rfl ?_)⟩⟩
    rw [hpl]
    have hx_ := OwnF.eqOf (xs := zs ++ (⟨(gat encNode t i).Pane, r_X, r_Y, r_W, r_H⟩ :: ((putL a (firstR (gat encNode t i) (⟨(gat encNode t i).Pane, r_X, r_Y, r_W, r_H⟩ : RectD))).1 ++ (putL b (secondR (gat encNode t i) (⟨(gat encNode t i).Pane, r_X, r_Y, r_W, r_H⟩ : RectD))).1))) ho76 (by simp)
    rw [← hx_]
    exact ⟨_, _, _, rfl, St.keep1 (St.front (L1 := (b_o, _) :: (b_f, _) :: L74) [_, _, _, _] hs75), ho76⟩
   have hpl : putL (.split (gat encNode t i) a b) (⟨r_Pane, r_X, r_Y, r_W, r_H⟩ : RectD) = (⟨(gat encNode t i).Pane, r_X, r_Y, r_W, r_H⟩ :: (putL a (firstR (gat encNode t i) (⟨(gat encNode t i).Pane, r_X, r_Y, r_W, r_H⟩ : RectD))).1, false) := by
     have : ¬ (putL a (firstR (gat encNode t i) (⟨(gat encNode t i).Pane, r_X, r_Y, r_W, r_H⟩ : RectD))).2 = true := by simpa using h68
     rw [hRR]; simp only [putL, if_pos hs3, if_neg this]
   rw [h68] at hs66
   refine WC.skip (retK0 rfl ?_)
   rw [hpl]
   have hx_ := OwnF.eqOf (xs := zs ++ (⟨(gat encNode t i).Pane, r_X, r_Y, r_W, r_H⟩ :: (putL a (firstR (gat encNode t i) (⟨(gat encNode t i).Pane, r_X, r_Y, r_W, r_H⟩ : RectD))).1)) ho67 (by simp)
   rw [← hx_]
   exact ⟨_, _, _, rfl, St.keep1 (St.front (L1 := (b_o, _) :: (b_f, _) :: L65) [_, _, _, _] hs66), ho67⟩
theorem k58_ (A_t : Option Addr) (n_t c_t : Nat) (t : List NodeD) (at_ : Int) (i : Nat) (r_Pane r_X r_Y r_W r_H : Int) (S : Tr) (b_t b_o b_f b_p : Nat) (A_o : Option Addr) (c_o : Nat) (zs : List RectD) (L_o : Hp) (w : World) (f_t : SlF encNode w A_t n_t t) (g_t : SlF encH w (some ⟨b_t, 0, none⟩) 1 [⟨A_t, n_t, c_t⟩]) (g_p : SlF encFn w (some ⟨b_p, 0, none⟩) 1 [⟨.func 263, [.pointer (some ⟨b_t, 0, none⟩), .pointer (some ⟨b_o, 0, none⟩), .pointer (some ⟨b_f, 0, none⟩), .pointer (some ⟨b_p, 0, none⟩)]⟩]) (o_o : OwnF encRect 71 (.slice A_o zs.length c_o) zs L_o) (hh : ∀ p, p ∈ [(b_o, Obj.cells (List.toArray [.slice A_o (zs).length c_o]) 158 (0, 0)), (b_f, Obj.cells (List.toArray [.bool true]) 4 (0, 0))] ++ L_o → w.heap[p.1]? = some p.2) (hd : (([(b_o, Obj.cells (List.toArray [.slice A_o (zs).length c_o]) 158 (0, 0)), (b_f, Obj.cells (List.toArray [.bool true]) 4 (0, 0))] ++ L_o).map (·.1)).Nodup) (s_t : 0 < n_t → (adr A_t).block ∉ (([(b_o, Obj.cells (List.toArray [.slice A_o (zs).length c_o]) 158 (0, 0)), (b_f, Obj.cells (List.toArray [.bool true]) 4 (0, 0))] ++ L_o).map (·.1))) (v_t : 0 < 1 → (adr (some ⟨b_t, 0, none⟩)).block ∉ (([(b_o, Obj.cells (List.toArray [.slice A_o (zs).length c_o]) 158 (0, 0)), (b_f, Obj.cells (List.toArray [.bool true]) 4 (0, 0))] ++ L_o).map (·.1))) (v_p : 0 < 1 → (adr (some ⟨b_p, 0, none⟩)).block ∉ (([(b_o, Obj.cells (List.toArray [.slice A_o (zs).length c_o]) 158 (0, 0)), (b_f, Obj.cells (List.toArray [.bool true]) 4 (0, 0))] ++ L_o).map (·.1))) (hn : n_t ≤ 268435456) (hat : at_ = (i : Int)) (hS : At t i S) (hr : Fine (⟨r_Pane, r_X, r_Y, r_W, r_H⟩ : RectD)) (hz : zs.length + S.flat.length ≤ 268435456) :
    Calls Tryz.prog 263 #[i64 at_, .agg #[i64 r_Pane, i64 r_X, i64 r_Y, i64 r_W, i64 r_H], .pointer (some ⟨b_t, 0, none⟩), .pointer (some ⟨b_o, 0, none⟩), .pointer (some ⟨b_f, 0, none⟩), .pointer (some ⟨b_p, 0, none⟩)] w fun e w' => ∃ A c L1, e = .returned (.tuple #[]) ∧ St w (([(b_o, Obj.cells (List.toArray [.slice A_o (zs).length c_o]) 158 (0, 0)), (b_f, Obj.cells (List.toArray [.bool true]) 4 (0, 0))] ++ L_o).map (·.1)) ((b_o, Obj.cells (List.toArray [.slice A (zs ++ (putL S (⟨r_Pane, r_X, r_Y, r_W, r_H⟩ : RectD)).1).length c]) 158 (0, 0)) :: (b_f, Obj.cells (List.toArray [.bool (putL S (⟨r_Pane, r_X, r_Y, r_W, r_H⟩ : RectD)).2]) 4 (0, 0)) :: L1) w' ∧ OwnF encRect 71 (.slice A (zs ++ (putL S (⟨r_Pane, r_X, r_Y, r_W, r_H⟩ : RectD)).1).length c) (zs ++ (putL S (⟨r_Pane, r_X, r_Y, r_W, r_H⟩ : RectD)).1) L1 := k57_ _ A_t n_t c_t t at_ i r_Pane r_X r_Y r_W r_H S b_t b_o b_f b_p A_o c_o zs L_o w f_t g_t g_p o_o hh hd s_t v_t v_p hn hat hS hr hz rfl
theorem built_71_3_4 (x0 : Int) (x1 : Int) : Tryz.prog.built 71 [(3, .int .i64 x0), (4, .int .i64 x1)] = some (List.toArray [.int .i64 0, .int .i64 0, .int .i64 0, .int .i64 x0, .int .i64 x1]) := by kernel_rfl
theorem k59_ (A_t : Option Addr) (n_t c_t : Nat) (t : List NodeD) (w_ : Int) (h_ : Int) (w : World) (f_t : SlF encNode w A_t n_t t) (hn : n_t ≤ 268435456) (hk : treeOk t = true) (hw : within w_ 1 120 = true) (hh : within h_ 1 120 = true) :
    Calls Tryz.prog 215 #[.slice A_t n_t c_t, i64 w_, i64 h_] w fun e w' => ∃ A c L1, e = .returned (.tuple #[.slice A ((putL (theT t) ⟨0, 0, 0, w_, h_⟩).1).length c, .bool (putL (theT t) ⟨0, 0, 0, w_, h_⟩).2]) ∧ St w [] L1 w' ∧ OwnF encRect 71 (.slice A ((putL (theT t) ⟨0, 0, 0, w_, h_⟩).1).length c) ((putL (theT t) ⟨0, 0, 0, w_, h_⟩).1) L1 := by
 have hl := f_t.len
 refine enter 20 Tryz.func215 rfl Tryz.ntmps215 rfl rfl ?_
 have hs1 := St.init w
 refine WC.sr (WL.bx hs1 rfl (fun b2 _ hs3 => WL.r 2 hs3 [] rfl (WL.nil (WC.sr (WL.buildF (F := encRect) hs3 ([]) Tryz.runUnderlying158 Tryz.sizeOf71 Tryz.zeroValue71 rfl rfl rfl rfl rfl rfl rfl rfl rfl rfl rfl rfl (fun A7 c8 L4 whs5 hs5 ho6 => ?_))))))
 replace hs5 := St.back [_] hs5
 refine WL.al hs5 Tryz.zeroValue158 rfl rfl (fun b9 _ hs10 => WL.al hs10 Tryz.zeroValue4 rfl rfl (fun b11 _ hs12 => WL.st tbk hs12 1 rfl rfl (fun _ hs13 => WL.st tbk hs13 0 rfl rfl (fun _ hs14 => WL.nil (WC.sr (WL.al hs14 Tryz.zeroValue272 rfl rfl (fun b15 _ hs16 => WL.nil ?_)))))))
 refine WC.sr (WL.val rfl rfl rfl (Run.makeFunc rfl rfl) (WL.st tbk hs16 0 rfl rfl (fun _ hs17 => WL.nil (WC.sr (WL.r 3 hs17 [0] rfl ?_)))))
 refine WL.val rfl rfl rfl (Run.build rfl rfl rfl rfl (built_71_3_4 _ _)) ?_
 replace hs17 := ((((hs17.fb b11).fb b9).fb b2).fb b15)
 have hF18 := St.front (L1 := (b9, _) :: (b11, _) :: L4) [_, _] hs17
 refine WL.call rfl rfl rfl (Run.callC Tryz.call263 rfl rfl rfl) (k58_ _ _ _ _ _ 0 _ _ _ _ _ (theT t) _ _ _ _ _ _ _ _ _ (SlF.st0 f_t hF18) (SlF.own1 (hs17.own _ (nthL_mem (i := 1) rfl)).1) (SlF.own1 (hs17.own _ (nthL_mem (i := 0) rfl)).1) ho6 (St.ownA hF18) (St.nodupL hF18) (St.sep hF18 f_t) (fun _ => St.sepOwn hF18 (List.mem_append_left _ (List.mem_cons_of_mem _ List.mem_cons_self))) (fun _ => St.sepOwn hF18 (List.mem_append_left _ List.mem_cons_self)) ?_ ?_ ?_ ?_ ?_) ?_
 · omega
 · rfl
 · exact (theT_at hk).1
 · exact fine0 hw hh
 · rw [(theT_at hk).2.1]; simp; omega
 rintro _ whs22 ⟨A19, c20, L21, rfl, hs22, ho23⟩
 replace hs22 := St.lend hF18 hs22
 replace hs22 := St.back [_, _] hs22
 simp only [List.cons_append, List.nil_append] at hs22
 refine ⟨_, rfl, WL.nil (WC.q1 hs22 [2, 3] rfl (fun _ hs24 => WC.ret (retV2 rfl (resV.tmp rfl) (resV.tmp rfl) ?_)))⟩
 have hx_ := OwnF.eqOf (xs := (putL (theT t) ⟨0, 0, 0, w_, h_⟩).1) ho23 (by simp)
 rw [← hx_]
 first | exact ⟨_, _, _, rfl, (St.keep1 (hs24.fr L21)), ho23⟩ | exact ⟨A19, c20, _, by rw [OwnF.len_ ho23], (St.keep1 (hs24.fr L21)), by rw [OwnF.len_ ho23]; exact ho23⟩
theorem k60_ (A_t : Option Addr) (n_t c_t : Nat) (t : List NodeD) (w_ : Int) (h_ : Int) (w : World) (f_t : SlF encNode w A_t n_t t) (hn : n_t ≤ 268435456) :
    Calls Tryz.prog 173 #[.slice A_t n_t c_t, i64 w_, i64 h_] w fun e w' => ∃ A c L1, e = .returned (.tuple #[.slice A (areasL t w_ h_).length c, .bool (placesOk t w_ h_)]) ∧ St w [] L1 w' ∧ OwnF encRect 71 (.slice A (areasL t w_ h_).length c) (areasL t w_ h_) L1 := by
 have hl := f_t.len
 refine enter 27 Tryz.func173 rfl Tryz.ntmps173 rfl rfl ?_
 have hs1 := St.init w
 refine WC.r1 hs1 [] rfl (WC.seq (fun K2 hK2 => WC.sr (WL.r 1 hs1 [] rfl ?_)))
 refine WL.cl Tryz.call106 rfl (k35_ _ _ _ _ _ (SlF.st0 f_t hs1) ?_) ?_
 · first | assumption | rfl | omega
 rintro _ whs3 ⟨rfl, hs3⟩
 replace hs3 := hs1.call0 hs3
 refine ⟨_, rfl, WL.r 2 hs3 [] rfl ?_⟩
 apply WL.gO 3 Acts.nil hs3 rfl
 ·intro g4 J5
  have qg4 := g4
  try simp only [bf, within_iff, within_not] at qg4
  refine WL.runA tbk 1 (Acts.nil.cons (j := 3) rfl g4) hs3 [] rfl trivial (WL.call (wantF rfl g4) rfl rfl (Run.call Tryz.call58 rfl rfl rfl) (k0_ _ _ _ _) ?_)
  rintro _ whs6 ⟨rfl, hs6⟩
  replace hs6 := hs3.call0 hs6
  refine ⟨_, rfl, WL.runA tbk 1 (Acts.nil.cons (j := 3) rfl g4) hs6 [] rfl trivial (WL.eO 3 Acts.nil J5 hs6 g4 rfl rfl)⟩
 intro _ hs7
 refine WL.r 1 hs7 [] rfl ?_
 apply WL.gO 3 Acts.nil hs7 rfl
 ·intro g8 J9
  have qg8 := g8
  try simp only [bf, within_iff, within_not] at qg8
  refine WL.runA tbk 1 (Acts.nil.cons (j := 8) rfl g8) hs7 [] rfl trivial (WL.call (wantF rfl g8) rfl rfl (Run.call Tryz.call58 rfl rfl rfl) (k0_ _ _ _ _) ?_)
  rintro _ whs10 ⟨rfl, hs10⟩
  replace hs10 := hs7.call0 hs10
  refine ⟨_, rfl, WL.runA tbk 1 (Acts.nil.cons (j := 8) rfl g8) hs10 [] rfl trivial (WL.eO 3 Acts.nil J9 hs10 g8 rfl rfl)⟩
 intro _ hs11
 refine WL.nil (WC.cq rfl (fun h12 qh12 => ?_) (fun h12 qh12 => ?_))
 ·have hk : sidesOk t w_ h_ = false := by
    rw [← Bool.not_eq_true]; intro h_1
    simp only [sidesOk, Bool.and_eq_true] at h_1
    simp [h_1] at h12
  refine WC.r1 hs11 [] rfl (WC.ret (tkR ?_))
  clear hK2
  refine retV2 rfl (resV.tmp rfl) (resV.tmp rfl) ?_
  rw [show placesOk t w_ h_ = false by simp [placesOk, hk]]
  have hx_ := OwnF.eqOf (xs := areasL t w_ h_) (OwnF.nil encRect 71) (by simp [areasL, hk])
  rw [← hx_]
  exact ⟨_, _, _, rfl, hs11.nil, (OwnF.nil encRect 71)⟩
 have hk : treeOk t = true ∧ within w_ 1 120 = true ∧ within h_ 1 120 = true := by simp at h12; exact ⟨h12.1.1, h12.1.2, h12.2⟩
 have hs : sidesOk t w_ h_ = true := by simp [sidesOk, hk]
 refine WC.skip (hK2 _ _ (WC.sr (WL.r 3 hs11 [] rfl ?_)))
 refine WL.cl Tryz.call215 rfl (k59_ _ _ _ _ _ _ _ (SlF.st0 f_t hs11) ?_ ?_ ?_ ?_) ?_
 · omega
 · exact hk.1
 · exact hk.2.1
 · exact hk.2.2
 rintro _ whs13 ⟨A14, c15, L1_16, rfl, hs13, ho17⟩
 replace hs13 := hs11.callF hs13
 refine ⟨_, rfl, WL.r 4 hs13 [] rfl (WL.nil (WC.ret (retV2 rfl (resV.tmp rfl) (resV.tmp rfl) ?_)))⟩
 rw [show placesOk t w_ h_ = (putL (theT t) ⟨0, 0, 0, w_, h_⟩).2 by simp [placesOk, hs, put_eq hk.1]]
 have hx_ := OwnF.eqOf (xs := areasL t w_ h_) ho17 (by simp [areasL, hs])
 rw [← hx_]
 first | exact ⟨_, _, _, rfl, (St.keep1 hs13), ho17⟩ | exact ⟨A14, c15, _, by rw [OwnF.len_ ho17], (St.keep1 hs13), by rw [OwnF.len_ ho17]; exact ho17⟩
theorem k61_ (r_Pane : Int) (r_X : Int) (r_Y : Int) (r_W : Int) (r_H : Int) (w : World) :
    Calls Tryz.prog 175 #[.agg #[i64 r_Pane, i64 r_X, i64 r_Y, i64 r_W, i64 r_H]] w fun e w' => e = .returned (.bool (decide (r_Pane = 0))) ∧ St w [] [] w' := by
 refine enter 6 Tryz.func175 rfl Tryz.ntmps175 rfl rfl ?_
 have hs1 := St.init w
 refine WC.sr (WL.bx hs1 rfl (fun b2 _ hs3 => WL.r 1 hs3 [] rfl (WL.nil (WC.r1 hs3 [0] rfl (WC.ret (rtv rfl rfl hs3 ?_))))))
 rfl
theorem k62_ (A_s : Option Addr) (n_s c_s : Nat) (s : List RectD) (w : World) (f_s : SlF encRect w A_s n_s s) (hn : n_s ≤ 1099511627776) :
    Calls Tryz.prog 113 #[.slice A_s n_s c_s, .func (.func 175) #[] #[]] w fun e w' => e = .returned (.int .i64 (findI (fun r : RectD => decide (r.Pane = 0)) s)) ∧ St w [] [] w' := by
 refine enter 19 Tryz.func113 rfl Tryz.ntmps113 rfl rfl ?_
 have hs1 := St.init w
 refine WC.r1 hs1 [] rfl (WC.seq (fun K2 hK2 => WC.r1 hs1 [] rfl (WC.block ?_)))
 refine WC.lS [0, 1, 7] rfl hs1 (fun k_ f w' => ∃ (i : Nat), k_ = n_s - i ∧ (i ≤ n_s) ∧ (∀ j, j < i → (fun r : RectD => decide (r.Pane = 0)) (gat encRect s j) = false) ∧ Sub [(8, .int .i64 i)] f) ((fun (i : Nat) => n_s - i) (0)) ?_ ?_
 ·refine ⟨0, rfl, ?_, ?_, ⟨rfl, trivial⟩⟩
  · exact Nat.zero_le _
  · exact fun j hj => absurd hj (by omega)
 clear hs1
 rintro _ f w ⟨i, rfl, p0, p1, hG⟩ hF hs3
 refine WC.sub _ (hG.app hF) ?_
 clear hG hF
 refine WC.r1 hs3 [] rfl (WC.seq (fun K4 hK4 => ?_))
 refine WC.cond rfl (fun h5 => ?_) (fun h5 => ?_)
 ·have qh5 := h5
  try simp only [decide_eq_true_eq, decide_eq_false_iff_not] at qh5
  refine WC.skip (hK4 _ _ (WC.seq (fun K6 hK6 => WC.block (WC.r1 hs3 [] rfl (WC.sr (WL.r 3 hs3 [] rfl ?_))))))
  refine WL.val rfl rfl rfl (Run.idxN Tryz.runUnderlying158 Tryz.sizeOf71 rfl rfl rfl ?_ ?_ ?_) ?_
  · exact SlF.some_ (SlF.st0 f_s hs3)
  · omega
  · omega
  refine WL.val rfl rfl rfl (Run.loadA Tryz.isAgg71 Tryz.sizeOf71 rfl rfl (SlF.whole (SlF.st0 f_s hs3) ?_)) ?_
  · omega
  refine WL.cl Tryz.call175 rfl (k61_ _ _ _ _ _ _) ?_
  rintro _ whs7 ⟨rfl, hs7⟩
  replace hs7 := hs3.call0 hs7
  refine ⟨_, rfl, WL.nil (WC.cond rfl (fun h8 => ?_) (fun h8 => ?_))⟩
  ·have qh8 := h8
   try simp only [decide_eq_true_eq, decide_eq_false_iff_not] at qh8
   refine WC.r1 hs7 [] rfl (WC.ret (ibR (tkR (tkR (ibR (tkR ?_))))))
   clear hK6 hK2
   refine rtv rfl rfl hs7 ?_
   rw [findI_some (F := encRect) (by rw [f_s.len]; omega) p1 h8]
  have qh8 := h8
  try simp only [decide_eq_true_eq, decide_eq_false_iff_not] at qh8
  refine WC.skip (hK6 _ _ (WC.region (WL.r 2 hs7 [] rfl (WL.nil (tkN ?_)))))
  refine ⟨sbF rfl, hs7, _, ?_, i + 1, rfl, ?_, ?_, ⟨rfl, trivial⟩⟩
  · omega
  · omega
  · intro j hj; rcases Nat.lt_or_ge j i with h_ | h_
    · exact p1 j h_
    · obtain rfl : j = i := by omega
      exact h8
 have qh5 := h5
 try simp only [decide_eq_true_eq, decide_eq_false_iff_not] at qh5
 refine WC.exit (hK2 _ _ (WC.r1 hs3 [] rfl (WC.ret (rtv rfl rfl hs3 ?_))))
 rw [findI_none (F := encRect) (fun j hj => p1 j (by rw [f_s.len] at hj; omega))]
theorem k63_ (v_s : Value) (s : List RectD) (L_s : Hp) (w : World) (o_s : OwnF encRect 71 v_s s L_s) (h_s : Hh w L_s) (hn : s.length ≤ 268435456) :
    Calls Tryz.prog 174 #[v_s, .func (.func 175) #[] #[]] w fun e w' => ∃ A c L1, e = .returned (.slice A (s.filter (fun r : RectD => !decide (r.Pane = 0))).length c) ∧ St w (L_s.map (·.1)) L1 w' ∧ OwnF encRect 71 (.slice A (s.filter (fun r : RectD => !decide (r.Pane = 0))).length c) (s.filter (fun r : RectD => !decide (r.Pane = 0))) L1 := by
 obtain ⟨A_s, c_s, rfl⟩ := o_s.shape
 refine enter 42 Tryz.func174 rfl Tryz.ntmps174 rfl rfl ?_
 have hs1 := St.lent1 w L_s o_s h_s
 refine WC.r1 hs1 [] rfl (WC.sr (WL.r 2 hs1 [] rfl (WL.cl Tryz.call113 rfl (k62_ _ _ _ _ _ (SlF.ofOwn o_s (hs1.ow L_s)) ?_) ?_)))
 · first | assumption | rfl | omega
 rintro _ whs2 ⟨rfl, hs2⟩
 replace hs2 := hs1.call0 hs2
 refine ⟨_, rfl, WL.r 1 hs2 [] rfl (WL.nil (WC.seq (fun K3 hK3 => WC.r1 hs2 [] rfl ?_)))⟩
 refine WC.cq rfl (fun h4 qh4 => ?_) (fun h4 qh4 => ?_)
 ·have hall : s.filter (fun r : RectD => !decide (r.Pane = 0)) = s := by
    rcases findI_cases (p := fun r : RectD => decide (r.Pane = 0)) (xs := s) with ⟨_, h1_⟩ | ⟨i1, _, h1_, _⟩
    · exact filter_none h1_
    · omega
  refine WC.r1 hs2 [] rfl (WC.ret (tkR ?_))
  clear hK3
  refine retV1 rfl (resV.tmp rfl) ?_
  have hx_ := OwnF.eqOf (xs := s.filter (fun r : RectD => !decide (r.Pane = 0))) o_s (by rw [hall])
  rw [← hx_]
  first | exact ⟨_, _, _, rfl, (St.keep1 hs2), o_s⟩ | exact ⟨A_s, c_s, _, by rw [OwnF.len_ o_s], (St.keep1 hs2), by rw [OwnF.len_ o_s]; exact o_s⟩
 obtain ⟨i0, hi0, hf0, hp0, hb0⟩ : ∃ i0 : Nat, ∃ hi : i0 < s.length, findI (fun r : RectD => decide (r.Pane = 0)) s = (i0 : Int) ∧ decide (s[i0].Pane = 0) = true ∧ ∀ j (hj : j < i0), decide ((s[j]'(by omega)).Pane = 0) = false := by
   rcases findI_cases (p := fun r : RectD => decide (r.Pane = 0)) (xs := s) with ⟨h1_, _⟩ | ⟨i1, hi, h1_, h2_, h3_⟩
   · omega
   · exact ⟨i1, hi, h1_, h2_, h3_⟩
 rw [hf0]
 have hinit : s.take i0 = (s.take (i0 + 1)).filter (fun r : RectD => !decide (r.Pane = 0)) := by
   rw [filter_take (F := encRect) hi0]
   have hg : gat encRect s i0 = s[i0] := by have e_ := gat_get (F := encRect) hi0; rw [List.getElem?_eq_getElem hi0] at e_; exact (Option.some.inj e_).symm
   rw [if_neg (by rw [hg]; simpa using hp0), List.append_nil, filter_none]
   intro x hx
   obtain ⟨j, hj, rfl⟩ := List.mem_iff_getElem.1 hx
   rw [List.length_take] at hj
   rw [List.getElem_take]
   exact hb0 j (by omega)
 refine WC.skip (hK3 _ _ (WC.seq (fun K5 hK5 => WC.r1 hs2 [] rfl (WC.block ?_))))
 refine WC.lO [1, 4, 12] rfl hs2 (fun k_ f L_ => ∃ (zs : List RectD) (i j : Nat), k_ = s.length - j ∧ (i < j) ∧ (j ≤ s.length) ∧ (zs.length = s.length) ∧ (zs.take i = (s.take j).filter (fun r : RectD => !decide (r.Pane = 0))) ∧ (∀ k, j ≤ k → gat encRect zs k = gat encRect s k) ∧ OwnF encRect 71 (.slice A_s (s.length) c_s) (zs) L_ ∧ Sub [(0, .slice A_s (s.length) c_s), (5, .int .i64 i), (6, .int .i64 j)] f) (((fun (zs : List RectD) (i j : Nat) => s.length - j) (s) (i0) ((i0 + 1)))) ?_ ?_
 ·refine ⟨s, i0, (i0 + 1), rfl, ?_, ?_, ?_, ?_, ?_, o_s, ⟨rfl, rfl, rfl, trivial⟩⟩
  · omega
  · omega
  · rfl
  · exact hinit
  · exact fun k _ => rfl
 clear hs2
 rintro _ f w L8 ⟨zs, i, j, rfl, p0, p1, p2, p3, p4, ho9, hG⟩ hF hs10
 refine WC.sub _ (hG.app hF) ?_
 clear hG hF
 refine WC.seq (fun K11 hK11 => WC.r1 hs10 [] rfl ?_)
 refine WC.cq rfl (fun h12 qh12 => ?_) (fun h12 qh12 => ?_)
 ·refine WC.skip (hK11 _ _ (WC.seq (fun K13 hK13 => WC.block (WC.sr (WL.r 2 hs10 [] rfl ?_)))))
  refine WL.val rfl rfl rfl (Run.idxN Tryz.runUnderlying158 Tryz.sizeOf71 rfl rfl rfl ?_ ?_ ?_) ?_
  · exact SlF.some_ (SlF.ofOwn ho9 (hs10.ow L8))
  · omega
  · omega
  refine WL.val rfl rfl rfl (Run.loadA Tryz.isAgg71 Tryz.sizeOf71 rfl rfl (SlF.whole (SlF.ofOwn ho9 (hs10.ow L8)) ?_)) ?_
  · omega
  refine WL.al hs10 Tryz.zeroValue71 rfl rfl (fun b14 _ hs15 => WL.st tbk hs15 0 rfl rfl (fun _ hs16 => WL.nil (WC.sr (WL.r 2 hs16 [0] rfl (WL.cl Tryz.call175 rfl (k61_ _ _ _ _ _ _) ?_)))))
  rintro _ whs17 ⟨rfl, hs17⟩
  replace hs17 := hs16.call0 hs17
  refine ⟨_, rfl, WL.r 1 hs17 [] rfl (WL.nil (WC.cq rfl (fun h18 qh18 => ?_) (fun h18 qh18 => ?_)))⟩
  ·refine WC.sr (WL.r 3 hs17 [0] rfl (WL.val rfl rfl rfl (Run.idxN Tryz.runUnderlying158 Tryz.sizeOf71 rfl rfl rfl ?_ ?_ ?_) ?_))
   · exact SlF.some_ (SlF.ofOwn ho9 (hs17.ow L8))
   · omega
   · omega
   refine WL.storeF1 (x' := (gat encRect zs j)) (hs17.fr L8) ho9 Tryz.sizeOf71 rfl rfl rfl rfl rfl rfl rfl rfl rfl ?_ rfl (fun L19 whs20 hs20 ho21 _ => ?_)
   · omega
   replace hs20 := St.back [_] hs20
   refine WL.nil (WC.region (WL.r 3 hs20 [] rfl (WL.nil (hK13 _ _ (WC.region (WL.r 3 hs20 [] rfl (WL.nil ?_)))))))
   refine tkN ?_
   replace hs20 := hs20.d1
   refine ⟨sbF rfl, _, hs20, _, ?_, _, (i + 1), (j + 1), rfl, ?_, ?_, ?_, ?_, ?_, ho21, ⟨rfl, rfl, rfl, trivial⟩⟩
   · omega
   · omega
   · omega
   · first | omega | (rw [List.length_set]; omega)
   · first | (rw [set_take (by omega), p3, filter_take (F := encRect) (by omega), if_pos (by rw [← p4 j (Nat.le_refl _)]; simpa using h18), p4 j (Nat.le_refl _)]) | (rw [p3, filter_take (F := encRect) (by omega), if_neg (by rw [← p4 j (Nat.le_refl _)]; simpa using h18), List.append_nil])
   · intro k hk; first | (rw [gat_set_ne (by omega)]; exact p4 k (by omega)) | exact p4 k (by omega)
  refine WC.skip (hK13 _ _ (WC.region (WL.r 3 hs17 [] rfl (WL.nil (tkN ?_)))))
  replace hs17 := hs17.d1
  refine ⟨sbF rfl, _, hs17, _, ?_, _, i, (j + 1), rfl, ?_, ?_, ?_, ?_, ?_, ho9, ⟨rfl, rfl, rfl, trivial⟩⟩
  · omega
  · omega
  · omega
  · first | omega | (rw [List.length_set]; omega)
  · first | (rw [set_take (by omega), p3, filter_take (F := encRect) (by omega), if_pos (by rw [← p4 j (Nat.le_refl _)]; simpa using h18), p4 j (Nat.le_refl _)]) | (rw [p3, filter_take (F := encRect) (by omega), if_neg (by rw [← p4 j (Nat.le_refl _)]; simpa using h18), List.append_nil])
  · intro k hk; first | (rw [gat_set_ne (by omega)]; exact p4 k (by omega)) | exact p4 k (by omega)
 refine WC.exit (hK5 _ _ (WC.sr (WL.r 2 hs10 [] rfl ?_)))
 have hc_ := OwnF.cap ho9
 refine WL.val rfl rfl rfl (Run.sliceL (i) Tryz.runUnderlying158 Tryz.sizeOf71 rfl rfl rfl ?_ ?_) ?_
 · first | rfl | (omega)
 · refine ⟨?_, ?_, ?_⟩ <;> (omega)
 refine WL.clearF (lo := i) hs10 ho9 Tryz.underlying158 Tryz.zeroValue71 rfl rfl rfl rfl rfl ?_ (fun L22 whs23 hs23 ho24 _ => ?_)
 · omega
 refine WL.nil (WC.sr (WL.r 2 hs23 [] rfl ?_))
 have ho25 := OwnF.take (k := i) ho24 (by omega)
 have hcho25 := OwnF.cap ho25
 refine WL.val rfl rfl rfl (Run.sliceH0 (i) Tryz.runUnderlying158 Tryz.sizeOf71 rfl rfl rfl ?_ ?_) ?_
 · first | rfl | (omega)
 · first | (exact Nat.zero_le _) | (omega)
 refine WL.r 1 hs23 [] rfl (WL.nil (WC.ret (retV1 rfl (resV.tmp rfl) ?_)))
 have hx_ := OwnF.eqOf (xs := s.filter (fun r : RectD => !decide (r.Pane = 0))) ho25 (by first | (rw [List.take_left' (by rw [List.length_take]; omega), p3, List.take_of_length_le (by omega)]) | (rw [List.take_append_of_le_length (by rw [List.length_take]; omega), List.take_take, Nat.min_self, p3, List.take_of_length_le (by omega)]))
 rw [← hx_]
 first | exact ⟨_, _, _, rfl, (St.keep1 hs23), ho25⟩ | exact ⟨A_s, c_s, _, by rw [OwnF.len_ ho25], (St.keep1 hs23), by rw [OwnF.len_ ho25]; exact ho25⟩
theorem k64_ (A_t : Option Addr) (n_t c_t : Nat) (t : List NodeD) (w_ : Int) (h_ : Int) (w : World) (f_t : SlF encNode w A_t n_t t) (hn : n_t ≤ 268435456) :
    Calls Tryz.prog 112 #[.slice A_t n_t c_t, i64 w_, i64 h_] w fun e w' => ∃ A c L1, e = .returned (.tuple #[.slice A (placesL t w_ h_).length c, .bool (placesOk t w_ h_)]) ∧ St w [] L1 w' ∧ OwnF encRect 71 (.slice A (placesL t w_ h_).length c) (placesL t w_ h_) L1 := by
 have hal := areasL_len t w_ h_
 refine enter 21 Tryz.func112 rfl Tryz.ntmps112 rfl rfl ?_
 have hs1 := St.init w
 refine WC.r1 hs1 [] rfl (WC.sr (WL.r 3 hs1 [] rfl (WL.cl Tryz.call173 rfl (k60_ _ _ _ _ _ _ _ (SlF.st0 f_t hs1) ?_) ?_)))
 · first | assumption | rfl | omega
 rintro _ whs2 ⟨A3, c4, L1_5, rfl, hs2, ho6⟩
 replace hs2 := hs1.callF hs2
 refine ⟨_, rfl, WL.r 5 hs2 [] rfl (WL.nil (WC.seq (fun K7 hK7 => WC.r1 hs2 [] rfl ?_)))⟩
 refine WC.cq rfl (fun h8 qh8 => ?_) (fun h8 qh8 => ?_)
 ·have hk : placesOk t w_ h_ = false := by simpa using h8
  refine WC.r1 hs2 [] rfl (WC.ret (tkR ?_))
  clear hK7
  refine retV2 rfl (resV.tmp rfl) (resV.tmp rfl) ?_
  rw [hk]
  have hx_ := OwnF.eqOf (xs := placesL t w_ h_) (OwnF.nil encRect 71) (by simp [placesL, hk])
  rw [← hx_]
  exact ⟨_, _, _, rfl, hs2.nil, (OwnF.nil encRect 71)⟩
 have hk : placesOk t w_ h_ = true := by simpa using h8
 have haf := areas_filter hk
 refine WC.skip (hK7 _ _ (WC.sr (WL.r 1 hs2 [] rfl ?_)))
 refine WL.cl Tryz.call174 rfl (k63_ _ _ _ _ ho6 (hs2.ow L1_5) ?_) ?_
 · first | assumption | rfl | omega
 rintro _ whs9 ⟨A10, c11, L1_12, rfl, hs9, ho13⟩
 replace hs9 := St.lend hs2 hs9
 refine ⟨_, rfl, WL.r 2 hs9 [] rfl (WL.nil (WC.ret (retV2 rfl (resV.tmp rfl) (resV.tmp rfl) ?_)))⟩
 rw [hk]
 have hx_ := OwnF.eqOf (xs := placesL t w_ h_) ho13 (by rw [haf])
 rw [← hx_]
 first | exact ⟨_, _, _, rfl, (St.keep1 hs9), ho13⟩ | exact ⟨A10, c11, _, by rw [OwnF.len_ ho13], (St.keep1 hs9), by rw [OwnF.len_ ho13]; exact ho13⟩
theorem k65_ (A_t : Option Addr) (n_t c_t : Nat) (t : List NodeD) (w_ : Int) (h_ : Int) (w : World) (f_t : SlF encNode w A_t n_t t) (hn : n_t ≤ 268435456) :
    Calls Tryz.prog 111 #[.slice A_t n_t c_t, i64 w_, i64 h_] w fun e w' => ∃ A c L1, e = .returned (.tuple #[.slice A (placesL t w_ h_).length c, .bool (placesOk t w_ h_)]) ∧ St w [] L1 w' ∧ OwnF encRect 71 (.slice A (placesL t w_ h_).length c) (placesL t w_ h_) L1 := by
 have hl := f_t.len
 refine enter 40 Tryz.func111 rfl Tryz.ntmps111 rfl rfl ?_
 have hs1 := St.init w
 refine WC.r1 hs1 [] rfl (WC.seq (fun K2 hK2 => WC.sr (WL.r 1 hs1 [] rfl ?_)))
 refine WL.cl Tryz.call101 rfl (k31_ _ _ _ _ _ (SlF.st0 f_t hs1) ?_) ?_
 · first | assumption | rfl | omega
 rintro _ whs3 ⟨rfl, hs3⟩
 replace hs3 := hs1.call0 hs3
 refine ⟨_, rfl, WL.r 2 hs3 [] rfl (WL.pO tbk 2 Acts.nil hs3 [] rfl rfl rfl rfl (fun g_ => trivial) (WL.r 1 hs3 [] rfl (WL.pO tbk 2 Acts.nil hs3 [] rfl rfl rfl rfl (fun g_ => trivial) (WL.r 1 hs3 [] rfl (WL.pO tbk 2 Acts.nil hs3 [] rfl rfl rfl rfl (fun g_ => trivial) (WL.r 1 hs3 [] rfl ?_))))))⟩
 refine WL.pO tbk 2 Acts.nil hs3 [] rfl rfl rfl rfl (fun g_ => trivial) (WL.nil (WC.cq rfl (fun h4 qh4 => ?_) (fun h4 qh4 => ?_)))
 ·have hk : placesOk t w_ h_ = false := by
    rw [← Bool.not_eq_true]; intro h_1
    simp only [placesOk, sidesOk, Bool.and_eq_true, within_iff] at h_1
    obtain ⟨⟨⟨a1_, a2_⟩, a3_⟩, _⟩ := h_1
    simp only [a1_, Bool.not_true, Bool.false_or, Bool.or_eq_true, decide_eq_true_eq] at h4; omega
  refine WC.r1 hs3 [] rfl (WC.ret (tkR ?_))
  clear hK2
  refine retV2 rfl (resV.tmp rfl) (resV.tmp rfl) ?_
  rw [hk]
  have hx_ := OwnF.eqOf (xs := placesL t w_ h_) (OwnF.nil encRect 71) (by simp [placesL, hk])
  rw [← hx_]
  exact ⟨_, _, _, rfl, hs3.nil, (OwnF.nil encRect 71)⟩
 have hs : treeOk t = true ∧ within w_ 1 120 = true ∧ within h_ 1 120 = true := by
   simp only [Bool.or_eq_false_iff, Bool.not_eq_false', decide_eq_false_iff_not] at h4
   exact ⟨h4.1.1.1.1, within_iff.2 ⟨by omega, by omega⟩, within_iff.2 ⟨by omega, by omega⟩⟩
 have hso : sidesOk t w_ h_ = true := by simp [sidesOk, hs]
 refine WC.skip (hK2 _ _ (WC.sr (WL.r 3 hs3 [] rfl ?_)))
 refine WL.val rfl rfl rfl (Run.build rfl rfl rfl rfl (built_71_3_4 _ _)) (WL.cl Tryz.call172 rfl (k56_ _ _ _ _ _ 0 _ _ _ _ _ (theT t) _ (SlF.st0 f_t hs3) ?_ ?_ ?_ ?_) ?_)
 · omega
 · rfl
 · exact (theT_at hs.1).1
 · exact fine0 hs.2.1 hs.2.2
 rintro _ whs5 ⟨A6, c7, L1_8, rfl, hs5, ho9⟩
 replace hs5 := hs3.callF hs5
 refine ⟨_, rfl, WL.r 5 hs5 [] rfl (WL.nil (WC.seq (fun K10 hK10 => WC.r1 hs5 [] rfl ?_)))⟩
 refine WC.cq rfl (fun h11 qh11 => ?_) (fun h11 qh11 => ?_)
 ·have hk : placesOk t w_ h_ = false := by simpa [placesOk, hso] using h11
  refine WC.r1 hs5 [] rfl (WC.ret (tkR ?_))
  clear hK10
  refine retV2 rfl (resV.tmp rfl) (resV.tmp rfl) ?_
  rw [hk]
  have hx_ := OwnF.eqOf (xs := placesL t w_ h_) (OwnF.nil encRect 71) (by simp [placesL, hk])
  rw [← hx_]
  exact ⟨_, _, _, rfl, hs5.nil, (OwnF.nil encRect 71)⟩
 have hk : placesOk t w_ h_ = true := by simpa [placesOk, hso] using h11
 refine WC.skip (hK10 _ _ (WC.r1 hs5 [] rfl (WC.ret (retV2 rfl (resV.tmp rfl) (resV.tmp rfl) ?_))))
 rw [hk]
 have hx_ := OwnF.eqOf (xs := placesL t w_ h_) ho9 (by simp [placesL, hk])
 rw [← hx_]
 first | exact ⟨_, _, _, rfl, (St.keep1 hs5), ho9⟩ | exact ⟨A6, c7, _, by rw [OwnF.len_ ho9], (St.keep1 hs5), by rw [OwnF.len_ ho9]; exact ho9⟩
end Go.Proofs.YthfhhldbglaieaaGreat
