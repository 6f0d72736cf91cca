/-
  What the proof stands on, part 3.
-/
import Derived.Test.YtgpdnpilglgklaaGreatKD2
namespace Go.Proofs.YtgpdnpilglgklaaGreat
open Go Go.RowKit
set_option linter.unusedVariables false
set_option linter.unusedSimpArgs false
theorem built_82_0_1 (x0 : ByteArray) (x1 : Int) : Tryz.prog.built 82 [(0, .string x0), (1, .int .i64 x1)] = some (List.toArray [.string x0, .int .i64 x1]) := by kernel_rfl
theorem k29_ (A_dir : Option Addr) (n_dir c_dir : Nat) (dir : List LinkD) (name : ByteArray) (w : World) (f_dir : SlF encLink w A_dir n_dir dir) (hn : n_dir ≤ 268435456) :
    Calls Tryz.prog 24 #[.slice A_dir n_dir c_dir, .string name] w fun e w' => e = .returned (.int .i64 (findL dir name)) ∧ St w [] [] w' := by
 have hl := f_dir.len
 refine enter 20 Tryz.func24 rfl Tryz.ntmps24 rfl rfl ?_
 have hs1 := St.init w
 refine WC.r1 hs1 [] rfl (WC.seq (fun K2 hK2 => WC.r1 hs1 [] rfl (WC.block ?_)))
 refine WC.lS [1, 7, 8] rfl hs1 (fun k_ f w' => ∃ (i : Nat), k_ = n_dir - i ∧ (i ≤ n_dir) ∧ (∀ j, j < i → isN name (gat encLink dir j) = false) ∧ Sub [(9, .int .i64 i)] f) ((fun (i : Nat) => n_dir - i) (0)) ?_ ?_
 ·refine ⟨0, rfl, ?_, ?_, ⟨rfl, trivial⟩⟩
  · exact Nat.zero_le _
  · exact fun j hj => absurd hj (by omega)
 clear hs1
 rintro _ f w ⟨i, rfl, p0, p1, hG⟩ hF hs3
 refine WC.sub _ (hG.app hF) ?_
 clear hG hF
 refine WC.r1 hs3 [] rfl (WC.seq (fun K4 hK4 => ?_))
 refine WC.cq rfl (fun h5 qh5 => ?_) (fun h5 qh5 => ?_)
 ·refine WC.skip (hK4 _ _ (WC.seq (fun K6 hK6 => WC.block (WC.sr ?_))))
  refine WL.val rfl rfl rfl (Run.idxN Tryz.runUnderlying33 Tryz.sizeOf82 rfl rfl rfl ?_ ?_ ?_) ?_
  · exact SlF.some_ (SlF.st0 f_dir hs3)
  · omega
  · omega
  refine WL.val rfl rfl rfl (Run.loadA Tryz.isAgg82 Tryz.sizeOf82 rfl rfl (SlF.whole (SlF.st0 f_dir hs3) ?_)) ?_
  · omega
  refine WL.al hs3 Tryz.zeroValue82 rfl rfl (fun b7 _ hs8 => WL.st tbk hs8 0 rfl rfl (fun _ hs9 => WL.nil (WC.r1 hs9 [0] rfl ?_)))
  refine WC.cq rfl (fun h10 qh10 => ?_) (fun h10 qh10 => ?_)
  ·refine WC.r1 hs9 [0] rfl (WC.ret (ibR (tkR (tkR (ibR (tkR ?_))))))
   clear hK6 hK2
   refine rtv rfl rfl hs9 ?_
   rw [findL_at (i := i) (by omega) p1 h10]
  refine WC.skip (hK6 _ _ (WC.region (WL.r 2 hs9 [] rfl (WL.nil (tkN ?_)))))
  refine ⟨sbF rfl, (hs9.drop (by repeat (first | exact List.Sublist.refl _ | exact List.sublist_append_left _ _ | exact List.Sublist.trans (List.sublist_append_left _ _) (List.sublist_append_left _ _) | apply List.Sublist.cons | refine List.Sublist.trans ?_ (sR _)))), _, ?_, i + 1, rfl, ?_, ?_, ⟨rfl, trivial⟩⟩
  · omega
  · omega
  · intro j hj; rcases Nat.lt_or_ge j i with h_ | h_
    · exact p1 j h_
    · obtain rfl : j = i := by omega
      exact h10
 refine WC.exit (hK2 _ _ (WC.r1 hs3 [] rfl (WC.ret (rtv rfl rfl hs3 ?_))))
 rw [findL_no (fun j hj => p1 j (by omega))]
theorem k30_ (A_dir : Option Addr) (n_dir c_dir : Nat) (dir : List LinkD) (name : ByteArray) (w : World) (f_dir : SlF encLink w A_dir n_dir dir) (hn : n_dir ≤ 268435456) :
    Calls Tryz.prog 79 #[.slice A_dir n_dir c_dir, .string name] w fun e w' => ∃ A c L1, e = .returned (.slice A (lessL dir name).length c) ∧ St w [] L1 w' ∧ OwnF encLink 82 (.slice A (lessL dir name).length c) (lessL dir name) L1 := by
 have hl := f_dir.len
 refine enter 25 Tryz.func79 rfl Tryz.ntmps79 rfl rfl ?_
 have hs1 := St.init w
 refine WC.r1 hs1 [] rfl (WC.sr (WL.buildF (F := encLink) hs1 ([]) Tryz.runUnderlying33 Tryz.sizeOf82 Tryz.zeroValue82 rfl rfl rfl rfl rfl rfl rfl rfl rfl rfl rfl rfl (fun A5 c6 L2 whs3 hs3 ho4 => WL.r 1 hs3 [] rfl (WL.nil (WC.seq (fun K7 hK7 => WC.r1 hs3 [] rfl (WC.block ?_)))))))
 refine WC.lO [1, 4, 9, 10] rfl hs3 (fun k_ f L_ => ∃ (zs : List LinkD) (i : Nat) (A8 : Option Addr) (c9 : Nat), k_ = n_dir - i ∧ (i ≤ n_dir) ∧ (zs = lessL (dir.take i) name) ∧ OwnF encLink 82 (.slice A8 (zs.length) c9) (zs) L_ ∧ Sub [(5, .slice A8 (zs.length) c9), (11, .int .i64 i)] f) (((fun (zs : List LinkD) (i : Nat) => n_dir - i) ([]) (0))) ?_ ?_
 ·refine ⟨[], 0, _, _, rfl, ?_, ?_, ho4, ⟨rfl, rfl, trivial⟩⟩
  · exact Nat.zero_le _
  · rfl
 clear hs3
 rintro _ f w L10 ⟨zs, i, A8, c9, rfl, p0, p1, ho11, hG⟩ hF hs12
 refine WC.sub _ (hG.app hF) ?_
 clear hG hF
 have hzl : zs.length ≤ n_dir := by rw [p1]; have h9 := lessL_len (dir := dir.take i) (n := name); rw [List.length_take] at h9; omega
 refine WC.r1 hs12 [] rfl (WC.seq (fun K13 hK13 => ?_))
 refine WC.cq rfl (fun h14 qh14 => ?_) (fun h14 qh14 => ?_)
 ·refine WC.skip (hK13 _ _ (WC.seq (fun K15 hK15 => WC.block (WC.sr ?_))))
  refine WL.val rfl rfl rfl (Run.idxN Tryz.runUnderlying33 Tryz.sizeOf82 rfl rfl rfl ?_ ?_ ?_) ?_
  · exact SlF.some_ (SlF.st0 f_dir hs12)
  · omega
  · omega
  refine WL.val rfl rfl rfl (Run.loadA Tryz.isAgg82 Tryz.sizeOf82 rfl rfl (SlF.whole (SlF.st0 f_dir hs12) ?_)) ?_
  · omega
  refine WL.al hs12 Tryz.zeroValue82 rfl rfl (fun b16 _ hs17 => WL.st tbk hs17 0 rfl rfl (fun _ hs18 => WL.nil (WC.r1 hs18 [0] rfl ?_)))
  refine WC.cq rfl (fun h19 qh19 => ?_) (fun h19 qh19 => ?_)
  ·refine WC.region (WL.r 2 hs18 [0] rfl (WL.buildSlice hs18 Tryz.runUnderlying33 Tryz.sizeOf82 Tryz.zeroValue82 rfl rfl rfl rfl rfl rfl rfl rfl rfl rfl (fun b20 whs21 hs21 => ?_)))
   refine WL.appendG (hs21.fr L10) ho11 (srcF (F := encLink) (ys := [gat encLink dir i]) Tryz.underlying33 rfl rfl (hs21.own _ (nthL_mem (i := 0) rfl)).1) Tryz.underlying33 inf82 rfl rfl rfl rfl rfl rfl rfl rfl rfl rfl ?_ (fun A25 c26 L22 whs23 hs23 ho24 => ?_)
   · simp; omega
   replace hs23 := St.back [_, _] hs23
   refine WL.r 1 hs23 [] rfl (WL.nil (hK15 _ _ (WC.region (WL.r 2 hs23 [] rfl (WL.nil (tkN ?_))))))
   replace hs23 := hs23.d1.d1
   refine ⟨sbF rfl, _, hs23, _, ?_, _, i + 1, _, _, rfl, ?_, ?_, ho24, ⟨rfl, rfl, trivial⟩⟩
   · omega
   · omega
   · rw [p1, lessL_take (by omega)]; unfold isN; first | rw [if_pos h19] | (rw [if_neg (show ¬ (!decide ((gat encLink dir i).Name = name)) = true by rw [h19]; decide), List.append_nil])
  refine WC.skip (hK15 _ _ (WC.region (WL.r 2 hs18 [] rfl (WL.nil (tkN ?_)))))
  replace hs18 := hs18.d1
  refine ⟨sbF rfl, _, hs18, _, ?_, _, i + 1, _, _, rfl, ?_, ?_, ho11, ⟨rfl, rfl, trivial⟩⟩
  · omega
  · omega
  · rw [p1, lessL_take (by omega)]; unfold isN; first | rw [if_pos h19] | (rw [if_neg (show ¬ (!decide ((gat encLink dir i).Name = name)) = true by rw [h19]; decide), List.append_nil])
 refine WC.exit (hK7 _ _ (WC.r1 hs12 [] rfl (WC.ret (retV1 rfl (resV.tmp rfl) ?_))))
 have hx_ := OwnF.eqOf (xs := lessL dir name) ho11 (by rw [p1, List.take_of_length_le (by omega)])
 rw [← hx_]
 first | exact ⟨_, _, _, rfl, (St.keep1 hs12), ho11⟩ | exact ⟨A8, c9, _, by rw [OwnF.len_ ho11], (St.keep1 hs12), by rw [OwnF.len_ ho11]; exact ho11⟩
theorem k31_ (A_dir : Option Addr) (n_dir c_dir : Nat) (dir : List LinkD) (name : ByteArray) (id : Int) (w : World) (f_dir : SlF encLink w A_dir n_dir dir) (hn : n_dir ≤ 268435456) :
    Calls Tryz.prog 78 #[.slice A_dir n_dir c_dir, .string name, i64 id] w fun e w' => ∃ A c L1, e = .returned (.slice A (withL dir name id).length c) ∧ St w [] L1 w' ∧ OwnF encLink 82 (.slice A (withL dir name id).length c) (withL dir name id) L1 := by
 have hl := f_dir.len
 refine enter 46 Tryz.func78 rfl Tryz.ntmps78 rfl rfl ?_
 have hs1 := St.init w
 refine WC.r1 hs1 [] rfl (WC.sr (WL.buildF (F := encLink) hs1 ([]) Tryz.runUnderlying33 Tryz.sizeOf82 Tryz.zeroValue82 rfl rfl rfl rfl rfl rfl rfl rfl rfl rfl rfl rfl (fun A5 c6 L2 whs3 hs3 ho4 => WL.r 1 hs3 [] rfl (WL.nil (WC.r1 hs3 [] rfl (WC.seq (fun K7 hK7 => WC.r1 hs3 [] rfl ?_)))))))
 refine WC.block (WC.lO [1, 2, 6, 12, 13] rfl hs3 (fun k_ f L_ => ∃ (zs : List LinkD) (i : Nat) (b : Bool) (A8 : Option Addr) (c9 : Nat), k_ = n_dir - i ∧ (i ≤ n_dir) ∧ (zs ++ (if b = true then dir.drop i else withL (dir.drop i) name id) = withL dir name id) ∧ (zs.length ≤ i + 1) ∧ (b = false → zs.length ≤ i) ∧ OwnF encLink 82 (.slice A8 (zs.length) c9) (zs) L_ ∧ Sub [(7, .slice A8 (zs.length) c9), (14, .int .i64 i), (8, .bool b)] f) (((fun (zs : List LinkD) (i : Nat) (b : Bool) => n_dir - i) ([]) (0) (false))) ?_ ?_)
 ·refine ⟨[], 0, false, _, _, rfl, ?_, ?_, ?_, ?_, ho4, ⟨rfl, rfl, rfl, trivial⟩⟩
  · exact Nat.zero_le _
  · rfl
  · exact Nat.zero_le _
  · exact fun _ => Nat.le_refl _
 clear hs3
 rintro _ f w L10 ⟨zs, i, b, A8, c9, rfl, p0, p1, p2, p3, ho11, hG⟩ hF hs12
 refine WC.sub _ (hG.app hF) ?_
 clear hG hF
 refine WC.r1 hs12 [] rfl (WC.seq (fun K13 hK13 => ?_))
 refine WC.cq rfl (fun h14 qh14 => ?_) (fun h14 qh14 => ?_)
 ·refine WC.skip (hK13 _ _ (WC.seq (fun K15 hK15 => WC.block (WC.sr ?_))))
  refine WL.val rfl rfl rfl (Run.idxN Tryz.runUnderlying33 Tryz.sizeOf82 rfl rfl rfl ?_ ?_ ?_) ?_
  · exact SlF.some_ (SlF.st0 f_dir hs12)
  · omega
  · omega
  refine WL.val rfl rfl rfl (Run.loadA Tryz.isAgg82 Tryz.sizeOf82 rfl rfl (SlF.whole (SlF.st0 f_dir hs12) ?_)) ?_
  · omega
  refine WL.al hs12 Tryz.zeroValue82 rfl rfl (fun b16 _ hs17 => WL.st tbk hs17 0 rfl rfl (fun _ hs18 => WL.nil (WC.seq (fun K19 hK19 => WC.sr (WL.r 3 hs18 [] rfl ?_)))))
  apply WL.gA 4 Acts.nil hs18 rfl
  ·intro g20 J21
   have qg20 := g20
   try simp only [bf, within_iff, within_not] at qg20
   refine WL.runA tbk 3 (Acts.nil.cons (j := 2) rfl g20) hs18 [0] rfl ⟨rfl, trivial⟩ (WL.val (wantT rfl g20) rfl rfl (Run.gtrT rfl rfl rfl) (WL.eA 4 Acts.nil J21 hs18 g20 rfl rfl))
  intro _ hs22
  refine WL.nil (WC.cq rfl (fun h23 qh23 => ?_) (fun h23 qh23 => ?_))
  ·refine WC.sr (WL.r 3 hs22 [] rfl ?_)
   refine WL.val rfl rfl rfl (Run.build rfl rfl rfl rfl (built_82_0_1 _ _)) (WL.buildSlice hs22 Tryz.runUnderlying33 Tryz.sizeOf82 Tryz.zeroValue82 rfl rfl rfl rfl rfl rfl rfl rfl rfl rfl (fun b24 whs25 hs25 => ?_))
   refine WL.appendG (hs25.fr L10) ho11 (srcF (F := encLink) (ys := [⟨name, id⟩]) Tryz.underlying33 rfl rfl (hs25.own _ (nthL_mem (i := 0) rfl)).1) Tryz.underlying33 inf82 rfl rfl rfl rfl rfl rfl rfl rfl rfl rfl ?_ (fun A29 c30 L26 whs27 hs27 ho28 => ?_)
   · simp; omega
   replace hs27 := St.back [_, _] hs27
   refine WL.r 1 hs27 [] rfl (WL.nil (WC.region (WL.r 1 hs27 [] rfl (WL.nil (hK19 _ _ (WC.region (WL.r 2 hs27 [1] rfl ?_)))))))
   refine WL.buildSlice hs27 Tryz.runUnderlying33 Tryz.sizeOf82 Tryz.zeroValue82 rfl rfl rfl rfl rfl rfl rfl rfl rfl rfl (fun b31 whs32 hs32 => ?_)
   refine WL.appendG (hs32.fr L26) ho28 (srcF (F := encLink) (ys := [gat encLink dir i]) Tryz.underlying33 rfl rfl (hs32.own _ (nthL_mem (i := 0) rfl)).1) Tryz.underlying33 inf82 rfl rfl rfl rfl rfl rfl rfl rfl rfl rfl ?_ (fun A36 c37 L33 whs34 hs34 ho35 => ?_)
   · simp; omega
   replace hs34 := St.back [_, _, _] hs34
   refine WL.r 1 hs34 [] rfl (WL.nil (hK15 _ _ (WC.region (WL.r 2 hs34 [] rfl (WL.nil (tkN ?_))))))
   replace hs34 := hs34.d1.d1.d1
   refine ⟨sbF rfl, _, hs34, _, ?_, _, i + 1, _, _, _, rfl, ?_, ?_, ?_, ?_, ho35, ⟨rfl, rfl, rfl, trivial⟩⟩
   · omega
   · omega
   · first | exact with_new p1 (by omega) h23 | exact with_next p1 (by omega) h23
   · cases b <;> first | (have h9 := p3 rfl; simp; omega) | (simp at h23; done) | (simp; omega)
   · intro h9; cases b <;> first | (cases h9; done) | (have h9 := p3 rfl; simp; omega)
  refine WC.skip (hK19 _ _ (WC.region (WL.r 2 hs22 [0] rfl (WL.buildSlice hs22 Tryz.runUnderlying33 Tryz.sizeOf82 Tryz.zeroValue82 rfl rfl rfl rfl rfl rfl rfl rfl rfl rfl (fun b38 whs39 hs39 => ?_)))))
  refine WL.appendG (hs39.fr L10) ho11 (srcF (F := encLink) (ys := [gat encLink dir i]) Tryz.underlying33 rfl rfl (hs39.own _ (nthL_mem (i := 0) rfl)).1) Tryz.underlying33 inf82 rfl rfl rfl rfl rfl rfl rfl rfl rfl rfl ?_ (fun A43 c44 L40 whs41 hs41 ho42 => ?_)
  · simp; omega
  replace hs41 := St.back [_, _] hs41
  refine WL.r 1 hs41 [] rfl (WL.nil (hK15 _ _ (WC.region (WL.r 2 hs41 [] rfl (WL.nil (tkN ?_))))))
  replace hs41 := hs41.d1.d1
  refine ⟨sbF rfl, _, hs41, _, ?_, _, i + 1, _, _, _, rfl, ?_, ?_, ?_, ?_, ho42, ⟨rfl, rfl, rfl, trivial⟩⟩
  · omega
  · omega
  · first | exact with_new p1 (by omega) h23 | exact with_next p1 (by omega) h23
  · cases b <;> first | (have h9 := p3 rfl; simp; omega) | (simp at h23; done) | (simp; omega)
  · intro h9; cases b <;> first | (cases h9; done) | (have h9 := p3 rfl; simp; omega)
 refine WC.exit (hK7 _ _ (WC.seq (fun K45 hK45 => WC.r1 hs12 [] rfl ?_)))
 refine WC.cq rfl (fun h46 qh46 => ?_) (fun h46 qh46 => ?_)
 ·refine WC.region (WL.r 3 hs12 [] rfl ?_)
  refine WL.val rfl rfl rfl (Run.build rfl rfl rfl rfl (built_82_0_1 _ _)) (WL.buildSlice hs12 Tryz.runUnderlying33 Tryz.sizeOf82 Tryz.zeroValue82 rfl rfl rfl rfl rfl rfl rfl rfl rfl rfl (fun b47 whs48 hs48 => ?_))
  refine WL.appendG (hs48.fr L10) ho11 (srcF (F := encLink) (ys := [⟨name, id⟩]) Tryz.underlying33 rfl rfl (hs48.own _ (nthL_mem (i := 0) rfl)).1) Tryz.underlying33 inf82 rfl rfl rfl rfl rfl rfl rfl rfl rfl rfl ?_ (fun A52 c53 L49 whs50 hs50 ho51 => ?_)
  · simp; omega
  replace hs50 := St.back [_] hs50
  refine WL.r 1 hs50 [] rfl (WL.nil (hK45 _ _ (WC.r1 hs50 [] rfl (WC.ret (retV1 rfl (resV.tmp rfl) ?_)))))
  have hx_ := OwnF.eqOf (xs := withL dir name id) ho51 (by obtain rfl : i = dir.length := (by omega); have h8 := with_end p1; cases b <;> first | exact h8 | exact absurd qh46 (by decide) | (exfalso; simp_all; done))
  rw [← hx_]
  first | exact ⟨_, _, _, rfl, (St.keep1 (hs50.fr L49)), ho51⟩ | exact ⟨A52, c53, _, by rw [OwnF.len_ ho51], (St.keep1 (hs50.fr L49)), by rw [OwnF.len_ ho51]; exact ho51⟩
 refine WC.skip (hK45 _ _ (WC.r1 hs12 [] rfl (WC.ret (retV1 rfl (resV.tmp rfl) ?_))))
 have hx_ := OwnF.eqOf (xs := withL dir name id) ho11 (by obtain rfl : i = dir.length := (by omega); have h8 := with_end p1; cases b <;> first | exact h8 | exact absurd qh46 (by decide) | (exfalso; simp_all; done))
 rw [← hx_]
 first | exact ⟨_, _, _, rfl, (St.keep1 hs12), ho11⟩ | exact ⟨A8, c9, _, by rw [OwnF.len_ ho11], (St.keep1 hs12), by rw [OwnF.len_ ho11]; exact ho11⟩
def leafOk (n : NodeD) : Bool := isId n.Pane && !n.Down && decide (n.First = 0)
def nodeOk (n : NodeD) : Bool := if n.Pane = 0 then within n.First 1 120 else leafOk n
inductive Tr where
  | leaf (n : NodeD)
  | split (n : NodeD) (a b : Tr)
def Tr.flat : Tr → List NodeD
  | .leaf n => [n]
  | .split n a b => n :: (a.flat ++ b.flat)
def Tr.shaped : Tr → Prop
  | .leaf n => n.Pane ≠ 0
  | .split n a b => n.Pane = 0 ∧ a.shaped ∧ b.shaped
theorem Tr.flat_pos : ∀ (T : Tr), 0 < T.flat.length
  | .leaf n => by simp [flat]
  | .split n a b => by simp [flat]
def skipF (ok : NodeD → Bool) : Nat → List NodeD → Option (List NodeD)
  | 0, _ => none
  | _ + 1, [] => none
  | k + 1, n :: r => if ok n = false then none else if n.Pane ≠ 0 then some r else (skipF ok k r).bind (skipF ok k)
theorem skipF_flat {ok : NodeD → Bool} : ∀ {T : Tr} {k : Nat} {r : List NodeD}, T.shaped → (∀ n, n ∈ T.flat → ok n = true) → T.flat.length ≤ k → skipF ok k (T.flat ++ r) = some r
  | .leaf n, k, r, hs, ho, hk => by
    cases k with
    | zero => simp [Tr.flat] at hk
    | succ k =>
      have := ho n (by simp [Tr.flat])
      simp only [Tr.shaped] at hs
      simp [Tr.flat, skipF, this, hs]
  | .split n a b, k, r, hs, ho, hk => by
    cases k with
    | zero => simp [Tr.flat] at hk
    | succ k =>
      obtain ⟨h0, h1, h2⟩ := hs
      simp only [Tr.flat, List.length_cons, List.length_append] at hk
      have hn := ho n (by simp [Tr.flat])
      have ha := skipF_flat (T := a) (k := k) (r := b.flat ++ r) h1 (fun m hm => ho m (by simp [Tr.flat, hm])) (by omega)
      have hb := skipF_flat (T := b) (k := k) (r := r) h2 (fun m hm => ho m (by simp [Tr.flat, hm])) (by omega)
      simp only [Tr.flat, List.cons_append, List.append_assoc, skipF, hn, h0, ha, hb, Option.bind]
      simp
def endOfL (t : List NodeD) (o : Option (List NodeD)) : Int := match o with | some r => (t.length : Int) - r.length | none => -1
def endI (t : List NodeD) (at_ : Int) : Int := if 0 ≤ at_ ∧ at_ < t.length then endOfL t (skipF nodeOk t.length (t.drop at_.toNat)) else -1
theorem nat_drop {t : List NodeD} {i : Nat} (h : i < t.length) : t.drop i = gat encNode t i :: t.drop (i + 1) := by
  rw [List.drop_eq_getElem_cons h]; congr 1; have := gat_get (F := encNode) h; rw [List.getElem?_eq_getElem h] at this; exact Option.some.inj this
def panesL (t : List NodeD) : List Int := (t.filter fun n => decide (n.Pane ≠ 0)).map (·.Pane)
def treeOk (t : List NodeD) : Bool := decide (t.length ≤ 31) && decide (endI t 0 = t.length) && decide (panesL t).Nodup
def Valid (t : List NodeD) (T : Tr) : Prop := T.shaped ∧ (∀ n, n ∈ t → nodeOk n = true) ∧ T.flat = t
def sortI (l : List Int) : List Int := l.mergeSort fun x y => decide (x ≤ y)
theorem sortI_perm (l : List Int) : (sortI l).Perm l := List.mergeSort_perm _ _
theorem sortI_len (l : List Int) : (sortI l).length = l.length := (sortI_perm l).length_eq
theorem sortI_sorted (l : List Int) : (sortI l).Pairwise (· ≤ ·) := by
  have := List.pairwise_mergeSort (le := fun x y : Int => decide (x ≤ y)) (fun a b c h1 h2 => by simp at *; omega) (fun a b => by simp; omega) l
  exact this.imp (fun h => by simpa using h)
def atL (t : List NodeD) (p : Int) : Int := findI (fun n => !decide (n.Pane = 0) && decide (n.Pane = p)) t
theorem sub_at : ∀ {T : Tr} {i : Nat}, T.shaped → i < T.flat.length → ∃ (S : Tr) (r : List NodeD), S.shaped ∧ (∀ n, n ∈ S.flat → n ∈ T.flat) ∧ T.flat.drop i = S.flat ++ r
  | .leaf n, i, hs, hi => by
    have : i = 0 := by simp [Tr.flat] at hi; omega
    subst this
    exact ⟨.leaf n, [], hs, fun _ h => h, by simp⟩
  | .split n a b, 0, hs, hi => ⟨.split n a b, [], hs, fun _ h => h, by simp⟩
  | .split n a b, i + 1, hs, hi => by
    obtain ⟨h0, h1, h2⟩ := hs
    simp only [Tr.flat, List.length_cons, List.length_append] at hi
    simp only [Tr.flat, List.drop_succ_cons]
    rcases Nat.lt_or_ge i a.flat.length with h | h
    · obtain ⟨S, r, hS, hm, hd⟩ := sub_at h1 h
      refine ⟨S, r ++ b.flat, hS, fun n hn => by simp [hm n hn], ?_⟩
      rw [List.drop_append_of_le_length (by omega), hd, List.append_assoc]
    · obtain ⟨S, r, hS, hm, hd⟩ := sub_at h2 (show i - a.flat.length < b.flat.length by omega)
      refine ⟨S, r, hS, fun n hn => by simp [hm n hn], ?_⟩
      rw [List.drop_append, List.drop_eq_nil_of_le (by omega), List.nil_append, hd]
structure At (t : List NodeD) (i : Nat) (S : Tr) : Prop where
  shaped : S.shaped
  ok : ∀ n, n ∈ S.flat → nodeOk n = true
  drop : ∃ r, t.drop i = S.flat ++ r
theorem Valid.at_ {t : List NodeD} {T : Tr} (h : Valid t T) {i : Nat} (hi : i < t.length) : ∃ S, At t i S := by
  obtain ⟨hT, ho, rfl⟩ := h
  obtain ⟨S, r, hS, hm, hd⟩ := sub_at hT hi
  exact ⟨S, hS, fun n hn => ho n (hm n hn), r, hd⟩
theorem At.le {t : List NodeD} {i : Nat} {S : Tr} (h : At t i S) : i + S.flat.length ≤ t.length := by
  obtain ⟨r, hr⟩ := h.drop
  have := congrArg List.length hr
  have h0 := S.flat_pos
  rw [List.length_drop, List.length_append] at this
  omega
theorem At.lt {t : List NodeD} {i : Nat} {S : Tr} (h : At t i S) : i < t.length := by
  have := h.le
  have := S.flat_pos
  omega
theorem At.endI {t : List NodeD} {i : Nat} {S : Tr} (h : At t i S) : endI t i = (i + S.flat.length : Nat) := by
  obtain ⟨r, hr⟩ := h.drop
  have h1 := h.le
  have h2 := h.lt
  have h3 := congrArg List.length hr
  rw [List.length_drop, List.length_append] at h3
  rw [Go.Proofs.YtgpdnpilglgklaaGreat.endI, if_pos ⟨by omega, by omega⟩, Int.toNat_natCast, hr, skipF_flat h.shaped h.ok (by omega)]
  simp only [endOfL]
  omega
theorem At.head {t : List NodeD} {i : Nat} {S : Tr} (h : At t i S) : S.flat.head? = some (gat encNode t i) := by
  obtain ⟨r, hr⟩ := h.drop
  rw [nat_drop h.lt] at hr
  cases S with
  | leaf n => simp [Tr.flat] at hr ⊢; exact hr.1.symm
  | split n a b => simp [Tr.flat] at hr ⊢; exact hr.1.symm
theorem At.parts {t : List NodeD} {i : Nat} {n : NodeD} {a b : Tr} (h : At t i (.split n a b)) : gat encNode t i = n ∧ At t (i + 1) a ∧ At t (i + 1 + a.flat.length) b := by
  obtain ⟨h0, h1, h2⟩ := h.shaped
  obtain ⟨r, hr⟩ := h.drop
  have hh := h.head
  simp [Tr.flat] at hh
  have hd : t.drop (i + 1) = a.flat ++ (b.flat ++ r) := by
    rw [← List.drop_drop, hr]
    simp [Tr.flat]
  refine ⟨hh.symm, ⟨h1, fun m hm => h.ok m (by simp [Tr.flat, hm]), _, hd⟩, ⟨h2, fun m hm => h.ok m (by simp [Tr.flat, hm]), r, ?_⟩⟩
  rw [← List.drop_drop, hd, List.drop_left]
def isSplit (t : List NodeD) (i : Nat) : Bool := decide ((gat encNode t i).Pane = 0)
def isOver (t : List NodeD) (at_ i : Nat) : Bool := isSplit t i && decide (endI t i > at_)
def lastI (p : Nat → Bool) : Nat → Int
  | 0 => -1
  | k + 1 => if p k = true then (k : Int) else lastI p k
def sizeR (n : NodeD) (r : RectD) : Int := if n.Down = true then r.H else r.W
def firstR (n : NodeD) (r : RectD) : RectD := if n.Down = true then { r with H := min n.First (r.H - 2) } else { r with W := min n.First (r.W - 2) }
structure Fine (r : RectD) : Prop where
  pane : r.Pane = 0
  x : 0 ≤ r.X
  y : 0 ≤ r.Y
  w : 1 ≤ r.W
  h : 1 ≤ r.H
  xw : r.X + r.W ≤ 120
  yh : r.Y + r.H ≤ 120
theorem Fine.first {r : RectD} {n : NodeD} (h : Fine r) (hf : 1 ≤ n.First) (hs : 3 ≤ sizeR n r) : Fine (firstR n r) := by
  obtain ⟨h0, h1, h2, h3, h4, h5, h6⟩ := h
  unfold sizeR at hs
  unfold firstR
  split at hs <;> rename_i hd <;> simp only [hd] <;> constructor <;> simp <;> omega
def cutOk (t : List NodeD) (p : Int) : Bool := treeOk t && decide (1 ≤ atL t p)
def upL (t : List NodeD) (p : Int) : Nat := (lastI (isOver t (atL t p).toNat) (atL t p).toNat).toNat
def cutL (t : List NodeD) (p : Int) : List NodeD :=
  if cutOk t p = true then t.take (upL t p) ++ (t.drop (upL t p + 1)).take ((atL t p).toNat - (upL t p + 1)) ++ t.drop ((atL t p).toNat + 1) else []
structure Within (q r : RectD) : Prop where
  x0 : r.X ≤ q.X
  y0 : r.Y ≤ q.Y
  w1 : 1 ≤ q.W
  h1 : 1 ≤ q.H
  x1 : q.X + q.W ≤ r.X + r.W
  y1 : q.Y + q.H ≤ r.Y + r.H
theorem Within.trans {a b c : RectD} (h : Within a b) (k : Within b c) : Within a c :=
  ⟨by have := h.x0; have := k.x0; omega, by have := h.y0; have := k.y0; omega, h.w1, h.h1, by have := h.x1; have := k.x1; omega, by have := h.y1; have := k.y1; omega⟩
theorem filter_take {α : Type} {F : Enc α} {p : α → Bool} {xs : List α} {j : Nat} (hj : j < xs.length) : (xs.take (j + 1)).filter p = (xs.take j).filter p ++ (if p (gat F xs j) = true then [gat F xs j] else []) := by
  rw [List.take_add_one, gat_get (F := F) hj, List.filter_append]
  congr 1
  cases h : p (gat F xs j) <;> simp [h]
theorem set_take {α : Type} {zs : List α} {i : Nat} {x : α} (h : i < zs.length) : (zs.set i x).take (i + 1) = zs.take i ++ [x] := by
  have hl : (zs.set i x)[i]? = some x := by simp [h]
  rw [List.take_add_one, hl, List.take_set_of_le (Nat.le_refl i)]
  rfl
theorem gat_set_ne {α : Type} {F : Enc α} {zs : List α} {i k : Nat} {x : α} (h : k ≠ i) : gat F (zs.set i x) k = gat F zs k := by
  unfold gat
  simp [List.getD_eq_getElem?_getD, List.getElem?_set_ne (Ne.symm h)]
theorem range_all {n : Nat} {p : Nat → Bool} (h : ∀ j, j < n → p j = true) : (List.range n).all p = true := by
 rw [List.all_eq_true]; intro x hx; exact h x (List.mem_range.1 hx)
theorem range_no {n i : Nat} {p : Nat → Bool} (hi : i < n) (h : p i = false) : (List.range n).all p = false := by
 rw [List.all_eq_false]; exact ⟨i, List.mem_range.2 hi, by rw [h]; decide⟩
theorem range_get {n i : Nat} {p : Nat → Bool} (h : (List.range n).all p = true) (hi : i < n) : p i = true := List.all_eq_true.1 h i (List.mem_range.2 hi)
def file0 : FileD := ⟨0, [], 0⟩
def fAt (l : List FileD) (i : Nat) : FileD := l.getD i file0
theorem fAt_dat {xs : List FileR} {i : Nat} (h : i < xs.length) : fAt (xs.map FileR.dat) i = (gat encFileR xs i).dat := by
 unfold fAt
 rw [List.getD_eq_getElem?_getD, List.getElem?_map, gat_get (F := encFileR) h]; rfl
def usedF (l : List FileD) : Nat := (l.map fun f => f.Body.length).sum
theorem usedF_take {xs : List FileR} {i : Nat} (h : i < xs.length) : usedF ((xs.take (i + 1)).map FileR.dat) = usedF ((xs.take i).map FileR.dat) + (gat encFileR xs i).Body.xs.length := by
 unfold usedF
 rw [List.take_add_one, gat_get (F := encFileR) h, List.map_append, List.map_append, List.sum_append]
 simp [FileR.dat]
def idsD (d : DiskD) : List Int := d.Kept.map (·.Id) ++ made d.Turns
theorem made_take {l : List TurnD} {i : Nat} (h : i < l.length) : made (l.take (i + 1)) = made (l.take i) ++ (if (gat encTurn l i).Kind = 1 then [(gat encTurn l i).Id] else []) := by
 unfold made
 rw [List.take_add_one, gat_get (F := encTurn) h, List.filter_append, List.map_append]
 congr 1
 show List.map _ (List.filter _ [gat encTurn l i]) = _
 by_cases hk : (gat encTurn l i).Kind = 1 <;> simp [hk]
theorem keptI_take {l : List LinkD} {i : Nat} (h : i < l.length) : (l.take (i + 1)).map (·.Id) = (l.take i).map (·.Id) ++ [(gat encLink l i).Id] := by
 rw [List.take_add_one, gat_get (F := encLink) h, List.map_append]; rfl
theorem made_len (l : List TurnD) : (made l).length ≤ l.length := by unfold made; rw [List.length_map]; exact List.length_filter_le _ _
def fileOkAt (nx : Int) (l : List FileD) (i : Nat) : Bool :=
 (decide (1 ≤ (fAt l i).Id) && decide ((fAt l i).Id < nx)) && (decide (i = 0) || decide ((fAt l (i - 1)).Id < (fAt l i).Id)) && (decide (0 ≤ (fAt l i).Safe) && decide ((fAt l i).Safe ≤ ((fAt l i).Body.length : Int)))
def filesOk (nx : Int) (l : List FileD) : Bool := (List.range l.length).all (fileOkAt nx l)
def keptOkAt (l : List LinkD) (i : Nat) : Bool := nameOk (gat encLink l i).Name && (decide (i = 0) || decide (cmpS (gat encLink l (i - 1)).Name (gat encLink l i).Name < 0))
def keptOk (l : List LinkD) : Bool := (List.range l.length).all (keptOkAt l)
def idsOkAt (ids fs : List Int) (i : Nat) : Bool := !(ids.take i).contains (gat encI ids i) && fs.contains (gat encI ids i)
def idsOk (ids fs : List Int) : Bool := decide (ids.length = fs.length) && (List.range ids.length).all (idsOkAt ids fs)
def diskBnd (d : DiskD) : Bool := within d.Room 0 400000 && within d.Fuse (-1) 1000 && within d.Next 1 1000000
def diskLen (d : DiskD) : Bool := decide (d.Files.length ≤ 10) && decide (d.Kept.length ≤ 10) && decide (d.Turns.length ≤ 30) && decide ((usedF d.Files : Int) ≤ d.Room)
def fileIds (d : DiskD) : List Int := d.Files.map (·.Id)
def diskOk (d : DiskD) : Bool := diskBnd d && diskLen d && filesOk d.Next d.Files && keptOk d.Kept && idsOk (idsD d) (fileIds d) && runS d.Kept d.Turns
def diskOkI (d : DiskD) : Bool := diskBnd d && diskLen d && filesOk d.Next d.Files && keptOk d.Kept && decide (sortI (idsD d) = fileIds d) && runI d.Kept d.Turns
theorem kept_sorted {l : List LinkD} (h : keptOk l = true) : sortedL l := by
 have hg : ∀ j (hj : j < l.length), gat encLink l j = l[j] := fun j hj => by
  have := gat_get (F := encLink) hj
  rw [List.getElem?_eq_getElem hj] at this
  exact (Option.some.inj this).symm
 have hs : ∀ j, (hj : j + 1 < l.length) → cmpS (l[j]'(by omega)).Name (l[j + 1]).Name < 0 := fun j hj => by
  have h1 := range_get h hj
  unfold keptOkAt at h1
  rw [Bool.and_eq_true, Bool.or_eq_true] at h1
  rcases h1.2 with h2 | h2
  ·simp at h2
  ·rw [Nat.add_sub_cancel, hg j (by omega), hg (j + 1) hj] at h2; simpa using h2
 unfold sortedL
 rw [List.pairwise_iff_getElem]
 intro i j hi hj hij
 obtain ⟨d, rfl⟩ : ∃ d, j = i + 1 + d := ⟨j - (i + 1), by omega⟩
 induction d with
 | zero => exact hs i hj
 | succ d ih => exact cmpS_trans (ih (by omega) (by omega)) (hs (i + 1 + d) hj)
theorem files_asc {nx : Int} {l : List FileD} (h : filesOk nx l = true) : (l.map (·.Id)).Pairwise (· < ·) ∧ ∀ n, n ∈ l.map (·.Id) → 1 ≤ n := by
 have hg : ∀ j (hj : j < l.length), fAt l j = l[j] := fun j hj => by unfold fAt; rw [List.getD_eq_getElem?_getD, List.getElem?_eq_getElem hj]; rfl
 have hs : ∀ j, (hj : j + 1 < l.length) → (l[j]'(by omega)).Id < (l[j + 1]).Id := fun j hj => by
  have h1 := range_get h hj
  unfold fileOkAt at h1
  simp only [Bool.and_eq_true, Bool.or_eq_true, decide_eq_true_eq] at h1
  rcases h1.1.2 with h2 | h2
  ·omega
  ·rw [Nat.add_sub_cancel, hg j (by omega), hg (j + 1) hj] at h2; exact h2
 constructor
 ·rw [List.pairwise_map, List.pairwise_iff_getElem]
  intro i j hi hj hij
  obtain ⟨d, rfl⟩ : ∃ d, j = i + 1 + d := ⟨j - (i + 1), by omega⟩
  induction d with
  | zero => exact hs i hj
  | succ d ih => exact Int.lt_trans (ih (by omega) (by omega)) (hs (i + 1 + d) hj)
 ·intro n hn
  obtain ⟨f, hf, rfl⟩ := List.mem_map.1 hn
  obtain ⟨j, hj, rfl⟩ := List.mem_iff_getElem.1 hf
  have h1 := range_get h hj
  unfold fileOkAt at h1
  simp only [Bool.and_eq_true, decide_eq_true_eq] at h1
  rw [hg j hj] at h1
  exact h1.1.1.1
theorem asc_nodup {l : List Int} (h : l.Pairwise (· < ·)) : l.Nodup := h.imp fun h => by omega
theorem asc_eq {l m : List Int} (hl : l.Pairwise (· < ·)) (hm : m.Pairwise (· ≤ ·)) (hp : m.Perm l) : m = l :=
 List.Perm.eq_of_pairwise (le := (· ≤ ·)) (fun a b _ _ h1 h2 => Int.le_antisymm h1 h2) hm (hl.imp fun h => by omega) hp
theorem idsOk_iff {ids fs : List Int} : idsOk ids fs = true ↔ ids.length = fs.length ∧ ids.Nodup ∧ ∀ n, n ∈ ids → n ∈ fs := by
 have hg : ∀ j (hj : j < ids.length), gat encI ids j = ids[j] := fun j hj => by
  have := gat_get (F := encI) hj
  rw [List.getElem?_eq_getElem hj] at this
  exact (Option.some.inj this).symm
 unfold idsOk
 rw [Bool.and_eq_true, decide_eq_true_eq]
 refine and_congr_right fun _ => ?_
 constructor
 ·intro h
  refine ⟨?_, fun n hn => ?_⟩
  ·unfold List.Nodup
   rw [List.pairwise_iff_getElem]
   intro i j hi hj hij hh
   have h1 := range_get h hj
   unfold idsOkAt at h1
   rw [Bool.and_eq_true, Bool.not_eq_true', hg j hj, ← Bool.not_eq_true, List.contains_iff_mem] at h1
   exact h1.1 (List.mem_iff_getElem.2 ⟨i, by rw [List.length_take]; omega, by rw [List.getElem_take]; exact hh⟩)
  ·obtain ⟨j, hj, rfl⟩ := List.mem_iff_getElem.1 hn
   have h1 := range_get h hj
   unfold idsOkAt at h1
   rw [Bool.and_eq_true, hg j hj, List.contains_iff_mem] at h1
   exact h1.2
 ·rintro ⟨h1, h2⟩
  refine range_all fun j hj => ?_
  unfold idsOkAt
  rw [Bool.and_eq_true, Bool.not_eq_true', hg j hj, ← Bool.not_eq_true, List.contains_iff_mem, List.contains_iff_mem]
  refine ⟨fun hm => ?_, h2 _ (List.getElem_mem hj)⟩
  obtain ⟨i, hi, e⟩ := List.mem_iff_getElem.1 hm
  rw [List.length_take] at hi
  rw [List.getElem_take] at e
  unfold List.Nodup at h1
  exact List.pairwise_iff_getElem.1 h1 i j (by omega) hj (by omega) e
theorem perm_sub : ∀ {l m : List Int}, l.Nodup → (∀ n, n ∈ l → n ∈ m) → m.length ≤ l.length → l.Perm m
 | [], m, _, _, h => by
  have : m = [] := List.eq_nil_of_length_eq_zero (by simpa using h)
  rw [this]
 | n :: r, m, hn, hs, h => by
  obtain ⟨h1, h2⟩ := List.nodup_cons.1 hn
  have hm := hs n List.mem_cons_self
  have hp := List.perm_cons_erase hm
  have hl := List.length_erase_of_mem hm
  rw [List.length_cons] at h
  refine (List.Perm.cons n (perm_sub h2 (fun q hq => ?_) (by omega))).trans hp.symm
  exact (List.mem_erase_of_ne (fun e => h1 (by rw [← e]; exact hq))).2 (hs q (List.mem_cons_of_mem _ hq))
theorem ids_same {ids fs : List Int} (hf : fs.Pairwise (· < ·)) : decide (sortI ids = fs) = idsOk ids fs := by
 rw [Bool.eq_iff_iff, decide_eq_true_eq, idsOk_iff]
 constructor
 ·intro h
  have hp : fs.Perm ids := h ▸ sortI_perm ids
  exact ⟨hp.length_eq.symm, hp.nodup_iff.1 (asc_nodup hf), fun n hn => hp.mem_iff.2 hn⟩
 ·rintro ⟨h1, h2, h3⟩
  have hp : ids.Perm fs := perm_sub h2 h3 (by omega)
  exact asc_eq hf (sortI_sorted ids) ((sortI_perm ids).trans hp)
theorem disk_same (d : DiskD) : diskOkI d = diskOk d := by
 unfold diskOkI diskOk
 cases hf : filesOk d.Next d.Files with
 | false => simp
 | true =>
  obtain ⟨h1, h2⟩ := files_asc hf
  rw [ids_same (fs := fileIds d) h1]
  cases hi : idsOk (idsD d) (fileIds d) with
  | false => simp
  | true =>
   have h3 := (idsOk_iff.1 hi).2.2
   have ha : ∀ n, n ∈ idsD d → 1 ≤ n := fun n hn => h2 n (h3 n hn)
   have e := run_same (l := d.Turns) (dir := d.Kept) (fun x hx => ha _ (List.mem_append_left _ (List.mem_map_of_mem hx))) (fun n hn => ha _ (List.mem_append_right _ hn))
   rw [e]
theorem usedF_le {xs : List FileR} (i : Nat) : usedF ((xs.take i).map FileR.dat) ≤ usedF (xs.map FileR.dat) := by
 have e : usedF (xs.map FileR.dat) = usedF ((xs.take i).map FileR.dat) + usedF ((xs.drop i).map FileR.dat) := by
  unfold usedF
  rw [← List.sum_append, ← List.map_append, ← List.map_append, List.take_append_drop]
 omega
theorem int_not {l : List Int} {x : Int} (h : ∀ j, j < l.length → gat encI l j ≠ x) : ¬ x ∈ l := by
 intro hx
 obtain ⟨j, hj, rfl⟩ := List.mem_iff_getElem.1 hx
 have := gat_get (F := encI) hj
 rw [List.getElem?_eq_getElem hj] at this
 exact h j hj (Option.some.inj this).symm
theorem totDisk_facts {d : DiskD} (h : totDisk d ≤ 1048576) : (d.Files.length ≤ 1048576 ∧ d.Kept.length ≤ 1048576 ∧ d.Turns.length ≤ 1048576) ∧ usedF d.Files ≤ 1048576 := by
 unfold totDisk at h
 have h1 := tots_len totFile d.Files
 have h2 := tots_len totLink d.Kept
 have h3 := tots_len totTurn d.Turns
 have h4 : usedF d.Files ≤ tots totFile d.Files := by
  unfold usedF tots
  have e : (fun f : FileD => f.Body.length) = totFile := by funext f; unfold totFile; rfl
  rw [e]; omega
 omega
theorem fileOk_spec {d : DiskR} {i : Nat} (hi : i < d.Files.xs.length) (hb : (gat encFileR d.Files.xs i).Body.xs.length = (gat encFileR d.Files.xs i).Body.n) :
  fileOkAt d.Next d.dat.Files i = !(decide ((gat encFileR d.Files.xs i).Id < 1) || decide (d.Next ≤ (gat encFileR d.Files.xs i).Id) || decide (0 < (i : Int)) && decide ((gat encFileR d.Files.xs i).Id ≤ (gat encFileR d.Files.xs (i - 1)).Id) || decide ((gat encFileR d.Files.xs i).Safe < 0) || decide (((gat encFileR d.Files.xs i).Body.n : Int) < (gat encFileR d.Files.xs i).Safe)) := by
 have e1 : fAt d.dat.Files i = (gat encFileR d.Files.xs i).dat := fAt_dat hi
 have e2 : fAt d.dat.Files (i - 1) = (gat encFileR d.Files.xs (i - 1)).dat := fAt_dat (by omega)
 unfold fileOkAt
 rw [e1, e2, Bool.eq_iff_iff]
 simp only [Bool.and_eq_true, Bool.or_eq_true, Bool.not_eq_true', Bool.or_eq_false_iff, Bool.and_eq_false_iff, decide_eq_true_eq, decide_eq_false_iff_not]
 simp only [FileR.dat, hb]
 omega
theorem disk_front {d : DiskR} (h1 : d.Files.xs.length = d.Files.n) (h2 : d.Kept.xs.length = d.Kept.n) (h3 : d.Turns.xs.length = d.Turns.n) :
  (diskBnd d.dat && diskLen d.dat) = !(decide (d.Room < 0) || decide (400000 < d.Room) || decide (d.Fuse < -1) || decide (1000 < d.Fuse) || decide (d.Next < 1) || decide (1000000 < d.Next) || decide (10 < (d.Files.n : Int)) || decide (10 < (d.Kept.n : Int)) || decide (30 < (d.Turns.n : Int)) || decide (d.Room < ((usedF d.dat.Files : Nat) : Int))) := by
 have e1 : d.dat.Files.length = d.Files.n := by rw [← h1]; exact List.length_map _
 have e2 : d.dat.Kept.length = d.Kept.n := h2
 have e3 : d.dat.Turns.length = d.Turns.n := h3
 have r1 : d.dat.Room = d.Room := rfl
 have r2 : d.dat.Fuse = d.Fuse := rfl
 have r3 : d.dat.Next = d.Next := rfl
 unfold diskBnd diskLen
 rw [e1, e2, e3, r1, r2, r3, Bool.eq_iff_iff]
 simp only [Bool.and_eq_true, Bool.not_eq_true', Bool.or_eq_false_iff, within_iff, decide_eq_true_eq, decide_eq_false_iff_not]
 omega
theorem kept_spec {l : List LinkD} {i : Nat} : keptOkAt l i = !(!nameOk (gat encLink l i).Name || decide (0 < (i : Int)) && decide (0 ≤ cmpS (gat encLink l (i - 1)).Name (gat encLink l i).Name)) := by
 unfold keptOkAt
 rw [Bool.eq_iff_iff]
 simp only [Bool.and_eq_true, Bool.or_eq_true, Bool.not_eq_true', Bool.or_eq_false_iff, Bool.and_eq_false_iff, Bool.not_eq_false', decide_eq_true_eq, decide_eq_false_iff_not]
 refine and_congr_right fun _ => ?_
 omega
theorem idsAt_spec {ids fs : List Int} {i : Nat} : idsOkAt ids fs i = !((ids.take i).contains (gat encI ids i) || !fs.contains (gat encI ids i)) := by
 unfold idsOkAt; rw [Bool.not_or, Bool.not_not]
theorem turns_at {l : List TurnD} {i : Nat} (h : i < l.length) : l = l.take i ++ gat encTurn l i :: l.drop (i + 1) := by
 have := gat_get (F := encTurn) h
 rw [List.getElem?_eq_getElem h] at this
 rw [← Option.some.inj this, ← List.drop_eq_getElem_cons h, List.take_append_drop]
theorem runS_take {dir : List LinkD} {l : List TurnD} {i : Nat} (h : i < l.length) (hr : runS dir (l.take i) = true) (hg : turnOk (turnsL dir (l.take i)) (gat encTurn l i) = true) : runS dir (l.take (i + 1)) = true := by
 rw [List.take_add_one, gat_get (F := encTurn) h, runS_app, hr]
 show (true && (turnOk _ _ && true)) = true
 rw [hg]; rfl
theorem runS_bad {dir : List LinkD} {l : List TurnD} {i : Nat} (h : i < l.length) (hg : turnOk (turnsL dir (l.take i)) (gat encTurn l i) = false) : runS dir l = false := by
 rw [turns_at h, runS_app]
 show (_ && (turnOk _ _ && _)) = false
 rw [hg, Bool.false_and, Bool.and_false]
theorem runI_take {dir : List LinkD} {l : List TurnD} {i : Nat} (h : i < l.length) (hr : runI dir (l.take i) = true) (hg : isTurn (gat encTurn l i) = true) (ha : appOk (turnsL dir (l.take i)) (gat encTurn l i) = true) : runI dir (l.take (i + 1)) = true := by
 rw [List.take_add_one, gat_get (F := encTurn) h, runI_app, hr]
 show (true && ((isTurn _ && appOk _ _) && true)) = true
 rw [hg, ha]; rfl
theorem runI_bad {dir : List LinkD} {l : List TurnD} {i : Nat} (h : i < l.length) (hg : (isTurn (gat encTurn l i) && appOk (turnsL dir (l.take i)) (gat encTurn l i)) = false) : runI dir l = false := by
 rw [turns_at h, runI_app]
 show (_ && ((isTurn _ && appOk _ _) && _)) = false
 rw [hg, Bool.false_and, Bool.and_false]
def lowN (l : List LinkD) (n : ByteArray) : Nat := l.findIdx fun x => decide (0 ≤ cmpS x.Name n)
theorem link_gat {l : List LinkD} {j : Nat} (hj : j < l.length) : gat encLink l j = l[j] := by
 have := gat_get (F := encLink) hj
 rw [List.getElem?_eq_getElem hj] at this
 exact (Option.some.inj this).symm
theorem low_at {l : List LinkD} {n : ByteArray} {i : Nat} (hi : i ≤ l.length) (h1 : ∀ k, k < i → cmpS (gat encLink l k).Name n < 0) (h2 : i < l.length → 0 ≤ cmpS (gat encLink l i).Name n) : lowN l n = i := by
 have hb : ∀ j, (hj : j < i) → decide (0 ≤ cmpS (l[j]'(by omega)).Name n) = false := fun j hj => by
  have := h1 j hj
  rw [link_gat (by omega)] at this
  exact decide_eq_false (by omega)
 unfold lowN
 rcases Nat.lt_or_ge i l.length with h | h
 ·have h3 := h2 h
  rw [link_gat h] at h3
  exact (List.findIdx_eq h).2 ⟨decide_eq_true h3, hb⟩
 ·obtain rfl : i = l.length := by omega
  exact List.findIdx_eq_length.2 fun x hx => by
   obtain ⟨j, hj, rfl⟩ := List.mem_iff_getElem.1 hx
   exact hb j hj
theorem sorted_lt {l : List LinkD} (hp : sortedL l) {i j : Nat} (hij : i < j) (hj : j < l.length) : cmpS (gat encLink l i).Name (gat encLink l j).Name < 0 := by
 rw [link_gat (by omega), link_gat hj]
 exact List.pairwise_iff_getElem.1 hp i j (by omega) hj hij
theorem bs_low {l : List LinkD} (hp : sortedL l) {n : ByteArray} {m k : Nat} (hm : m < l.length) (h : cmpS (gat encLink l m).Name n < 0) (hk : k ≤ m) : cmpS (gat encLink l k).Name n < 0 := by
 rcases Nat.lt_or_ge k m with h1 | h1
 ·exact cmpS_trans (sorted_lt hp h1 hm) h
 ·obtain rfl : k = m := by omega
  exact h
theorem bs_high {l : List LinkD} (hp : sortedL l) {n : ByteArray} {m k : Nat} {q : Nat} (hq : k < q) (h : 0 ≤ cmpS (gat encLink l m).Name n) (hk : m ≤ k) (hl : q = l.length := by assumption) : 0 ≤ cmpS (gat encLink l k).Name n := by
 rcases Nat.lt_or_ge m k with h1 | h1
 ·have h2 := sorted_lt hp h1 (by omega)
  rcases Int.lt_or_le (cmpS (gat encLink l k).Name n) 0 with h3 | h3
  ·have := cmpS_trans h2 h3
   omega
  ·exact h3
 ·obtain rfl : k = m := by omega
  exact h
theorem withL_low : ∀ {l : List LinkD} {n : ByteArray} {id : Int}, (∀ x, x ∈ l → x.Name ≠ n) → sortedL l → withL l n id = l.take (lowN l n) ++ [⟨n, id⟩] ++ l.drop (lowN l n)
 | [], _, _, _, _ => rfl
 | x :: r, n, id, hn, hp => by
  have h0 : cmpS x.Name n ≠ 0 := fun h => hn x List.mem_cons_self (cmpS_zero.1 h)
  unfold withL lowN
  rw [List.findIdx_cons]
  by_cases hc : 0 < cmpS x.Name n
  ·rw [if_pos hc, decide_eq_true (by omega : 0 ≤ cmpS x.Name n)]; rfl
  ·rw [if_neg hc, decide_eq_false (by omega : ¬ 0 ≤ cmpS x.Name n)]
   have ih := withL_low (l := r) (n := n) (id := id) (fun y hy => hn y (List.mem_cons_of_mem _ hy)) (List.pairwise_cons.1 hp).2
   rw [ih]; rfl
theorem lowN_le (l : List LinkD) (n : ByteArray) : lowN l n ≤ l.length := List.findIdx_le_length
theorem ins_end {s : List LinkD} {x : LinkD} {i : Nat} (h : i = s.length) : s ++ [x] = s.take i ++ [x] ++ s.drop i := by subst h; simp
theorem ins_grow {s : List LinkD} {x z : LinkD} {i k a b c d e : Nat} (hi : i < s.length) (hk : k = s.length + 1 - i) (ha : min a b = 1) (hc : min c d = s.length - i) (he : e = i + 1) :
  (((s.take i ++ List.replicate k z).take i ++ [x].take (min a b) ++ (s.take i ++ List.replicate k z).drop (i + min a b)).take e ++ (s.drop i).take (min c d) ++ (((s.take i ++ List.replicate k z).take i ++ [x].take (min a b) ++ (s.take i ++ List.replicate k z).drop (i + min a b)).drop (e + min c d))) = s.take i ++ [x] ++ s.drop i := by
 subst he
 have hl : (s.take i).length = i := by rw [List.length_take]; omega
 have h1 : (s.take i ++ List.replicate k z).take i = s.take i := List.take_left' hl
 have h2 : [x].take (min a b) = [x] := by rw [ha]; rfl
 rw [h1, h2, hc, ha]
 generalize hq : (s.take i ++ List.replicate k z).drop (i + 1) = q
 have hql : q.length = s.length - i := by rw [← hq, List.length_drop, List.length_append, hl, List.length_replicate]; omega
 have h3 : (s.take i ++ [x] ++ q).take (i + 1) = s.take i ++ [x] := List.take_left' (by rw [List.length_append, hl]; rfl)
 have h4 : (s.take i ++ [x] ++ q).drop (i + 1 + (s.length - i)) = [] := List.drop_of_length_le (by rw [List.length_append, List.length_append, hl, hql]; simp)
 have h5 : (s.drop i).take (s.length - i) = s.drop i := List.take_of_length_le (by rw [List.length_drop]; exact Nat.le_refl _)
 rw [h3, h4, h5, List.append_nil]
theorem ins_room {t s : List LinkD} {x : LinkD} {i a b c d e : Nat} (hi : i < s.length) (hts : t.take s.length = s) (htl : t.length = s.length + 1) (ha : min a b = s.length - i) (hc : min c d = 1) (he : e = i + 1) :
  ((t.take e ++ (t.drop i).take (min a b) ++ t.drop (e + min a b)).take i ++ [x].take (min c d) ++ (t.take e ++ (t.drop i).take (min a b) ++ t.drop (e + min a b)).drop (i + min c d)) = s.take i ++ [x] ++ s.drop i := by
 subst he
 have h2 : [x].take (min c d) = [x] := by rw [hc]; rfl
 rw [h2, ha, hc]
 have e1 : t.drop (i + 1 + (s.length - i)) = [] := List.drop_of_length_le (by omega)
 have e2 : (t.drop i).take (s.length - i) = s.drop i := by
  have : s.drop i = (t.take s.length).drop i := by rw [hts]
  rw [this, List.drop_take]
 rw [e1, e2, List.append_nil]
 have e3 : (t.take (i + 1) ++ s.drop i).take i = s.take i := by
  rw [List.take_append_of_le_length (by rw [List.length_take]; omega), List.take_take, Nat.min_eq_left (by omega), ← hts, List.take_take, Nat.min_eq_left (by omega)]
 have e4 : (t.take (i + 1) ++ s.drop i).drop (i + 1) = s.drop i := List.drop_left' (by rw [List.length_take]; omega)
 rw [e3, e4]
theorem k32_ (A_l : Option Addr) (n_l c_l : Nat) (l : List Int) (x : Int) (w : World) (f_l : SlF encI w A_l n_l l) (hn : n_l ≤ 549755813888) :
    Calls Tryz.prog 53 #[.slice A_l n_l c_l, i64 x] w fun e w' => e = .returned (.bool (l.contains x)) ∧ St w [] [] w' := by
 have hl := f_l.len
 refine enter 17 Tryz.func53 rfl Tryz.ntmps53 rfl rfl ?_
 have hs1 := St.init w
 refine WC.r1 hs1 [] rfl (WC.seq (fun K2 hK2 => WC.r1 hs1 [] rfl (WC.block ?_)))
 refine WC.lS [1, 7, 8] rfl hs1 (fun k_ f w' => ∃ (i : Nat), k_ = n_l - i ∧ (i ≤ n_l) ∧ (∀ j, j < i → iat l j ≠ x) ∧ Sub [(9, .int .i64 i)] f) ((fun (i : Nat) => n_l - i) (0)) ?_ ?_
 ·refine ⟨0, rfl, ?_, ?_, ⟨rfl, trivial⟩⟩
  · exact Nat.zero_le _
  · exact fun j hj => absurd hj (by omega)
 clear hs1
 rintro _ f w ⟨i, rfl, p0, p1, hG⟩ hF hs3
 refine WC.sub _ (hG.app hF) ?_
 clear hG hF
 refine WC.r1 hs3 [] rfl (WC.seq (fun K4 hK4 => ?_))
 refine WC.cD rfl (fun qh5 => ?_) (fun qh5 => ?_)
 ·refine WC.skip (hK4 _ _ (WC.seq (fun K6 hK6 => WC.block (WC.sr ?_))))
  refine WL.val rfl rfl rfl (Run.idxN Tryz.runUnderlying81 Tryz.sizeOf3 rfl rfl rfl ?_ ?_ ?_) ?_
  · exact SlF.some_ (SlF.st0 f_l hs3)
  · omega
  · omega
  refine WL.val rfl rfl rfl (Run.load Tryz.isAgg3 rfl rfl (SlF.one1 (SlF.st0 f_l hs3) ?_ rfl)) ?_
  · omega
  refine WL.r 1 hs3 [] rfl (WL.nil (WC.r1 hs3 [] rfl (WC.cD rfl (fun qh7 => ?_) (fun qh7 => ?_))))
  ·refine WC.r1 hs3 [] rfl (WC.ret (ibR (tkR (tkR (ibR (tkR ?_))))))
   clear hK6 hK2
   refine rtv rfl rfl hs3 ?_
   congr 1; symm; rw [List.contains_iff_mem]; rw [← qh7]; exact gat_mem (F := encI) (by omega)
  refine WC.skip (hK6 _ _ (WC.region (WL.r 2 hs3 [] rfl (WL.nil (tkN ?_)))))
  refine ⟨sbF rfl, hs3, _, ?_, i + 1, rfl, ?_, ?_, ⟨rfl, trivial⟩⟩
  · omega
  · omega
  · intro j hj; rcases Nat.lt_or_ge j i with h_ | h_
    · exact p1 j h_
    · obtain rfl : j = i := by omega
      exact qh7
 refine WC.exit (hK2 _ _ (WC.r1 hs3 [] rfl (WC.ret (rtv rfl rfl hs3 ?_))))
 congr 1; symm; rw [← Bool.not_eq_true, List.contains_iff_mem]; exact int_not (fun j hj => p1 j (by omega))
theorem k33_ (A_dir : Option Addr) (n_dir c_dir : Nat) (dir : List LinkD) (t_Kind : Int) (t_Name : ByteArray) (t_To : ByteArray) (t_Id : Int) (w : World) (f_dir : SlF encLink w A_dir n_dir dir) (hn : n_dir ≤ 268435456) :
    Calls Tryz.prog 55 #[.slice A_dir n_dir c_dir, .agg #[i64 t_Kind, .string t_Name, .string t_To, i64 t_Id]] w fun e w' => ∃ A c L1, e = .returned (.slice A (turnL dir (⟨t_Kind, t_Name, t_To, t_Id⟩ : TurnD)).length c) ∧ St w [] L1 w' ∧ OwnF encLink 82 (.slice A (turnL dir (⟨t_Kind, t_Name, t_To, t_Id⟩ : TurnD)).length c) (turnL dir (⟨t_Kind, t_Name, t_To, t_Id⟩ : TurnD)) L1 := by
 have hl := f_dir.len
 have hll1 := lessL_len (dir := dir) (n := t_Name)
 have hll2 := lessL_len (dir := lessL dir t_Name) (n := t_To)
 refine enter 35 Tryz.func55 rfl Tryz.ntmps55 rfl rfl ?_
 have hs1 := St.init w
 refine WC.sr (WL.bx hs1 rfl (fun b2 _ hs3 => WL.r 1 hs3 [] rfl (WL.nil (WC.seq (fun K4 hK4 => WC.r1 hs3 [0] rfl ?_)))))
 refine WC.cq rfl (fun h5 qh5 => ?_) (fun h5 qh5 => ?_)
 ·have k1 : t_Kind = 1 := by have h9 := h5; simpa using h9
  refine WC.sr (WL.r 5 hs3 [0, 0] rfl (WL.cl Tryz.call78 rfl (k31_ _ _ _ _ _ _ _ (SlF.st0 f_dir hs3) ?_) ?_))
  · first | assumption | rfl | omega
  rintro _ whs6 ⟨A7, c8, L1_9, rfl, hs6, ho10⟩
  replace hs6 := hs3.callF hs6
  refine ⟨_, rfl, ?_⟩
  replace hs6 := St.back [_] hs6
  refine WL.r 1 hs6 [] rfl (WL.nil (WC.ret (tkR ?_)))
  clear hK4
  refine retV1 rfl (resV.tmp rfl) ?_
  have hx_ := OwnF.eqOf (xs := turnL dir (⟨t_Kind, t_Name, t_To, t_Id⟩ : TurnD)) ho10 (by unfold turnL; rw [if_pos k1])
  rw [← hx_]
  first | exact ⟨_, _, _, rfl, (St.keep1 (hs6.fr L1_9)), ho10⟩ | exact ⟨A7, c8, _, by rw [OwnF.len_ ho10], (St.keep1 (hs6.fr L1_9)), by rw [OwnF.len_ ho10]; exact ho10⟩
 have k1 : ¬ t_Kind = 1 := by have h9 := h5; simpa using h9
 refine WC.skip (hK4 _ _ (WC.sr (WL.r 3 hs3 [0] rfl ?_)))
 refine WL.cl Tryz.call24 rfl (k29_ _ _ _ _ _ _ (SlF.st0 f_dir hs3) ?_) ?_
 · first | assumption | rfl | omega
 rintro _ whs11 ⟨rfl, hs11⟩
 replace hs11 := hs3.call0 hs11
 refine ⟨_, rfl, WL.r 1 hs11 [] rfl (WL.nil (WC.sr (WL.r 3 hs11 [0] rfl (WL.cl Tryz.call79 rfl (k30_ _ _ _ _ _ _ (SlF.st0 f_dir hs11) ?_) ?_))))⟩
 · first | assumption | rfl | omega
 rintro _ whs12 ⟨A13, c14, L1_15, rfl, hs12, ho16⟩
 replace hs12 := hs11.callF hs12
 refine ⟨_, rfl, ?_⟩
 replace hs12 := St.back [_] hs12
 refine WL.r 1 hs12 [] rfl (WL.nil (WC.seq (fun K17 hK17 => WC.r1 hs12 [0] rfl ?_)))
 refine WC.cq rfl (fun h18 qh18 => ?_) (fun h18 qh18 => ?_)
 ·have k4 : t_Kind = 4 := by have h9 := h18; simpa using h9
  refine WC.rH hs12 hs12 (fun _ hs19 => ?_)
  refine WH.rn [0, 1, 2, 4, 5, 6] hs19 [0, 0] rfl rfl (WH.o1 3 rfl (WL.cl Tryz.call79 rfl (k30_ _ _ _ _ _ _ (SlF.ofOwn ho16 (hs19.ow L1_15)) ?_) ?_))
  · first | assumption | rfl | omega
  rintro _ whs20 ⟨A21, c22, L1_23, rfl, hs20, ho24⟩
  replace hs20 := hs19.callF hs20
  refine ⟨_, rfl, ?_⟩
  replace hs20 := St.back [_] hs20
  refine WL.nil ⟨(hs20.rm L1_23), WH.o1 7 rfl (WL.cl Tryz.call78 rfl (k31_ _ _ _ _ _ _ _ (SlF.ofOwn ho24 (hs20.ow L1_23)) ?_) ?_)⟩
  · first | assumption | rfl | omega
  rintro _ whs25 ⟨A26, c27, L1_28, rfl, hs25, ho29⟩
  replace hs25 := hs20.callF hs25
  refine ⟨_, rfl, ?_⟩
  replace hs25 := St.back [_] hs25
  refine WL.nil ⟨((hs25.rm L1_28).rm L1_23), WH.rn [8] ((hs25.rm L1_28).rm L1_23) [] rfl rfl (WH.dn (hK17 _ _ (WC.r1 hs25 [] rfl (WC.ret (retV1 rfl (resV.tmp rfl) ?_)))))⟩
  have hx_ := OwnF.eqOf (xs := turnL dir (⟨t_Kind, t_Name, t_To, t_Id⟩ : TurnD)) ho29 (by unfold turnL; rw [if_neg k1, if_pos k4])
  rw [← hx_]
  first | exact ⟨_, _, _, rfl, (St.keep1 (hs25.fr L1_28)), ho29⟩ | exact ⟨A26, c27, _, by rw [OwnF.len_ ho29], (St.keep1 (hs25.fr L1_28)), by rw [OwnF.len_ ho29]; exact ho29⟩
 have k4 : ¬ t_Kind = 4 := by have h9 := h18; simpa using h9
 refine WC.skip (hK17 _ _ (WC.r1 hs12 [] rfl (WC.ret (retV1 rfl (resV.tmp rfl) ?_))))
 have hx_ := OwnF.eqOf (xs := turnL dir (⟨t_Kind, t_Name, t_To, t_Id⟩ : TurnD)) ho16 (by unfold turnL; rw [if_neg k1, if_neg k4])
 rw [← hx_]
 first | exact ⟨_, _, _, rfl, (St.keep1 (hs12.fr L1_15)), ho16⟩ | exact ⟨A13, c14, _, by rw [OwnF.len_ ho16], (St.keep1 (hs12.fr L1_15)), by rw [OwnF.len_ ho16]; exact ho16⟩
set_option maxHeartbeats 2000000 in
theorem k34_ (A_dir : Option Addr) (n_dir c_dir : Nat) (dir : List LinkD) (t_Kind : Int) (t_Name : ByteArray) (t_To : ByteArray) (t_Id : Int) (w : World) (f_dir : SlF encLink w A_dir n_dir dir) (hn : n_dir ≤ 268435456) (h1 : t_Name.size ≤ 1099511627776) (h2 : t_To.size ≤ 1099511627776) :
    Calls Tryz.prog 54 #[.slice A_dir n_dir c_dir, .agg #[i64 t_Kind, .string t_Name, .string t_To, i64 t_Id]] w fun e w' => e = .returned (.bool (turnOk dir (⟨t_Kind, t_Name, t_To, t_Id⟩ : TurnD))) ∧ St w [] [] w' := by
 refine enter 64 Tryz.func54 rfl Tryz.ntmps54 rfl rfl ?_
 have hs1 := St.init w
 refine WC.sr (WL.bx hs1 rfl (fun b2 _ hs3 => WL.r 1 hs3 [] rfl (WL.nil (WC.sr (WL.r 3 hs3 [0] rfl ?_)))))
 refine WL.cl Tryz.call24 rfl (k29_ _ _ _ _ _ _ (SlF.st0 f_dir hs3) ?_) ?_
 · first | assumption | rfl | omega
 rintro _ whs4 ⟨rfl, hs4⟩
 replace hs4 := hs3.call0 hs4
 refine ⟨_, rfl, WL.r 2 hs4 [] rfl (WL.nil (WC.seq (fun K5 hK5 => WC.sr (WL.r 2 hs4 [0] rfl ?_))))⟩
 refine WL.cl Tryz.call51 rfl (k10_ _ _ ?_) ?_
 · first | assumption | rfl | omega
 rintro _ whs6 ⟨rfl, hs6⟩
 replace hs6 := hs4.call0 hs6
 refine ⟨_, rfl, WL.r 1 hs6 [] rfl (WL.nil (WC.cq rfl (fun h7 qh7 => ?_) (fun h7 qh7 => ?_)))⟩
 ·refine WC.r1 hs6 [] rfl (WC.ret (tkR ?_))
  clear hK5
  refine rtv rfl rfl hs6 ?_
  unfold turnOk noName; simp_all
 refine WC.skip (hK5 _ _ (WC.seq (fun K8 hK8 => WC.r1 hs6 [0] rfl (WC.block (WC.r1 hs6 [] rfl ?_)))))
 refine WC.cq rfl (fun h9 qh9 => ?_) (fun h9 qh9 => ?_)
 ·refine WC.sr (WL.r 4 hs6 [0] rfl (WL.pA tbk 3 Acts.nil hs6 [0] rfl rfl rfl rfl (fun g_ => ⟨rfl, trivial⟩) (WL.r 1 hs6 [] rfl (WL.pA tbk 2 Acts.nil hs6 [] rfl rfl rfl rfl (fun g_ => trivial) (WL.r 1 hs6 [] rfl (WL.nil (WC.ret ?_)))))))
  refine ibR (tkR ?_)
  clear hK8
  refine rtv rfl rfl hs6 ?_
  unfold turnOk noName; simp_all
 refine WC.r1 hs6 [] rfl (WC.cq rfl (fun h10 qh10 => ?_) (fun h10 qh10 => ?_))
 ·refine WC.sr (WL.r 2 hs6 [0] rfl (WL.cl Tryz.call51 rfl (k10_ _ _ ?_) ?_))
  · first | assumption | rfl | omega
  rintro _ whs11 ⟨rfl, hs11⟩
  replace hs11 := hs6.call0 hs11
  refine ⟨_, rfl, WL.r 1 hs11 [] rfl (WL.pA tbk 5 Acts.nil hs11 [0, 0] rfl rfl rfl rfl (fun g_ => ⟨rfl, rfl, trivial⟩) (WL.r 1 hs11 [] rfl (WL.pA tbk 3 Acts.nil hs11 [0] rfl rfl rfl rfl (fun g_ => ⟨rfl, trivial⟩) (WL.r 1 hs11 [] rfl (WL.pA tbk 1 Acts.nil hs11 [] rfl rfl rfl rfl (fun g_ => trivial) (WL.r 1 hs11 [] rfl ?_))))))⟩
  refine WL.nil (WC.ret (ibR (tkR ?_)))
  clear hK8
  refine rtv rfl rfl hs11 ?_
  unfold turnOk noName; simp_all
 refine WC.r1 hs6 [] rfl (WC.cq rfl (fun h12 qh12 => ?_) (fun h12 qh12 => ?_))
 ·refine WC.sr (WL.r 4 hs6 [0] rfl (WL.pA tbk 3 Acts.nil hs6 [0] rfl rfl rfl rfl (fun g_ => ⟨rfl, trivial⟩) (WL.r 1 hs6 [] rfl (WL.pA tbk 1 Acts.nil hs6 [] rfl rfl rfl rfl (fun g_ => trivial) (WL.r 1 hs6 [] rfl (WL.nil (WC.ret ?_)))))))
  refine ibR (tkR ?_)
  clear hK8
  refine rtv rfl rfl hs6 ?_
  unfold turnOk noName; simp_all
 refine WC.skip (hK8 _ _ (WC.r1 hs6 [] rfl (WC.ret (rtv rfl rfl hs6 ?_))))
 unfold turnOk noName; simp_all
set_option maxHeartbeats 2000000 in
theorem k35_ (t_Kind : Int) (t_Name : ByteArray) (t_To : ByteArray) (t_Id : Int) (w : World) (h1 : t_Name.size ≤ 1099511627776) (h2 : t_To.size ≤ 1099511627776) :
    Calls Tryz.prog 80 #[.agg #[i64 t_Kind, .string t_Name, .string t_To, i64 t_Id]] w fun e w' => e = .returned (.bool (isTurn (⟨t_Kind, t_Name, t_To, t_Id⟩ : TurnD))) ∧ St w [] [] w' := by
 refine enter 45 Tryz.func80 rfl Tryz.ntmps80 rfl rfl ?_
 have hs1 := St.init w
 refine WC.sr (WL.bx hs1 rfl (fun b2 _ hs3 => WL.r 1 hs3 [] rfl (WL.nil (WC.seq (fun K4 hK4 => WC.r1 hs3 [0] rfl (WC.block (WC.r1 hs3 [] rfl ?_)))))))
 refine WC.cq rfl (fun h5 qh5 => ?_) (fun h5 qh5 => ?_)
 ·refine WC.sr (WL.r 2 hs3 [0] rfl (WL.cl Tryz.call63 rfl (k9_ _ _ ?_) ?_))
  · first | assumption | rfl | omega
  rintro _ whs6 ⟨rfl, hs6⟩
  replace hs6 := hs3.call0 hs6
  refine ⟨_, rfl, WL.r 1 hs6 [] rfl (WL.pA tbk 3 Acts.nil hs6 [0] rfl rfl rfl rfl (fun g_ => ⟨rfl, trivial⟩) (WL.r 1 hs6 [] rfl (WL.nil (WC.ret (ibR (tkR ?_))))))⟩
  clear hK4
  refine rtv rfl rfl hs6 ?_
  unfold isTurn noName; simp_all
 refine WC.r1 hs3 [] rfl (WC.cq rfl (fun h7 qh7 => ?_) (fun h7 qh7 => ?_))
 ·refine WC.sr (WL.r 2 hs3 [0] rfl (WL.cl Tryz.call63 rfl (k9_ _ _ ?_) ?_))
  · first | assumption | rfl | omega
  rintro _ whs8 ⟨rfl, hs8⟩
  replace hs8 := hs3.call0 hs8
  refine ⟨_, rfl, WL.r 1 hs8 [] rfl ?_⟩
  apply WL.gA 3 Acts.nil hs8 rfl
  ·intro g9 J10
   have qg9 := g9
   try simp only [bf, within_iff, within_not] at qg9
   refine WL.runA tbk 2 (Acts.nil.cons (j := 3) rfl g9) hs8 [0] rfl ⟨rfl, trivial⟩ (WL.call (wantT rfl g9) rfl rfl (Run.call Tryz.call63 rfl rfl rfl) (k9_ _ _ ?_) ?_)
   · first | assumption | rfl | omega
   rintro _ whs11 ⟨rfl, hs11⟩
   replace hs11 := hs8.call0 hs11
   refine ⟨_, rfl, WL.eA 3 Acts.nil J10 hs11 g9 rfl rfl⟩
  intro _ hs12
  refine WL.r 1 hs12 [] rfl (WL.pA tbk 3 Acts.nil hs12 [0] rfl rfl rfl rfl (fun g_ => ⟨rfl, trivial⟩) (WL.r 1 hs12 [] rfl (WL.nil (WC.ret (ibR (tkR ?_))))))
  clear hK4
  refine rtv rfl rfl hs12 ?_
  unfold isTurn noName; simp_all
 refine WC.r1 hs3 [] rfl (WC.cq rfl (fun h13 qh13 => ?_) (fun h13 qh13 => ?_))
 ·refine WC.sr (WL.r 2 hs3 [0] rfl (WL.cl Tryz.call63 rfl (k9_ _ _ ?_) ?_))
  · first | assumption | rfl | omega
  rintro _ whs14 ⟨rfl, hs14⟩
  replace hs14 := hs3.call0 hs14
  refine ⟨_, rfl, WL.r 1 hs14 [] rfl (WL.pA tbk 3 Acts.nil hs14 [0] rfl rfl rfl rfl (fun g_ => ⟨rfl, trivial⟩) (WL.r 1 hs14 [] rfl (WL.pA tbk 3 Acts.nil hs14 [0] rfl rfl rfl rfl (fun g_ => ⟨rfl, trivial⟩) (WL.r 1 hs14 [] rfl (WL.nil (WC.ret ?_))))))⟩
  refine ibR (tkR ?_)
  clear hK4
  refine rtv rfl rfl hs14 ?_
  unfold isTurn noName; simp_all
 refine WC.skip (hK4 _ _ (WC.r1 hs3 [] rfl (WC.ret (rtv rfl rfl hs3 ?_))))
 unfold isTurn noName; simp_all
set_option maxHeartbeats 4000000 in
theorem k36_ (a : DiskR) (left : Int) (w : World) (f_a : okDiskR 9223372036854775807 w a) (h1 : 0 ≤ left) (h2 : left ≤ 1048576) :
    Calls Tryz.prog 4 #[.agg #[i64 a.Room, i64 a.Fuse, i64 a.Next, .slice a.Files.A a.Files.n a.Files.c, .slice a.Kept.A a.Kept.n a.Kept.c, .slice a.Turns.A a.Turns.n a.Turns.c], i64 left] w fun e w' => e = .returned (.int .i64 (szR left (totDisk a.dat))) ∧ St w [] [] w' := by
 have nb_a_Files := f_a.Files_n
 have nl_a_Files := f_a.Files.sl.len
 have nb_a_Kept := f_a.Kept_n
 have nl_a_Kept := f_a.Kept.len
 have nb_a_Turns := f_a.Turns_n
 have nl_a_Turns := f_a.Turns.len
 refine enter 24 Tryz.func4 rfl Tryz.ntmps4 rfl rfl ?_
 have hs1 := St.init w
 refine WC.sr (WL.bx hs1 rfl (fun b2 _ hs3 => WL.r 1 hs3 [] rfl (WL.nil (WC.sr (WL.r 3 hs3 [0] rfl ?_)))))
 refine WL.cl Tryz.call15 rfl (k20_ _ _ _ _ _ _ (SlN.st0 okFileR.st0 f_a.Files hs3) ?_ ?_ ?_) ?_
 · first | assumption | omega
 · first | assumption | omega | exact szR_b (by assumption) (by omega) (by first | assumption | omega)
 · first | assumption | omega
 rintro _ whs4 ⟨rfl, hs4⟩
 replace hs4 := hs3.call0 hs4
 refine ⟨_, rfl, WL.r 1 hs4 [] rfl (WL.nil (WC.seq (fun K5 hK5 => WC.r1 hs4 [] rfl ?_)))⟩
 refine WC.cD rfl (fun qh6 => ?_) (fun qh6 => ?_)
 ·try have soh6 := szR_ok qh6 (by omega)
  try have sbh6 := szR_b qh6 (by omega) (by first | assumption | omega)
  try have snh6 := szR_no qh6
  refine WC.r1 hs4 [] rfl (WC.ret (tkR ?_))
  clear hK5
  refine rtv rfl rfl hs4 ?_
  simp only [totDisk, DiskR.dat] at *; first | (rw [szR_lt (by omega)]; done) | (refine congrArg (Value.int _) ?_; symm; refine (szR_le ?_).trans ?_ <;> omega) | rfl
 try have soh6 := szR_ok qh6 (by omega)
 try have sbh6 := szR_b qh6 (by omega) (by first | assumption | omega)
 try have snh6 := szR_no qh6
 refine WC.skip (hK5 _ _ (WC.sr (WL.r 3 hs4 [0] rfl ?_)))
 refine WL.cl Tryz.call16 rfl (k21_ _ _ _ _ _ _ (SlF.st0 f_a.Kept hs4) ?_ ?_ ?_ ?_) ?_
 · first | assumption | omega
 · first | assumption | omega | exact szR_b (by assumption) (by omega) (by first | assumption | omega)
 · first | assumption | omega
 · first | assumption | exact f_a.Kept_s | exact f_a.Turns_s
 rintro _ whs7 ⟨rfl, hs7⟩
 replace hs7 := hs4.call0 hs7
 refine ⟨_, rfl, WL.r 1 hs7 [] rfl (WL.nil (WC.seq (fun K8 hK8 => WC.r1 hs7 [] rfl ?_)))⟩
 refine WC.cD rfl (fun qh9 => ?_) (fun qh9 => ?_)
 ·try have soh9 := szR_ok qh9 (by omega)
  try have sbh9 := szR_b qh9 (by omega) (by first | assumption | omega)
  try have snh9 := szR_no qh9
  refine WC.r1 hs7 [] rfl (WC.ret (tkR ?_))
  clear hK8
  refine rtv rfl rfl hs7 ?_
  simp only [totDisk, DiskR.dat] at *; first | (rw [szR_lt (by omega)]; done) | (refine congrArg (Value.int _) ?_; symm; refine (szR_le ?_).trans ?_ <;> omega) | rfl
 try have soh9 := szR_ok qh9 (by omega)
 try have sbh9 := szR_b qh9 (by omega) (by first | assumption | omega)
 try have snh9 := szR_no qh9
 refine WC.skip (hK8 _ _ (WC.sr (WL.r 3 hs7 [0] rfl ?_)))
 refine WL.cl Tryz.call17 rfl (k22_ _ _ _ _ _ _ (SlF.st0 f_a.Turns hs7) ?_ ?_ ?_ ?_) ?_
 · first | assumption | omega
 · first | assumption | omega | exact szR_b (by assumption) (by omega) (by first | assumption | omega)
 · first | assumption | omega
 · first | assumption | exact f_a.Kept_s | exact f_a.Turns_s
 rintro _ whs10 ⟨rfl, hs10⟩
 replace hs10 := hs7.call0 hs10
 refine ⟨_, rfl, WL.r 1 hs10 [] rfl (WL.nil (WC.seq (fun K11 hK11 => WC.r1 hs10 [] rfl ?_)))⟩
 refine WC.cD rfl (fun qh12 => ?_) (fun qh12 => ?_)
 ·try have soh12 := szR_ok qh12 (by omega)
  try have sbh12 := szR_b qh12 (by omega) (by first | assumption | omega)
  try have snh12 := szR_no qh12
  refine WC.r1 hs10 [] rfl (WC.ret (tkR ?_))
  clear hK11
  refine rtv rfl rfl hs10 ?_
  simp only [totDisk, DiskR.dat] at *; first | (rw [szR_lt (by omega)]; done) | (refine congrArg (Value.int _) ?_; symm; refine (szR_le ?_).trans ?_ <;> omega) | rfl
 try have soh12 := szR_ok qh12 (by omega)
 try have sbh12 := szR_b qh12 (by omega) (by first | assumption | omega)
 try have snh12 := szR_no qh12
 refine WC.skip (hK11 _ _ (WC.r1 hs10 [] rfl (WC.ret (rtv rfl rfl hs10 ?_))))
 simp only [totDisk, DiskR.dat] at *; first | (rw [szR_lt (by omega)]; done) | (refine congrArg (Value.int _) ?_; symm; refine (szR_le ?_).trans ?_ <;> omega) | rfl
set_option maxHeartbeats 4000000 in
theorem k37_ (a : DiskR) (w : World) (f_a : okDiskR 549755813888 w a) :
    Calls Tryz.prog 7 #[.agg #[i64 a.Room, i64 a.Fuse, i64 a.Next, .slice a.Files.A a.Files.n a.Files.c, .slice a.Kept.A a.Kept.n a.Kept.c, .slice a.Turns.A a.Turns.n a.Turns.c]] w fun e w' => ∃ r L1, e = .returned (.agg #[i64 r.Room, i64 r.Fuse, i64 r.Next, .slice r.Files.A r.Files.n r.Files.c, .slice r.Kept.A r.Kept.n r.Kept.c, .slice r.Turns.A r.Turns.n r.Turns.c]) ∧ St w [] L1 w' ∧ ownDiskR r L1 ∧ r.dat = a.dat := by
 have nb_a_Files := f_a.Files_n
 have nl_a_Files := f_a.Files.sl.len
 have nb_a_Kept := f_a.Kept_n
 have nl_a_Kept := f_a.Kept.len
 have nb_a_Turns := f_a.Turns_n
 have nl_a_Turns := f_a.Turns.len
 refine enter 26 Tryz.func7 rfl Tryz.ntmps7 rfl rfl ?_
 have hs1 := St.init w
 refine WC.sr (WL.bx hs1 rfl (fun b2 _ hs3 => WL.al hs3 Tryz.zeroValue36 rfl rfl (fun b4 _ hs5 => WL.nil (WC.sr (WL.al hs5 Tryz.zeroValue36 rfl rfl (fun b6 _ hs7 => WL.nil (WC.sr ?_)))))))
 refine WL.r 3 hs7 [2] rfl (WL.st tbk hs7 0 rfl rfl (fun _ hs8 => WL.nil (WC.sr (WL.r 3 hs8 [2] rfl (WL.st tbk hs8 0 rfl rfl (fun _ hs9 => WL.nil (WC.sr ?_)))))))
 refine WL.r 3 hs9 [2] rfl (WL.st tbk hs9 0 rfl rfl (fun _ hs10 => WL.nil (WC.sr (WL.r 2 hs10 [2] rfl ?_))))
 refine WL.cl Tryz.call28 rfl (k23_ _ _ _ _ _ (SlN.st0 okFileR.st0 f_a.Files hs10) ?_) ?_
 · first | assumption | rfl | omega
 rintro _ whs11 ⟨A12, c13, xs14, L1_15, rfl, hs11, ho16, hd17⟩
 replace hs11 := hs10.callF hs11
 refine ⟨_, rfl, ?_⟩
 replace hs11 := St.back [_, _, _] hs11
 refine WL.r 1 hs11 [] rfl (WL.st tbk hs11 0 rfl rfl (fun _ hs18 => WL.nil (WC.sr (WL.r 2 hs18 [2] rfl ?_))))
 refine WL.cl Tryz.call29 rfl (k24_ _ _ _ _ _ (SlF.st0 f_a.Kept hs18) ?_) ?_
 · first | assumption | rfl | omega
 rintro _ whs19 ⟨A20, c21, L1_22, rfl, hs19, ho23⟩
 replace hs19 := hs18.callF hs19
 refine ⟨_, rfl, ?_⟩
 replace hs19 := St.back [_, _, _] hs19
 refine WL.r 1 hs19 [] rfl (WL.st tbk hs19 0 rfl rfl (fun _ hs24 => WL.nil (WC.sr (WL.r 2 hs24 [2] rfl ?_))))
 refine WL.cl Tryz.call30 rfl (k25_ _ _ _ _ _ (SlF.st0 f_a.Turns hs24) ?_) ?_
 · first | assumption | rfl | omega
 rintro _ whs25 ⟨A26, c27, L1_28, rfl, hs25, ho29⟩
 replace hs25 := hs24.callF hs25
 refine ⟨_, rfl, ?_⟩
 replace hs25 := St.back [_, _, _] hs25
 refine WL.r 1 hs25 [] rfl (WL.st tbk hs25 0 rfl rfl (fun _ hs30 => WL.nil (WC.sr (WL.r 1 hs30 [0] rfl (WL.st tbk hs30 1 rfl rfl (fun _ hs31 => WL.nil (WC.ret ?_)))))))
 refine retV1 rfl (resV.cellA tbk hs31 1 rfl rfl rfl rfl) ?_
 obtain ⟨L33, hs32, ho34⟩ := ownDiskR.fl hs31 ho16 ho23 ho29
 have hs35 := (((hs32.fb b2).fb b4).fb b6)
 refine ⟨⟨a.Room, a.Fuse, a.Next, SlD.ofN ho16, SlD.of ho23, SlD.of ho29⟩, _, rfl, (St.keep1 (hs35.fr L33)), ?_, ?_⟩
 · exact (by exact ho34)
 · exact DiskD.ext' rfl rfl rfl hd17 rfl rfl
set_option maxHeartbeats 4000000 in
theorem k38_ (a : DiskR) (b : DiskR) (w : World) (f_a : okDiskR 549755813888 w a) (f_b : okDiskR 549755813888 w b) (hab : a.dat = b.dat) :
    Calls Tryz.prog 10 #[.agg #[i64 a.Room, i64 a.Fuse, i64 a.Next, .slice a.Files.A a.Files.n a.Files.c, .slice a.Kept.A a.Kept.n a.Kept.c, .slice a.Turns.A a.Turns.n a.Turns.c], .agg #[i64 b.Room, i64 b.Fuse, i64 b.Next, .slice b.Files.A b.Files.n b.Files.c, .slice b.Kept.A b.Kept.n b.Kept.c, .slice b.Turns.A b.Turns.n b.Turns.c]] w fun e w' => e = .returned (.bool true) ∧ St w [] [] w' := by
 have nb_a_Files := f_a.Files_n
 have nl_a_Files := f_a.Files.sl.len
 have nb_a_Kept := f_a.Kept_n
 have nl_a_Kept := f_a.Kept.len
 have nb_a_Turns := f_a.Turns_n
 have nl_a_Turns := f_a.Turns.len
 have nb_b_Files := f_b.Files_n
 have nl_b_Files := f_b.Files.sl.len
 have nb_b_Kept := f_b.Kept_n
 have nl_b_Kept := f_b.Kept.len
 have nb_b_Turns := f_b.Turns_n
 have nl_b_Turns := f_b.Turns.len
 have e_Room : a.Room = b.Room := congrArg (fun d : DiskD => d.Room) hab
 have e_Fuse : a.Fuse = b.Fuse := congrArg (fun d : DiskD => d.Fuse) hab
 have e_Next : a.Next = b.Next := congrArg (fun d : DiskD => d.Next) hab
 have e_Files : a.Files.xs.map FileR.dat = b.Files.xs.map FileR.dat := congrArg (fun d : DiskD => d.Files) hab
 have e_Kept : a.Kept.xs = b.Kept.xs := congrArg (fun d : DiskD => d.Kept) hab
 have e_Turns : a.Turns.xs = b.Turns.xs := congrArg (fun d : DiskD => d.Turns) hab
 refine enter 38 Tryz.func10 rfl Tryz.ntmps10 rfl rfl ?_
 have hs1 := St.init w
 refine WC.sr (WL.bx hs1 rfl (fun b2 _ hs3 => WL.bx hs3 rfl (fun b4 _ hs5 => WL.r 1 hs5 [] rfl (WL.nil (WC.seq (fun K6 hK6 => WC.r1 hs5 [1, 0] rfl (WC.condF rfl (by simp [e_Room, e_Fuse, e_Next]) ?_)))))))
 refine WC.skip (hK6 _ _ (WC.seq (fun K8 hK8 => WC.r1 hs5 [1, 0] rfl (WC.condF rfl (by simp [e_Room, e_Fuse, e_Next]) (WC.skip (hK8 _ _ (WC.seq (fun K10 hK10 => ?_))))))))
 refine WC.r1 hs5 [1, 0] rfl (WC.condF rfl (by simp [e_Room, e_Fuse, e_Next]) (WC.skip (hK10 _ _ (WC.seq (fun K12 hK12 => WC.sr (WL.r 4 hs5 [1, 0] rfl ?_))))))
 refine WL.cl Tryz.call37 rfl (k26_ _ _ _ _ _ _ _ _ _ (SlN.st0 okFileR.st0 f_a.Files hs5) (SlN.st0 okFileR.st0 f_b.Files hs5) ?_ ?_) ?_
 iterate 2 first | assumption | rfl | omega
 rintro _ whs13 ⟨rfl, hs13⟩
 replace hs13 := hs5.call0 hs13
 refine ⟨_, rfl, WL.r 1 hs13 [] rfl (WL.nil (WC.condF rfl (by simp [e_Room, e_Fuse, e_Next]) (WC.skip (hK12 _ _ (WC.seq (fun K15 hK15 => WC.sr ?_))))))⟩
 refine WL.r 4 hs13 [1, 0] rfl (WL.cl Tryz.call38 rfl (k27_ _ _ _ _ _ _ _ _ _ (SlF.st0 f_a.Kept hs13) (SlF.st0 f_b.Kept hs13) ?_ ?_) ?_)
 iterate 2 first | assumption | rfl | omega
 rintro _ whs16 ⟨rfl, hs16⟩
 replace hs16 := hs13.call0 hs16
 refine ⟨_, rfl, WL.r 1 hs16 [] rfl (WL.nil (WC.condF rfl (by simp [e_Room, e_Fuse, e_Next]) (WC.skip (hK15 _ _ (WC.seq (fun K18 hK18 => WC.sr ?_))))))⟩
 refine WL.r 4 hs16 [1, 0] rfl (WL.cl Tryz.call39 rfl (k28_ _ _ _ _ _ _ _ _ _ (SlF.st0 f_a.Turns hs16) (SlF.st0 f_b.Turns hs16) ?_ ?_) ?_)
 iterate 2 first | assumption | rfl | omega
 rintro _ whs19 ⟨rfl, hs19⟩
 replace hs19 := hs16.call0 hs19
 refine ⟨_, rfl, WL.r 1 hs19 [] rfl (WL.nil (WC.condF rfl (by simp [e_Room, e_Fuse, e_Next]) (WC.skip (hK18 _ _ (WC.r1 hs19 [] rfl (WC.ret ?_))))))⟩
 refine rtv rfl rfl hs19 ?_
 rfl
set_option maxHeartbeats 4000000 in
theorem k39_ (a : DiskOpR) (left : Int) (w : World) (f_a : okDiskOpR 9223372036854775807 w a) (h1 : 0 ≤ left) (h2 : left ≤ 1048576) :
    Calls Tryz.prog 5 #[.agg #[i64 a.Kind, .string a.Name, .string a.To, .slice a.Data.A a.Data.n a.Data.c], i64 left] w fun e w' => e = .returned (.int .i64 (szR left (totDiskOp a.dat))) ∧ St w [] [] w' := by
 have nz_a_Name := f_a.Name_z
 have nz_a_To := f_a.To_z
 have nb_a_Data := f_a.Data_n
 have nl_a_Data := f_a.Data.len
 refine enter 26 Tryz.func5 rfl Tryz.ntmps5 rfl rfl ?_
 have hs1 := St.init w
 refine WC.sr (WL.bx hs1 rfl (fun b2 _ hs3 => WL.r 1 hs3 [] rfl (WL.nil (WC.r1 hs3 [0] rfl (WC.seq (fun K4 hK4 => WC.r1 hs3 [] rfl ?_))))))
 refine WC.cD rfl (fun qh5 => ?_) (fun qh5 => ?_)
 ·try have soh5 := szR_ok qh5 (by omega)
  try have sbh5 := szR_b qh5 (by omega) (by first | assumption | omega)
  try have snh5 := szR_no qh5
  refine WC.r1 hs3 [] rfl (WC.ret (tkR ?_))
  clear hK4
  refine rtv rfl rfl hs3 ?_
  simp only [totDiskOp, DiskOpR.dat] at *; first | (rw [szR_lt (by omega)]; done) | (refine congrArg (Value.int _) ?_; symm; refine (szR_le ?_).trans ?_ <;> omega) | rfl
 try have soh5 := szR_ok qh5 (by omega)
 try have sbh5 := szR_b qh5 (by omega) (by first | assumption | omega)
 try have snh5 := szR_no qh5
 refine WC.skip (hK4 _ _ (WC.r1 hs3 [0] rfl (WC.seq (fun K6 hK6 => WC.r1 hs3 [] rfl ?_))))
 refine WC.cD rfl (fun qh7 => ?_) (fun qh7 => ?_)
 ·try have soh7 := szR_ok qh7 (by omega)
  try have sbh7 := szR_b qh7 (by omega) (by first | assumption | omega)
  try have snh7 := szR_no qh7
  refine WC.r1 hs3 [] rfl (WC.ret (tkR ?_))
  clear hK6
  refine rtv rfl rfl hs3 ?_
  simp only [totDiskOp, DiskOpR.dat] at *; first | (rw [szR_lt (by omega)]; done) | (refine congrArg (Value.int _) ?_; symm; refine (szR_le ?_).trans ?_ <;> omega) | rfl
 try have soh7 := szR_ok qh7 (by omega)
 try have sbh7 := szR_b qh7 (by omega) (by first | assumption | omega)
 try have snh7 := szR_no qh7
 refine WC.skip (hK6 _ _ (WC.sr (WL.r 3 hs3 [0] rfl ?_)))
 refine WL.cl Tryz.call18 rfl (k1_ _ _ _ _ _ _ (SlF.st0 f_a.Data hs3) ?_ ?_ ?_) ?_
 · first | assumption | omega
 · first | assumption | omega | exact szR_b (by assumption) (by omega) (by first | assumption | omega)
 · first | assumption | omega
 rintro _ whs8 ⟨rfl, hs8⟩
 replace hs8 := hs3.call0 hs8
 refine ⟨_, rfl, WL.r 1 hs8 [] rfl (WL.nil (WC.seq (fun K9 hK9 => WC.r1 hs8 [] rfl ?_)))⟩
 refine WC.cD rfl (fun qh10 => ?_) (fun qh10 => ?_)
 ·try have soh10 := szR_ok qh10 (by omega)
  try have sbh10 := szR_b qh10 (by omega) (by first | assumption | omega)
  try have snh10 := szR_no qh10
  refine WC.r1 hs8 [] rfl (WC.ret (tkR ?_))
  clear hK9
  refine rtv rfl rfl hs8 ?_
  simp only [totDiskOp, DiskOpR.dat] at *; first | (rw [szR_lt (by omega)]; done) | (refine congrArg (Value.int _) ?_; symm; refine (szR_le ?_).trans ?_ <;> omega) | rfl
 try have soh10 := szR_ok qh10 (by omega)
 try have sbh10 := szR_b qh10 (by omega) (by first | assumption | omega)
 try have snh10 := szR_no qh10
 refine WC.skip (hK9 _ _ (WC.r1 hs8 [] rfl (WC.ret (rtv rfl rfl hs8 ?_))))
 simp only [totDiskOp, DiskOpR.dat] at *; first | (rw [szR_lt (by omega)]; done) | (refine congrArg (Value.int _) ?_; symm; refine (szR_le ?_).trans ?_ <;> omega) | rfl
set_option maxHeartbeats 4000000 in
theorem k40_ (a : DiskOpR) (w : World) (f_a : okDiskOpR 549755813888 w a) :
    Calls Tryz.prog 8 #[.agg #[i64 a.Kind, .string a.Name, .string a.To, .slice a.Data.A a.Data.n a.Data.c]] w fun e w' => ∃ r L1, e = .returned (.agg #[i64 r.Kind, .string r.Name, .string r.To, .slice r.Data.A r.Data.n r.Data.c]) ∧ St w [] L1 w' ∧ ownDiskOpR r L1 ∧ r.dat = a.dat := by
 have nz_a_Name := f_a.Name_z
 have nz_a_To := f_a.To_z
 have nb_a_Data := f_a.Data_n
 have nl_a_Data := f_a.Data.len
 refine enter 18 Tryz.func8 rfl Tryz.ntmps8 rfl rfl ?_
 have hs1 := St.init w
 refine WC.sr (WL.bx hs1 rfl (fun b2 _ hs3 => WL.al hs3 Tryz.zeroValue40 rfl rfl (fun b4 _ hs5 => WL.nil (WC.sr (WL.al hs5 Tryz.zeroValue40 rfl rfl (fun b6 _ hs7 => WL.nil (WC.sr ?_)))))))
 refine WL.r 3 hs7 [2] rfl (WL.st tbk hs7 0 rfl rfl (fun _ hs8 => WL.nil (WC.sr (WL.r 3 hs8 [2] rfl (WL.st tbk hs8 0 rfl rfl (fun _ hs9 => WL.nil (WC.sr ?_)))))))
 refine WL.r 3 hs9 [2] rfl (WL.st tbk hs9 0 rfl rfl (fun _ hs10 => WL.nil (WC.sr (WL.r 2 hs10 [2] rfl ?_))))
 refine WL.cl Tryz.call31 rfl (k2_ _ _ _ _ _ (SlF.st0 f_a.Data hs10) ?_) ?_
 · first | assumption | rfl | omega
 rintro _ whs11 ⟨A12, c13, L1_14, rfl, hs11, ho15⟩
 replace hs11 := hs10.callF hs11
 refine ⟨_, rfl, ?_⟩
 replace hs11 := St.back [_, _, _] hs11
 refine WL.r 1 hs11 [] rfl (WL.st tbk hs11 0 rfl rfl (fun _ hs16 => WL.nil (WC.sr (WL.r 1 hs16 [0] rfl (WL.st tbk hs16 1 rfl rfl (fun _ hs17 => WL.nil (WC.ret ?_)))))))
 refine retV1 rfl (resV.cellA tbk hs17 1 rfl rfl rfl rfl) (⟨⟨a.Kind, a.Name, a.To, SlD.of ho15⟩, _, rfl, (St.keep1 (hs17.fr L1_14)), ?_, ?_⟩)
 · exact ho15
 · exact DiskOpD.ext' rfl rfl rfl rfl
set_option maxHeartbeats 4000000 in
theorem k41_ (a : DiskOpR) (b : DiskOpR) (w : World) (f_a : okDiskOpR 549755813888 w a) (f_b : okDiskOpR 549755813888 w b) (hab : a.dat = b.dat) :
    Calls Tryz.prog 11 #[.agg #[i64 a.Kind, .string a.Name, .string a.To, .slice a.Data.A a.Data.n a.Data.c], .agg #[i64 b.Kind, .string b.Name, .string b.To, .slice b.Data.A b.Data.n b.Data.c]] w fun e w' => e = .returned (.bool true) ∧ St w [] [] w' := by
 have nz_a_Name := f_a.Name_z
 have nz_a_To := f_a.To_z
 have nb_a_Data := f_a.Data_n
 have nl_a_Data := f_a.Data.len
 have nz_b_Name := f_b.Name_z
 have nz_b_To := f_b.To_z
 have nb_b_Data := f_b.Data_n
 have nl_b_Data := f_b.Data.len
 have e_Kind : a.Kind = b.Kind := congrArg (fun d : DiskOpD => d.Kind) hab
 have e_Name : a.Name = b.Name := congrArg (fun d : DiskOpD => d.Name) hab
 have e_To : a.To = b.To := congrArg (fun d : DiskOpD => d.To) hab
 have e_Data : a.Data.xs = b.Data.xs := congrArg (fun d : DiskOpD => d.Data) hab
 refine enter 26 Tryz.func11 rfl Tryz.ntmps11 rfl rfl ?_
 have hs1 := St.init w
 refine WC.sr (WL.bx hs1 rfl (fun b2 _ hs3 => WL.bx hs3 rfl (fun b4 _ hs5 => WL.r 1 hs5 [] rfl (WL.nil (WC.seq (fun K6 hK6 => WC.r1 hs5 [1, 0] rfl (WC.condF rfl (by simp [e_Kind, e_Name, e_To]) ?_)))))))
 refine WC.skip (hK6 _ _ (WC.seq (fun K8 hK8 => WC.r1 hs5 [1, 0] rfl (WC.condF rfl (by simp [e_Kind, e_Name, e_To]) (WC.skip (hK8 _ _ (WC.seq (fun K10 hK10 => ?_))))))))
 refine WC.r1 hs5 [1, 0] rfl (WC.condF rfl (by simp [e_Kind, e_Name, e_To]) (WC.skip (hK10 _ _ (WC.seq (fun K12 hK12 => WC.sr (WL.r 4 hs5 [1, 0] rfl ?_))))))
 refine WL.cl Tryz.call40 rfl (k3_ _ _ _ _ _ _ _ _ _ (SlF.st0 f_a.Data hs5) (SlF.st0 f_b.Data hs5) ?_ ?_) ?_
 iterate 2 first | assumption | rfl | omega
 rintro _ whs13 ⟨rfl, hs13⟩
 replace hs13 := hs5.call0 hs13
 refine ⟨_, rfl, WL.r 1 hs13 [] rfl (WL.nil (WC.condF rfl (by simp [e_Kind, e_Name, e_To]) (WC.skip (hK12 _ _ (WC.r1 hs13 [] rfl (WC.ret ?_))))))⟩
 refine rtv rfl rfl hs13 ?_
 rfl
theorem k42_ (d : DiskR) (w : World) (f_d : okDiskR 549755813888 w d) (hn1 : d.Kept.n ≤ 1048576) (hn2 : d.Turns.n ≤ 1048576) :
    Calls Tryz.prog 52 #[.agg #[i64 d.Room, i64 d.Fuse, i64 d.Next, .slice d.Files.A d.Files.n d.Files.c, .slice d.Kept.A d.Kept.n d.Kept.c, .slice d.Turns.A d.Turns.n d.Turns.c]] w fun e w' => ∃ A c L1, e = .returned (.slice A (idsD d.dat).length c) ∧ St w [] L1 w' ∧ OwnF encI 3 (.slice A (idsD d.dat).length c) (idsD d.dat) L1 := by
 have nb_d_Files := f_d.Files_n
 have nl_d_Files := f_d.Files.sl.len
 have nb_d_Kept := f_d.Kept_n
 have nl_d_Kept := f_d.Kept.len
 have nb_d_Turns := f_d.Turns_n
 have nl_d_Turns := f_d.Turns.len
 have hl1 := f_d.Kept.len
 have hl2 := f_d.Turns.len
 refine enter 39 Tryz.func52 rfl Tryz.ntmps52 rfl rfl ?_
 have hs1 := St.init w
 refine WC.sr (WL.bx hs1 rfl (fun b2 _ hs3 => WL.r 1 hs3 [] rfl (WL.nil (WC.sr (WL.buildF (F := encI) hs3 ([]) Tryz.runUnderlying81 Tryz.sizeOf3 Tryz.zeroValue3 rfl rfl rfl rfl rfl rfl rfl rfl rfl rfl rfl rfl (fun A7 c8 L4 whs5 hs5 ho6 => ?_))))))
 replace hs5 := St.back [_] hs5
 refine WL.r 1 hs5 [] rfl (WL.nil (WC.seq (fun K9 hK9 => WC.r1 hs5 [0] rfl (WC.block ?_))))
 refine WC.lO [1, 2, 10, 11] rfl (hs5.fr L4) (fun k_ f L_ => ∃ (zs : List Int) (i : Nat) (A10 : Option Addr) (c11 : Nat), k_ = d.Kept.n - i ∧ (i ≤ d.Kept.n) ∧ (zs = (d.Kept.xs.take i).map (·.Id)) ∧ OwnF encI 3 (.slice A10 (zs.length) c11) (zs) L_ ∧ Sub [(3, .slice A10 (zs.length) c11), (12, .int .i64 i)] f) (((fun (zs : List Int) (i : Nat) => d.Kept.n - i) ([]) (0))) ?_ ?_
 ·refine ⟨[], 0, _, _, rfl, ?_, ?_, ho6, ⟨rfl, rfl, trivial⟩⟩
  · exact Nat.zero_le _
  · rfl
 clear hs5
 rintro _ f w L12 ⟨zs, i, A10, c11, rfl, p0, p1, ho13, hG⟩ hF hs14
 refine WC.sub _ (hG.app hF) ?_
 clear hG hF
 replace hs14 := St.back [_] hs14
 have hzl : zs.length ≤ d.Kept.n := by rw [p1, List.length_map, List.length_take]; omega
 refine WC.r1 hs14 [] rfl (WC.seq (fun K15 hK15 => ?_))
 refine WC.cq rfl (fun h16 qh16 => ?_) (fun h16 qh16 => ?_)
 ·refine WC.skip (hK15 _ _ (WC.seq (fun K17 hK17 => WC.block (WC.sr ?_))))
  refine WL.val rfl rfl rfl (Run.idxN Tryz.runUnderlying33 Tryz.sizeOf82 rfl rfl rfl ?_ ?_ ?_) ?_
  · exact SlF.some_ (SlF.st0 f_d.Kept hs14)
  · omega
  · omega
  refine WL.val rfl rfl rfl (Run.loadA Tryz.isAgg82 Tryz.sizeOf82 rfl rfl (SlF.whole (SlF.st0 f_d.Kept hs14) ?_)) ?_
  · omega
  refine WL.al hs14 Tryz.zeroValue82 rfl rfl (fun b18 _ hs19 => WL.st tbk hs19 0 rfl rfl (fun _ hs20 => WL.nil (WC.region (WL.r 3 hs20 [0] rfl (WL.buildSlice hs20 Tryz.runUnderlying81 Tryz.sizeOf3 Tryz.zeroValue3 rfl rfl rfl rfl rfl rfl rfl rfl rfl rfl (fun b21 whs22 hs22 => ?_))))))
  refine WL.appendG (hs22.fr L12) ho13 (srcF (F := encI) (ys := [(gat encLink d.Kept.xs i).Id]) Tryz.underlying81 rfl rfl (hs22.own _ (nthL_mem (i := 0) rfl)).1) Tryz.underlying81 inf3 rfl rfl rfl rfl rfl rfl rfl rfl rfl rfl ?_ (fun A26 c27 L23 whs24 hs24 ho25 => ?_)
  · simp; omega
  replace hs24 := St.back [_, _, _] hs24
  refine WL.r 1 hs24 [] rfl (WL.nil (hK17 _ _ (WC.region (WL.r 2 hs24 [] rfl (WL.nil (tkN ?_))))))
  replace hs24 := hs24.d1.d1
  refine ⟨sbF rfl, _, (hs24.fr L23), _, ?_, _, i + 1, _, _, rfl, ?_, ?_, ho25, ⟨rfl, rfl, trivial⟩⟩
  · omega
  · omega
  · rw [keptI_take (by omega), ← p1]
 refine WC.exit (hK9 _ _ (WC.seq (fun K28 hK28 => WC.r1 hs14 [0] rfl (WC.block ?_))))
 refine WC.lO [2, 13, 23, 24] rfl (hs14.fr L12) (fun k_ f L_ => ∃ (zs : List Int) (i : Nat) (A29 : Option Addr) (c30 : Nat), k_ = d.Turns.n - i ∧ (i ≤ d.Turns.n) ∧ (zs = d.Kept.xs.map (·.Id) ++ made (d.Turns.xs.take i)) ∧ OwnF encI 3 (.slice A29 (zs.length) c30) (zs) L_ ∧ Sub [(3, .slice A29 (zs.length) c30), (25, .int .i64 i)] f) (((fun (zs : List Int) (i : Nat) => d.Turns.n - i) (zs) (0))) ?_ ?_
 ·refine ⟨zs, 0, _, _, rfl, ?_, ?_, ho13, ⟨rfl, rfl, trivial⟩⟩
  · exact Nat.zero_le _
  · rw [p1, List.take_of_length_le (by omega)]; simp [made]
 clear hs14
 rintro _ f w L31 ⟨zs, i, A29, c30, rfl, p0, p1, ho32, hG⟩ hF hs33
 refine WC.sub _ (hG.app hF) ?_
 clear hG hF
 replace hs33 := St.back [_] hs33
 have hzl : zs.length ≤ d.Kept.n + d.Turns.n := by rw [p1, List.length_append, List.length_map]; have h9 := made_len (d.Turns.xs.take i); rw [List.length_take] at h9; omega
 refine WC.r1 hs33 [] rfl (WC.seq (fun K34 hK34 => ?_))
 refine WC.cq rfl (fun h35 qh35 => ?_) (fun h35 qh35 => ?_)
 ·refine WC.skip (hK34 _ _ (WC.seq (fun K36 hK36 => WC.block (WC.sr ?_))))
  refine WL.val rfl rfl rfl (Run.idxN Tryz.runUnderlying34 Tryz.sizeOf60 rfl rfl rfl ?_ ?_ ?_) ?_
  · exact SlF.some_ (SlF.st0 f_d.Turns hs33)
  · omega
  · omega
  refine WL.val rfl rfl rfl (Run.loadA Tryz.isAgg60 Tryz.sizeOf60 rfl rfl (SlF.whole (SlF.st0 f_d.Turns hs33) ?_)) ?_
  · omega
  refine WL.al hs33 Tryz.zeroValue60 rfl rfl (fun b37 _ hs38 => WL.st tbk hs38 0 rfl rfl (fun _ hs39 => WL.nil (WC.r1 hs39 [0] rfl ?_)))
  refine WC.cq rfl (fun h40 qh40 => ?_) (fun h40 qh40 => ?_)
  ·refine WC.region (WL.r 3 hs39 [0] rfl (WL.buildSlice hs39 Tryz.runUnderlying81 Tryz.sizeOf3 Tryz.zeroValue3 rfl rfl rfl rfl rfl rfl rfl rfl rfl rfl (fun b41 whs42 hs42 => ?_)))
   refine WL.appendG (hs42.fr L31) ho32 (srcF (F := encI) (ys := [(gat encTurn d.Turns.xs i).Id]) Tryz.underlying81 rfl rfl (hs42.own _ (nthL_mem (i := 0) rfl)).1) Tryz.underlying81 inf3 rfl rfl rfl rfl rfl rfl rfl rfl rfl rfl ?_ (fun A46 c47 L43 whs44 hs44 ho45 => ?_)
   · simp; omega
   replace hs44 := St.back [_, _, _] hs44
   refine WL.r 1 hs44 [] rfl (WL.nil (hK36 _ _ (WC.region (WL.r 2 hs44 [] rfl (WL.nil (tkN ?_))))))
   replace hs44 := hs44.d1.d1
   refine ⟨sbF rfl, _, (hs44.fr L43), _, ?_, _, i + 1, _, _, rfl, ?_, ?_, ho45, ⟨rfl, rfl, trivial⟩⟩
   · omega
   · omega
   · rw [p1, made_take (by omega)]; first | (rw [if_pos (by simpa using h40)]; simp; done) | (rw [if_neg (by simpa using h40)]; simp; done)
  refine WC.skip (hK36 _ _ (WC.region (WL.r 2 hs39 [] rfl (WL.nil (tkN ?_)))))
  replace hs39 := hs39.d1
  refine ⟨sbF rfl, _, (hs39.fr L31), _, ?_, _, i + 1, _, _, rfl, ?_, ?_, ho32, ⟨rfl, rfl, trivial⟩⟩
  · omega
  · omega
  · rw [p1, made_take (by omega)]; first | (rw [if_pos (by simpa using h40)]; simp; done) | (rw [if_neg (by simpa using h40)]; simp; done)
 refine WC.exit (hK28 _ _ (WC.r1 hs33 [] rfl (WC.ret (retV1 rfl (resV.tmp rfl) ?_))))
 have hx_ := OwnF.eqOf (xs := idsD d.dat) ho32 (by rw [p1, List.take_of_length_le (by omega)]; rfl)
 rw [← hx_]
 first | exact ⟨_, _, _, rfl, (St.keep1 (hs33.fr L31)), ho32⟩ | exact ⟨A29, c30, _, by rw [OwnF.len_ ho32], (St.keep1 (hs33.fr L31)), by rw [OwnF.len_ ho32]; exact ho32⟩
theorem k43_ (d : DiskR) (w : World) (f_d : okDiskR 549755813888 w d) (hu : usedF d.dat.Files ≤ 1048576) :
    Calls Tryz.prog 26 #[.agg #[i64 d.Room, i64 d.Fuse, i64 d.Next, .slice d.Files.A d.Files.n d.Files.c, .slice d.Kept.A d.Kept.n d.Kept.c, .slice d.Turns.A d.Turns.n d.Turns.c]] w fun e w' => e = .returned (.int .i64 (usedF d.dat.Files : Nat)) ∧ St w [] [] w' := by
 have nb_d_Files := f_d.Files_n
 have nl_d_Files := f_d.Files.sl.len
 have nb_d_Kept := f_d.Kept_n
 have nl_d_Kept := f_d.Kept.len
 have nb_d_Turns := f_d.Turns_n
 have nl_d_Turns := f_d.Turns.len
 have hl1 := f_d.Files.sl.len
 refine enter 20 Tryz.func26 rfl Tryz.ntmps26 rfl rfl ?_
 have hs1 := St.init w
 refine WC.sr (WL.bx hs1 rfl (fun b2 _ hs3 => WL.r 1 hs3 [] rfl (WL.nil (WC.r1 hs3 [] rfl (WC.seq (fun K4 hK4 => WC.r1 hs3 [0] rfl (WC.block ?_)))))))
 refine WC.lS [2, 7, 8] rfl hs3 (fun k_ f w' => ∃ (i : Nat), k_ = d.Files.n - i ∧ (i ≤ d.Files.n) ∧ Sub [(9, .int .i64 i), (3, .int .i64 (usedF ((d.Files.xs.take i).map FileR.dat) : Nat))] f) ((fun (i : Nat) => d.Files.n - i) (0)) ?_ ?_
 ·refine ⟨0, rfl, ?_, ⟨rfl, ?_, trivial⟩⟩
  · exact Nat.zero_le _
  · rfl
 clear hs3
 rintro _ f w ⟨i, rfl, p0, hG⟩ hF hs5
 refine WC.sub _ (hG.app hF) ?_
 clear hG hF
 have hul := usedF_le (xs := d.Files.xs) i
 refine WC.r1 hs5 [] rfl (WC.seq (fun K6 hK6 => ?_))
 refine WC.cq rfl (fun h7 qh7 => ?_) (fun h7 qh7 => ?_)
 ·have hun := usedF_le (xs := d.Files.xs) (i + 1)
  rw [usedF_take (by omega)] at hun
  have hgb := (f_d.Files.all _ (gat_mem (F := encFileR) (xs := d.Files.xs) (k := i) (by omega))).Body.len
  have hud : usedF d.dat.Files = usedF (d.Files.xs.map FileR.dat) := rfl
  refine WC.skip (hK6 _ _ (WC.seq (fun K8 hK8 => WC.block (WC.sr ?_))))
  refine WL.val rfl rfl rfl (Run.idxN Tryz.runUnderlying32 Tryz.sizeOf58 rfl rfl rfl ?_ ?_ ?_) ?_
  · exact SlF.some_ (SlF.st0 f_d.Files.sl hs5)
  · first | omega | (have hud : usedF d.dat.Files = usedF (d.Files.xs.map FileR.dat) := rfl; omega)
  · first | omega | (have hud : usedF d.dat.Files = usedF (d.Files.xs.map FileR.dat) := rfl; omega)
  refine WL.val rfl rfl rfl (Run.loadA Tryz.isAgg58 Tryz.sizeOf58 rfl rfl (SlF.whole (SlF.st0 f_d.Files.sl hs5) ?_)) ?_
  · omega
  refine WL.al hs5 Tryz.zeroValue58 rfl rfl (fun b9 _ hs10 => WL.st tbk hs10 0 rfl rfl (fun _ hs11 => WL.nil (WC.region ?_)))
  refine WL.run tbk 6 hs11 [0] rfl ⟨by first | omega | (have hud : usedF d.dat.Files = usedF (d.Files.xs.map FileR.dat) := rfl; omega), rfl, trivial⟩ (WL.nil (hK8 _ _ (WC.region ?_)))
  refine WL.run tbk 2 hs11 [] rfl ⟨by first | omega | (have hud : usedF d.dat.Files = usedF (d.Files.xs.map FileR.dat) := rfl; omega), trivial⟩ (WL.nil (tkN (⟨sbF rfl, (hs11.drop (by repeat (first | exact List.Sublist.refl _ | exact List.sublist_append_left _ _ | exact List.Sublist.trans (List.sublist_append_left _ _) (List.sublist_append_left _ _) | apply List.Sublist.cons | refine List.Sublist.trans ?_ (sR _)))), _, ?_, i + 1, rfl, ?_, ⟨rfl, ?_, trivial⟩⟩)))
  · omega
  · omega
  · (refine congrArg some (congrArg (Value.int _) ?_); rw [usedF_take (by omega)]; have h9 := gat_mem (F := encFileR) (xs := d.Files.xs) (k := i) (by omega); have h8 := (f_d.Files.all _ h9).Body.len; omega)
 refine WC.exit (hK4 _ _ (WC.r1 hs5 [] rfl (WC.ret (rtv rfl rfl hs5 ?_))))
 rw [List.take_of_length_le (by omega)]; rfl
theorem k44_ (d : DiskR) (w : World) (f_d : okDiskR 549755813888 w d) (hu : usedF d.dat.Files ≤ 1048576) :
    Calls Tryz.prog 70 #[.agg #[i64 d.Room, i64 d.Fuse, i64 d.Next, .slice d.Files.A d.Files.n d.Files.c, .slice d.Kept.A d.Kept.n d.Kept.c, .slice d.Turns.A d.Turns.n d.Turns.c]] w fun e w' => e = .returned (.int .i64 (usedF d.dat.Files : Nat)) ∧ St w [] [] w' := by
 have nb_d_Files := f_d.Files_n
 have nl_d_Files := f_d.Files.sl.len
 have nb_d_Kept := f_d.Kept_n
 have nl_d_Kept := f_d.Kept.len
 have nb_d_Turns := f_d.Turns_n
 have nl_d_Turns := f_d.Turns.len
 have hl1 := f_d.Files.sl.len
 refine enter 20 Tryz.func70 rfl Tryz.ntmps70 rfl rfl ?_
 have hs1 := St.init w
 refine WC.sr (WL.bx hs1 rfl (fun b2 _ hs3 => WL.r 1 hs3 [] rfl (WL.nil (WC.r1 hs3 [] rfl (WC.seq (fun K4 hK4 => WC.r1 hs3 [0] rfl (WC.block ?_)))))))
 refine WC.lS [2, 7, 8] rfl hs3 (fun k_ f w' => ∃ (i : Nat), k_ = d.Files.n - i ∧ (i ≤ d.Files.n) ∧ Sub [(9, .int .i64 i), (3, .int .i64 (usedF ((d.Files.xs.take i).map FileR.dat) : Nat))] f) ((fun (i : Nat) => d.Files.n - i) (0)) ?_ ?_
 ·refine ⟨0, rfl, ?_, ⟨rfl, ?_, trivial⟩⟩
  · exact Nat.zero_le _
  · rfl
 clear hs3
 rintro _ f w ⟨i, rfl, p0, hG⟩ hF hs5
 refine WC.sub _ (hG.app hF) ?_
 clear hG hF
 have hul := usedF_le (xs := d.Files.xs) i
 refine WC.r1 hs5 [] rfl (WC.seq (fun K6 hK6 => ?_))
 refine WC.cq rfl (fun h7 qh7 => ?_) (fun h7 qh7 => ?_)
 ·have hun := usedF_le (xs := d.Files.xs) (i + 1)
  rw [usedF_take (by omega)] at hun
  have hgb := (f_d.Files.all _ (gat_mem (F := encFileR) (xs := d.Files.xs) (k := i) (by omega))).Body.len
  have hud : usedF d.dat.Files = usedF (d.Files.xs.map FileR.dat) := rfl
  refine WC.skip (hK6 _ _ (WC.seq (fun K8 hK8 => WC.block (WC.sr ?_))))
  refine WL.val rfl rfl rfl (Run.idxN Tryz.runUnderlying32 Tryz.sizeOf58 rfl rfl rfl ?_ ?_ ?_) ?_
  · exact SlF.some_ (SlF.st0 f_d.Files.sl hs5)
  · first | omega | (have hud : usedF d.dat.Files = usedF (d.Files.xs.map FileR.dat) := rfl; omega)
  · first | omega | (have hud : usedF d.dat.Files = usedF (d.Files.xs.map FileR.dat) := rfl; omega)
  refine WL.val rfl rfl rfl (Run.loadA Tryz.isAgg58 Tryz.sizeOf58 rfl rfl (SlF.whole (SlF.st0 f_d.Files.sl hs5) ?_)) ?_
  · omega
  refine WL.al hs5 Tryz.zeroValue58 rfl rfl (fun b9 _ hs10 => WL.st tbk hs10 0 rfl rfl (fun _ hs11 => WL.nil (WC.region ?_)))
  refine WL.run tbk 6 hs11 [0] rfl ⟨by first | omega | (have hud : usedF d.dat.Files = usedF (d.Files.xs.map FileR.dat) := rfl; omega), rfl, trivial⟩ (WL.nil (hK8 _ _ (WC.region ?_)))
  refine WL.run tbk 2 hs11 [] rfl ⟨by first | omega | (have hud : usedF d.dat.Files = usedF (d.Files.xs.map FileR.dat) := rfl; omega), trivial⟩ (WL.nil (tkN (⟨sbF rfl, (hs11.drop (by repeat (first | exact List.Sublist.refl _ | exact List.sublist_append_left _ _ | exact List.Sublist.trans (List.sublist_append_left _ _) (List.sublist_append_left _ _) | apply List.Sublist.cons | refine List.Sublist.trans ?_ (sR _)))), _, ?_, i + 1, rfl, ?_, ⟨rfl, ?_, trivial⟩⟩)))
  · omega
  · omega
  · (refine congrArg some (congrArg (Value.int _) ?_); rw [usedF_take (by omega)]; have h9 := gat_mem (F := encFileR) (xs := d.Files.xs) (k := i) (by omega); have h8 := (f_d.Files.all _ h9).Body.len; omega)
 refine WC.exit (hK4 _ _ (WC.r1 hs5 [] rfl (WC.ret (rtv rfl rfl hs5 ?_))))
 rw [List.take_of_length_le (by omega)]; rfl
set_option maxHeartbeats 4000000 in
theorem k45_ (d : DiskR) (w : World) (f_d : okDiskR 549755813888 w d) (hb : totDisk d.dat ≤ 1048576) :
    Calls Tryz.prog 19 #[.agg #[i64 d.Room, i64 d.Fuse, i64 d.Next, .slice d.Files.A d.Files.n d.Files.c, .slice d.Kept.A d.Kept.n d.Kept.c, .slice d.Turns.A d.Turns.n d.Turns.c]] w fun e w' => e = .returned (.bool (diskOk d.dat)) ∧ St w [] [] w' := by
 have nb_d_Files := f_d.Files_n
 have nl_d_Files := f_d.Files.sl.len
 have nb_d_Kept := f_d.Kept_n
 have nl_d_Kept := f_d.Kept.len
 have nb_d_Turns := f_d.Turns_n
 have nl_d_Turns := f_d.Turns.len
 let w0 := w
 obtain ⟨⟨hb1, hb2, hb3⟩, hb4⟩ := totDisk_facts hb
 have hl1 := f_d.Files.sl.len
 have hl2 := f_d.Kept.len
 have hl3 := f_d.Turns.len
 have hm1 : d.Files.n ≤ 1048576 := by rw [← hl1, ← List.length_map (f := FileR.dat)]; exact hb1
 have hm2 : d.Kept.n ≤ 1048576 := by rw [← hl2]; exact hb2
 have hm3 : d.Turns.n ≤ 1048576 := by rw [← hl3]; exact hb3
 refine enter 193 Tryz.func19 rfl Tryz.ntmps19 rfl rfl ?_
 have hs1 := St.init w
 refine WC.sr (WL.bx hs1 rfl (fun b2 _ hs3 => WL.r 1 hs3 [] rfl (WL.nil (WC.seq (fun K4 hK4 => WC.sq1 hs3 (WQ.r 4 [0] rfl (WQ.pO tbk 3 Acts.nil [0] rfl rfl rfl rfl (fun g_ => ⟨rfl, trivial⟩) ?_)))))))
 refine WQ.r 1 [] rfl (WQ.pO tbk 3 Acts.nil [0] rfl rfl rfl rfl (fun g_ => ⟨rfl, trivial⟩) (WQ.r 1 [] rfl (WQ.pO tbk 3 Acts.nil [0] rfl rfl rfl rfl (fun g_ => ⟨rfl, trivial⟩) (WQ.r 1 [] rfl (WQ.pO tbk 3 Acts.nil [0] rfl rfl rfl rfl (fun g_ => ⟨rfl, trivial⟩) (WQ.r 1 [] rfl (WQ.pO tbk 3 Acts.nil [0] rfl rfl rfl rfl (fun g_ => ⟨rfl, trivial⟩) ?_)))))))
 refine WQ.r 1 [] rfl (WQ.pO tbk 4 Acts.nil [0] rfl rfl rfl rfl (fun g_ => ⟨rfl, trivial⟩) (WQ.r 1 [] rfl (WQ.pO tbk 4 Acts.nil [0] rfl rfl rfl rfl (fun g_ => ⟨rfl, trivial⟩) (WQ.r 1 [] rfl (WQ.pO tbk 4 Acts.nil [0] rfl rfl rfl rfl (fun g_ => ⟨rfl, trivial⟩) (WQ.r 1 [] rfl ?_))))))
 apply WQ.gO 5 Acts.nil rfl
 ·intro g5 J6
  have qg5 := g5
  try simp only [bf, within_iff, within_not] at qg5
  refine WQ.runA tbk 1 (Acts.nil.cons (j := 46) rfl g5) [0] rfl ⟨rfl, trivial⟩ ?_
  refine WQ.call (wantF rfl g5) rfl rfl (fun w_ hs_ => (Run.call Tryz.call26 rfl rfl rfl)) (fun w_ hs_ => (k43_ d _ (okDiskR.st0 f_d (hs_ : St _ _ _ _)) ?_).mono fun e_ w_ h_ => ⟨h_.1, (hs_ : St _ _ _ _).call0 h_.2⟩) ?_
  · first | assumption | rfl | omega
  refine WQ.runA tbk 3 (Acts.nil.cons (j := 46) rfl g5) [0] rfl ⟨rfl, trivial⟩ (WQ.eO 5 Acts.nil J6 g5 rfl rfl)
 refine WQ.nil (fun _ (hs7 : St _ _ _ _) => ?_)
 refine WC.cq rfl (fun h8 qh8 => ?_) (fun h8 qh8 => ?_)
 ·have hbad := disk_front hl1 hl2 hl3
  rw [h8, Bool.not_true] at hbad
  refine WC.r1 hs7 [] rfl (WC.ret (tkR ?_))
  clear hK4
  refine rtv rfl rfl hs7 ?_
  unfold diskOk; rw [hbad]; rfl
 have hA := disk_front hl1 hl2 hl3
 rw [h8, Bool.not_false, Bool.and_eq_true] at hA
 obtain ⟨hA1, hA2⟩ := hA
 refine WC.skip (hK4 _ _ (WC.sr (WL.buildF (F := encI) hs7 ([]) Tryz.runUnderlying81 Tryz.sizeOf3 Tryz.zeroValue3 rfl rfl rfl rfl rfl rfl rfl rfl rfl rfl rfl rfl (fun A12 c13 L9 whs10 hs10 ho11 => ?_))))
 replace hs10 := St.back [_] hs10
 refine WL.r 1 hs10 [] rfl (WL.nil (WC.seq (fun K14 hK14 => WC.r1 hs10 [0] rfl (WC.block ?_))))
 refine WC.lO [1, 66, 69, 70] rfl (hs10.fr L9) (fun k_ f L_ => ∃ (zs : List Int) (i : Nat) (A15 : Option Addr) (c16 : Nat), k_ = d.Files.n - i ∧ (i ≤ d.Files.n) ∧ (zs = (d.Files.xs.take i).map (·.Id)) ∧ (∀ j, j < i → fileOkAt d.Next d.dat.Files j = true) ∧ OwnF encI 3 (.slice A15 (zs.length) c16) (zs) L_ ∧ Sub [(3, .slice A15 (zs.length) c16), (71, .int .i64 i)] f) (((fun (zs : List Int) (i : Nat) => d.Files.n - i) ([]) (0))) ?_ ?_
 ·refine ⟨[], 0, _, _, rfl, ?_, ?_, ?_, ho11, ⟨rfl, rfl, trivial⟩⟩
  · exact Nat.zero_le _
  · rfl
  · exact fun j hj => absurd hj (by omega)
 clear hs10
 rintro _ f w L17 ⟨zs, i, A15, c16, rfl, p0, p1, p2, ho18, hG⟩ hF hs19
 refine WC.sub _ (hG.app hF) ?_
 clear hG hF
 replace hs19 := St.back [_] hs19
 have hzl : zs.length ≤ d.Files.n := by rw [p1, List.length_map, List.length_take]; omega
 refine WC.r1 hs19 [] rfl (WC.seq (fun K20 hK20 => ?_))
 refine WC.cq rfl (fun h21 qh21 => ?_) (fun h21 qh21 => ?_)
 ·have hbl := (f_d.Files.all _ (gat_mem (F := encFileR) (xs := d.Files.xs) (k := i) (by omega))).Body.len
  refine WC.skip (hK20 _ _ (WC.seq (fun K22 hK22 => WC.block (WC.sr (WL.r 1 hs19 [] rfl ?_)))))
  refine WL.val rfl rfl rfl (Run.idxN Tryz.runUnderlying32 Tryz.sizeOf58 rfl rfl rfl ?_ ?_ ?_) ?_
  · exact SlF.some_ (SlF.st0 f_d.Files.sl hs19)
  · omega
  · omega
  refine WL.val rfl rfl rfl (Run.loadA Tryz.isAgg58 Tryz.sizeOf58 rfl rfl (SlF.whole (SlF.st0 f_d.Files.sl hs19) ?_)) ?_
  · omega
  refine WL.al hs19 Tryz.zeroValue58 rfl rfl (fun b23 _ hs24 => WL.r 1 hs24 [] rfl (WL.st tbk hs24 0 rfl rfl (fun _ hs25 => WL.nil (WC.seq (fun K26 hK26 => WC.sq1 hs25 (WQ.r 4 [0] rfl (WQ.pO tbk 5 Acts.nil [0, 1] rfl rfl rfl rfl (fun g_ => ⟨rfl, rfl, trivial⟩) ?_)))))))
  refine WQ.r 1 [] rfl ?_
  apply WQ.gO 14 Acts.nil rfl
  ·intro g27 J28
   have qg27 := g27
   try simp only [bf, within_iff, within_not] at qg27
   refine WQ.runA tbk 3 (Acts.nil.cons (j := 10) rfl g27) [] rfl trivial ?_
   apply WQ.gA 10 (Acts.nil.cons (j := 10) rfl g27) rfl
   ·intro g29 J30
    have qg29 := g29
    try simp only [bf, within_iff, within_not] at qg29
    refine WQ.runA tbk 4 (Acts.nil.cons (j := 13) rfl g29) [1] rfl ⟨by omega, rfl, trivial⟩ ?_
    refine WQ.val (wantT rfl g29) rfl rfl (fun w_ hs_ => (Run.idxK ((i - 1)) Tryz.runUnderlying32 Tryz.sizeOf58 rfl rfl rfl ?_ ?_ ?_)) ?_
    · exact SlF.some_ (SlF.st0 f_d.Files.sl (hs_ : St _ _ _ _))
    · omega
    · omega
    refine WQ.val (wantT rfl g29) rfl rfl (fun w_ hs_ => (Run.fieldO Tryz.runUnderlying58 rfl rfl rfl Tryz.sizeOf3 rfl)) ?_
    refine WQ.val (wantT rfl g29) rfl rfl (fun w_ hs_ => (Run.load Tryz.isAgg3 rfl rfl (SlF.fld (SlF.st0 f_d.Files.sl (hs_ : St _ _ _ _)) ?_ rfl))) ?_
    · omega
    refine WQ.runA tbk 3 (Acts.nil.cons (j := 13) rfl g29) [0] rfl ⟨rfl, trivial⟩ (WQ.eA 10 (Acts.nil.cons (j := 10) rfl g27) J30 g29 rfl rfl)
   exact WQ.eO 4 Acts.nil J28 g27 rfl rfl
  refine WQ.r 1 [] rfl (WQ.pO tbk 3 Acts.nil [0] rfl rfl rfl rfl (fun g_ => ⟨rfl, trivial⟩) (WQ.r 1 [] rfl (WQ.pO tbk 6 Acts.nil [0, 0] rfl rfl rfl rfl (fun g_ => ⟨rfl, rfl, trivial⟩) (WQ.nil (fun _ (hs31 : St _ _ _ _) => ?_)))))
  refine WC.cq rfl (fun h32 qh32 => ?_) (fun h32 qh32 => ?_)
  ·have hbad : filesOk d.dat.Next d.dat.Files = false := range_no (i := i) (by have h9 : d.dat.Files.length = d.Files.xs.length := List.length_map _; omega) (by show fileOkAt d.Next d.dat.Files i = false; rw [fileOk_spec (by omega) hbl, h32]; rfl)
   refine WC.r1 hs31 [] rfl (WC.ret (tkR (ibR (tkR (tkR (ibR (tkR ?_)))))))
   clear hK26 hK22 hK14
   refine rtv rfl rfl hs31 ?_
   simp [diskOk, hbad]
  have hgood : fileOkAt d.Next d.dat.Files i = true := by rw [fileOk_spec (by omega) hbl, h32]; rfl
  refine WC.skip (hK26 _ _ (WC.region (WL.r 3 hs31 [0] rfl (WL.buildSlice hs31 Tryz.runUnderlying81 Tryz.sizeOf3 Tryz.zeroValue3 rfl rfl rfl rfl rfl rfl rfl rfl rfl rfl (fun b33 whs34 hs34 => ?_)))))
  refine WL.appendG (hs34.fr L17) ho18 (srcI1 Tryz.underlying81 (hs34.own _ (nthL_mem (i := 0) rfl)).1) Tryz.underlying81 inf3 rfl rfl rfl rfl rfl rfl rfl rfl rfl rfl ?_ (fun A38 c39 L35 whs36 hs36 ho37 => ?_)
  · simp; omega
  replace hs36 := St.back [_, _, _] hs36
  refine WL.r 1 hs36 [] rfl (WL.nil (hK22 _ _ (WC.region (WL.r 2 hs36 [] rfl (WL.nil (tkN ?_))))))
  replace hs36 := hs36.d1.d1
  refine ⟨sbF rfl, _, (hs36.fr L35), _, ?_, _, i + 1, _, _, rfl, ?_, ?_, ?_, ho37, ⟨rfl, rfl, trivial⟩⟩
  · omega
  · omega
  · rw [p1, List.take_add_one, gat_get (F := encFileR) (by omega), List.map_append]; rfl
  · intro j hj; rcases Nat.lt_or_ge j i with h_ | h_
    · exact p2 j h_
    · obtain rfl : j = i := by omega
      exact hgood
 have hzs : zs = fileIds d.dat := by rw [p1, List.take_of_length_le (by omega)]; simp [fileIds, DiskR.dat, FileR.dat, Function.comp_def]
 have hF : filesOk d.Next d.dat.Files = true := range_all fun j hj => p2 j (by have h9 : d.dat.Files.length = d.Files.xs.length := List.length_map _; omega)
 refine WC.exit (hK14 _ _ (WC.seq (fun K40 hK40 => WC.r1 hs19 [0] rfl (WC.block ?_))))
 refine WC.lS [1, 3, 66, 72, 122, 123] rfl hs19 (fun k_ f w' => ∃ (i : Nat), k_ = d.Kept.n - i ∧ (i ≤ d.Kept.n) ∧ (∀ j, j < i → keptOkAt d.Kept.xs j = true) ∧ Sub [(124, .int .i64 i)] f) ((fun (i : Nat) => d.Kept.n - i) (0)) ?_ ?_
 ·refine ⟨0, rfl, ?_, ?_, ⟨rfl, trivial⟩⟩
  · exact Nat.zero_le _
  · exact fun j hj => absurd hj (by omega)
 clear hs19
 rintro _ f w ⟨i, rfl, p0, p1, hG⟩ hF hs41
 refine WC.sub _ (hG.app hF) ?_
 clear hG hF
 refine WC.r1 hs41 [] rfl (WC.seq (fun K42 hK42 => ?_))
 refine WC.cq rfl (fun h43 qh43 => ?_) (fun h43 qh43 => ?_)
 ·have hkz : (gat encLink d.Kept.xs i).Name.size ≤ 549755813888 := f_d.Kept_s _ (gat_mem (F := encLink) (xs := d.Kept.xs) (k := i) (by omega))
  refine WC.skip (hK42 _ _ (WC.seq (fun K44 hK44 => WC.block (WC.sr (WL.r 1 hs41 [] rfl ?_)))))
  refine WL.val rfl rfl rfl (Run.idxN Tryz.runUnderlying33 Tryz.sizeOf82 rfl rfl rfl ?_ ?_ ?_) ?_
  · exact SlF.some_ (SlF.st0 f_d.Kept hs41)
  · omega
  · omega
  refine WL.val rfl rfl rfl (Run.loadA Tryz.isAgg82 Tryz.sizeOf82 rfl rfl (SlF.whole (SlF.st0 f_d.Kept hs41) ?_)) ?_
  · omega
  refine WL.al hs41 Tryz.zeroValue82 rfl rfl (fun b45 _ hs46 => WL.r 1 hs46 [] rfl (WL.st tbk hs46 0 rfl rfl (fun _ hs47 => WL.nil (WC.sq1 hs47 (WQ.r 2 [0] rfl ?_)))))
  refine WQ.call rfl rfl rfl (fun w_ hs_ => (Run.call Tryz.call51 rfl rfl rfl)) (fun w_ hs_ => (k10_ _ _ ?_).mono fun e_ w_ h_ => ⟨h_.1, (hs_ : St _ _ _ _).call0 h_.2⟩) ?_
  · first | assumption | rfl | omega
  refine WQ.r 2 [] rfl ?_
  apply WQ.gO 14 Acts.nil rfl
  ·intro g48 J49
   have qg48 := g48
   try simp only [bf, within_iff, within_not] at qg48
   refine WQ.runA tbk 3 (Acts.nil.cons (j := 4) rfl g48) [] rfl trivial ?_
   apply WQ.gA 10 (Acts.nil.cons (j := 4) rfl g48) rfl
   ·intro g50 J51
    have qg50 := g50
    try simp only [bf, within_iff, within_not] at qg50
    refine WQ.runA tbk 4 (Acts.nil.cons (j := 7) rfl g50) [1] rfl ⟨by omega, rfl, trivial⟩ ?_
    refine WQ.val (wantT rfl g50) rfl rfl (fun w_ hs_ => (Run.idxK ((i - 1)) Tryz.runUnderlying33 Tryz.sizeOf82 rfl rfl rfl ?_ ?_ ?_)) ?_
    · exact SlF.some_ (SlF.st0 f_d.Kept (hs_ : St _ _ _ _))
    · omega
    · omega
    refine WQ.val (wantT rfl g50) rfl rfl (fun w_ hs_ => (Run.fieldO Tryz.runUnderlying82 rfl rfl rfl Tryz.sizeOf9 rfl)) ?_
    refine WQ.val (wantT rfl g50) rfl rfl (fun w_ hs_ => (Run.load Tryz.isAgg9 rfl rfl (SlF.fld (SlF.st0 f_d.Kept (hs_ : St _ _ _ _)) ?_ rfl))) ?_
    · omega
    refine WQ.runA tbk 2 (Acts.nil.cons (j := 7) rfl g50) [0] rfl ⟨rfl, trivial⟩ ?_
    refine WQ.val (wantT rfl g50) rfl rfl (fun w_ hs_ => (Run.geqT rfl rfl rfl)) ?_
    exact WQ.eA 10 (Acts.nil.cons (j := 4) rfl g48) J51 g50 rfl rfl
   exact WQ.eO 4 Acts.nil J49 g48 rfl rfl
  refine WQ.nil (fun _ (hs52 : St _ _ _ _) => ?_)
  refine WC.cq rfl (fun h53 qh53 => ?_) (fun h53 qh53 => ?_)
  ·have hbad : keptOk d.dat.Kept = false := range_no (i := i) (by have h9 : d.dat.Kept.length = d.Kept.xs.length := rfl; omega) (by rw [kept_spec]; show (!_) = false; rw [show d.dat.Kept = d.Kept.xs from rfl, h53]; rfl)
   refine WC.r1 hs52 [] rfl (WC.ret (ibR (tkR (tkR (ibR (tkR ?_))))))
   clear hK44 hK40
   refine rtv rfl rfl hs52 ?_
   simp [diskOk, hbad]
  have hgood : keptOkAt d.Kept.xs i = true := by rw [kept_spec, h53]; rfl
  refine WC.skip (hK44 _ _ (WC.region (WL.r 2 hs52 [] rfl (WL.nil (tkN ?_)))))
  refine ⟨sbF rfl, (hs52.drop (by repeat (first | exact List.Sublist.refl _ | exact List.sublist_append_left _ _ | exact List.Sublist.trans (List.sublist_append_left _ _) (List.sublist_append_left _ _) | apply List.Sublist.cons | refine List.Sublist.trans ?_ (sR _)))), _, ?_, i + 1, rfl, ?_, ?_, ⟨rfl, trivial⟩⟩
  · omega
  · omega
  · intro j hj; rcases Nat.lt_or_ge j i with h_ | h_
    · exact p1 j h_
    · obtain rfl : j = i := by omega
      exact hgood
 have hK : keptOk d.dat.Kept = true := range_all fun j hj => p1 j (by have h9 : d.dat.Kept.length = d.Kept.xs.length := rfl; omega)
 refine WC.exit (hK40 _ _ (WC.sr (WL.r 1 hs41 [0] rfl ?_)))
 refine WL.cl Tryz.call52 rfl (k42_ d _ (okDiskR.st0 f_d hs41) ?_ ?_) ?_
 iterate 2 first | assumption | rfl | omega
 rintro _ whs54 ⟨A55, c56, L1_57, rfl, hs54, ho58⟩
 replace hs54 := hs41.callF hs54
 refine ⟨_, rfl, ?_⟩
 replace hs54 := St.back [_] hs54
 refine WL.r 1 hs54 [] rfl (WL.nil (WC.seq (fun K59 hK59 => WC.r1 hs54 [] rfl ?_)))
 refine WC.cq rfl (fun h60 qh60 => ?_) (fun h60 qh60 => ?_)
 ·have hbad : idsOk (idsD d.dat) (fileIds d.dat) = false := by unfold idsOk; rw [decide_eq_false (by have h9 := h60; rw [← hzs]; simp at h9; omega)]; rfl
  refine WC.r1 hs54 [] rfl (WC.ret (tkR ?_))
  clear hK59
  refine rtv rfl rfl hs54 ?_
  simp [diskOk, hbad]
 have hil : (idsD d.dat).length = (fileIds d.dat).length := by have h9 := h60; rw [← hzs]; simp at h9; omega
 refine WC.skip (hK59 _ _ (WC.seq (fun K61 hK61 => WC.r1 hs54 [] rfl (WC.block ?_))))
 refine WC.lS [1, 3, 8, 66, 72, 125, 156, 157, 158] rfl hs54 (fun k_ f w' => ∃ (i : Nat), k_ = (idsD d.dat).length - i ∧ (i ≤ (idsD d.dat).length) ∧ (∀ j, j < i → idsOkAt (idsD d.dat) (fileIds d.dat) j = true) ∧ Sub [(159, .int .i64 i)] f) ((fun (i : Nat) => (idsD d.dat).length - i) (0)) ?_ ?_
 ·refine ⟨0, rfl, ?_, ?_, ⟨rfl, trivial⟩⟩
  · exact Nat.zero_le _
  · exact fun j hj => absurd hj (by omega)
 clear hs54
 rintro _ f w ⟨i, rfl, p0, p1, hG⟩ hF hs62
 refine WC.sub _ (hG.app hF) ?_
 clear hG hF
 refine WC.r1 hs62 [] rfl (WC.seq (fun K63 hK63 => ?_))
 refine WC.cq rfl (fun h64 qh64 => ?_) (fun h64 qh64 => ?_)
 ·refine WC.skip (hK63 _ _ (WC.seq (fun K65 hK65 => WC.block (WC.sr (WL.r 1 hs62 [] rfl ?_)))))
  refine WL.val rfl rfl rfl (Run.idxN Tryz.runUnderlying81 Tryz.sizeOf3 rfl rfl rfl ?_ ?_ ?_) ?_
  · exact SlF.some_ (SlF.ofOwn ho58 (hs62.ow L1_57))
  · omega
  · omega
  refine WL.val rfl rfl rfl (Run.load Tryz.isAgg3 rfl rfl (SlF.one1 (SlF.ofOwn ho58 (hs62.ow L1_57)) ?_ rfl)) ?_
  · omega
  refine WL.r 2 hs62 [] rfl (WL.nil (WC.sr (WL.r 2 hs62 [] rfl ?_)))
  have ho66 := OwnF.take (k := i) ho58 (by omega)
  have hcho66 := OwnF.cap ho66
  refine WL.val rfl rfl rfl (Run.sliceH0 (i) Tryz.runUnderlying81 Tryz.sizeOf3 rfl rfl rfl ?_ ?_) ?_
  · first | rfl | (omega)
  · first | (exact Nat.zero_le _) | (omega)
  refine WL.r 1 hs62 [] rfl (WL.cl Tryz.call53 rfl (k32_ _ _ _ _ _ _ (SlF.ofOwn ho66 (hs62.ow L1_57)) ?_) ?_)
  · first | assumption | rfl | omega
  rintro _ whs67 ⟨rfl, hs67⟩
  replace hs67 := hs62.call0 hs67
  refine ⟨_, rfl, WL.r 1 hs67 [] rfl ?_⟩
  apply WL.gO 4 Acts.nil hs67 rfl
  ·intro g68 J69
   have qg68 := g68
   try simp only [bf, within_iff, within_not] at qg68
   refine WL.runA tbk 2 (Acts.nil.cons (j := 5) rfl g68) hs67 [] rfl trivial (WL.call (wantF rfl g68) rfl rfl (Run.call Tryz.call53 rfl rfl rfl) (k32_ _ _ _ _ _ _ (SlF.ofOwn ho18 (hs67.ow L17)) ?_) ?_)
   · first | assumption | rfl | omega
   rintro _ whs70 ⟨rfl, hs70⟩
   replace hs70 := hs67.call0 hs70
   refine ⟨_, rfl, WL.runA tbk 1 (Acts.nil.cons (j := 5) rfl g68) hs70 [] rfl trivial (WL.eO 4 Acts.nil J69 hs70 g68 rfl rfl)⟩
  intro _ hs71
  refine WL.nil (WC.cq rfl (fun h72 qh72 => ?_) (fun h72 qh72 => ?_))
  ·have hbad : idsOk (idsD d.dat) (fileIds d.dat) = false := by unfold idsOk; rw [range_no (i := i) (by omega) (by rw [idsAt_spec, ← hzs, h72]; rfl), Bool.and_false]
   refine WC.r1 hs71 [] rfl (WC.ret (ibR (tkR (tkR (ibR (tkR ?_))))))
   clear hK65 hK61
   refine rtv rfl rfl hs71 ?_
   simp [diskOk, hbad]
  have hgood : idsOkAt (idsD d.dat) (fileIds d.dat) i = true := by rw [idsAt_spec, ← hzs, h72]; rfl
  refine WC.skip (hK65 _ _ (WC.region (WL.r 2 hs71 [] rfl (WL.nil (tkN ?_)))))
  refine ⟨sbF rfl, hs71, _, ?_, i + 1, rfl, ?_, ?_, ⟨rfl, trivial⟩⟩
  · omega
  · omega
  · intro j hj; rcases Nat.lt_or_ge j i with h_ | h_
    · exact p1 j h_
    · obtain rfl : j = i := by omega
      exact hgood
 have hI : idsOk (idsD d.dat) (fileIds d.dat) = true := by unfold idsOk; rw [decide_eq_true hil]; exact range_all fun j hj => p1 j (by omega)
 refine WC.exit (hK61 _ _ (WC.r1 hs62 [0] rfl (WC.seq (fun K73 hK73 => WC.r1 hs62 [0] rfl (WC.block ?_)))))
 refine WC.lO [66, 72, 125, 156, 160, 179, 180] rfl (hs62.fr ([] : Hp)) (fun k_ f L_ => ∃ (zs : List LinkD) (i n9 : Nat) (A75 : Option Addr) (c76 : Nat), k_ = d.Turns.n - i ∧ (i ≤ d.Turns.n) ∧ (zs = turnsL d.Kept.xs (d.Turns.xs.take i)) ∧ (runS d.Kept.xs (d.Turns.xs.take i) = true) ∧ AnyF w0 encLink 82 (.slice A75 (n9) c76) (zs) L_ ∧ Sub [(11, .slice A75 (n9) c76), (181, .int .i64 i)] f) (((fun (zs : List LinkD) (i n9 : Nat) => d.Turns.n - i) (d.Kept.xs) (0) (d.Kept.n))) ?_ ?_
 ·refine ⟨d.Kept.xs, 0, d.Kept.n, _, _, rfl, ?_, ?_, ?_, (AnyF.rdo f_d.Kept), ⟨rfl, rfl, trivial⟩⟩
  · exact Nat.zero_le _
  · rfl
  · rfl
 clear hs62
 rintro _ f w L77 ⟨zs, i, n9, A75, c76, rfl, p0, p1, p2, ho78, hG⟩ hF hs79
 refine WC.sub _ (hG.app hF) ?_
 clear hG hF
 replace hs79 := St.back [_] hs79
 have hzl : zs.length = n9 := AnyF.cap ho78
 have hzn : zs.length ≤ 2097152 := by rw [p1]; have h9 := turnsL_len (dir := d.Kept.xs) (l := d.Turns.xs.take i); rw [List.length_take] at h9; omega
 refine WC.r1 hs79 [] rfl (WC.seq (fun K80 hK80 => ?_))
 refine WC.cq rfl (fun h81 qh81 => ?_) (fun h81 qh81 => ?_)
 ·obtain ⟨htz1, htz2⟩ := f_d.Turns_s _ (gat_mem (F := encTurn) (xs := d.Turns.xs) (k := i) (by omega))
  refine WC.skip (hK80 _ _ (WC.seq (fun K82 hK82 => WC.block (WC.sr ?_))))
  refine WL.val rfl rfl rfl (Run.idxN Tryz.runUnderlying34 Tryz.sizeOf60 rfl rfl rfl ?_ ?_ ?_) ?_
  · exact SlF.some_ (SlF.st0 f_d.Turns hs79)
  · omega
  · omega
  refine WL.val rfl rfl rfl (Run.loadA Tryz.isAgg60 Tryz.sizeOf60 rfl rfl (SlF.whole (SlF.st0 f_d.Turns hs79) ?_)) ?_
  · omega
  refine WL.al hs79 Tryz.zeroValue60 rfl rfl (fun b83 _ hs84 => WL.st tbk hs84 0 rfl rfl (fun _ hs85 => WL.nil (WC.seq (fun K86 hK86 => WC.sr (WL.r 2 hs85 [0] rfl ?_)))))
  refine WL.cl Tryz.call54 rfl (k34_ _ _ _ _ _ _ _ _ _ (AnyF.rd ho78 hs85 (hs85.ow L77)) ?_ ?_ ?_) ?_
  iterate 3 first | assumption | rfl | omega
  rintro _ whs87 ⟨rfl, hs87⟩
  replace hs87 := hs85.call0 hs87
  refine ⟨_, rfl, WL.r 1 hs87 [] rfl (WL.nil (WC.cq rfl (fun h88 qh88 => ?_) (fun h88 qh88 => ?_)))⟩
  ·have hbad : runS d.Kept.xs d.Turns.xs = false := runS_bad (i := i) (by omega) (by rw [← p1]; have h9 := h88; simpa using h9)
   refine WC.r1 hs87 [] rfl (WC.ret (tkR (ibR (tkR (tkR (ibR (tkR ?_)))))))
   clear hK86 hK82 hK73
   refine rtv rfl rfl hs87 ?_
   unfold diskOk; rw [show runS d.dat.Kept d.dat.Turns = false from hbad, Bool.and_false]
  have hgood : turnOk (turnsL d.Kept.xs (d.Turns.xs.take i)) (gat encTurn d.Turns.xs i) = true := by rw [← p1]; have h9 := h88; simpa using h9
  refine WC.skip (hK86 _ _ (WC.region (WL.r 2 hs87 [0] rfl ?_)))
  refine WL.cl Tryz.call55 rfl (k33_ _ _ _ _ _ _ _ _ _ (AnyF.rd ho78 hs87 (hs87.ow L77)) ?_) ?_
  · first | assumption | rfl | omega
  rintro _ whs89 ⟨A90, c91, L1_92, rfl, hs89, ho93⟩
  replace hs89 := hs87.callF hs89
  refine ⟨_, rfl, ?_⟩
  replace hs89 := St.back [_, _] hs89
  refine WL.r 1 hs89 [] rfl (WL.nil (hK82 _ _ (WC.region (WL.r 2 hs89 [] rfl (WL.nil (tkN ?_))))))
  replace hs89 := (hs89.d1.rm L77)
  refine ⟨sbF rfl, _, (hs89.fr L1_92), _, ?_, _, i + 1, _, _, _, rfl, ?_, ?_, ?_, (AnyF.of ho93), ⟨rfl, rfl, trivial⟩⟩
  · omega
  · omega
  · rw [turnsL_take (by omega), ← p1]
  · exact runS_take (by omega) p2 hgood
 have hR : runS d.Kept.xs d.Turns.xs = true := by rw [List.take_of_length_le (by omega)] at p2; exact p2
 refine WC.exit (hK73 _ _ (WC.r1 hs79 [] rfl (WC.ret (rtv rfl rfl hs79 ?_))))
 unfold diskOk; rw [hA1, hA2, show filesOk d.dat.Next d.dat.Files = true from hF, hK, hI, show runS d.dat.Kept d.dat.Turns = true from hR]; rfl
theorem k46_ (l_Name : ByteArray) (l_Id : Int) (b_p : Nat) (p : ByteArray) (w : World) (f_p : SlF encS w (some ⟨b_p, 0, none⟩) 1 [p]) :
    Calls Tryz.prog 87 #[.agg #[.string l_Name, i64 l_Id], .pointer (some ⟨b_p, 0, none⟩)] w fun e w' => e = .returned (.bool (isN p ⟨l_Name, l_Id⟩)) ∧ St w [] [] w' := by
 refine enter 8 Tryz.func87 rfl Tryz.ntmps87 rfl rfl ?_
 have hs1 := St.init w
 refine WC.sr (WL.bx hs1 rfl (fun b2 _ hs3 => WL.r 1 hs3 [] rfl (WL.nil (WC.sr (WL.r 2 hs3 [0] rfl (WL.val rfl rfl rfl (Run.load Tryz.isAgg9 rfl rfl (SlF.var (SlF.st0 f_p hs3) rfl)) (WL.r 2 hs3 [] rfl ?_)))))))
 refine WL.nil (WC.ret (rtv rfl rfl hs3 ?_))
 rfl
theorem k47_ (A_s : Option Addr) (n_s c_s : Nat) (s : List LinkD) (b_p : Nat) (p : ByteArray) (w : World) (f_s : SlF encLink w A_s n_s s) (f_p : SlF encS w (some ⟨b_p, 0, none⟩) 1 [p]) (hn : n_s ≤ 1099511627776) :
    Calls Tryz.prog 86 #[.slice A_s n_s c_s, .func (.func 87) #[] #[.pointer (some ⟨b_p, 0, none⟩)]] w fun e w' => e = .returned (.int .i64 (findI (isN p) s)) ∧ St w [] [] w' := by
 refine enter 19 Tryz.func86 rfl Tryz.ntmps86 rfl rfl ?_
 have hs1 := St.init w
 refine WC.r1 hs1 [] rfl (WC.seq (fun K2 hK2 => WC.r1 hs1 [] rfl (WC.block ?_)))
 refine WC.lS [0, 1, 7] rfl hs1 (fun k_ f w' => ∃ (i : Nat), k_ = n_s - i ∧ (i ≤ n_s) ∧ (∀ j, j < i → (isN p) (gat encLink s j) = false) ∧ Sub [(8, .int .i64 i)] f) ((fun (i : Nat) => n_s - i) (0)) ?_ ?_
 ·refine ⟨0, rfl, ?_, ?_, ⟨rfl, trivial⟩⟩
  · exact Nat.zero_le _
  · exact fun j hj => absurd hj (by omega)
 clear hs1
 rintro _ f w ⟨i, rfl, p0, p1, hG⟩ hF hs3
 refine WC.sub _ (hG.app hF) ?_
 clear hG hF
 refine WC.r1 hs3 [] rfl (WC.seq (fun K4 hK4 => ?_))
 refine WC.cond rfl (fun h5 => ?_) (fun h5 => ?_)
 ·have qh5 := h5
  try simp only [decide_eq_true_eq, decide_eq_false_iff_not] at qh5
  refine WC.skip (hK4 _ _ (WC.seq (fun K6 hK6 => WC.block (WC.r1 hs3 [] rfl (WC.sr (WL.r 3 hs3 [] rfl ?_))))))
  refine WL.val rfl rfl rfl (Run.idxN Tryz.runUnderlying33 Tryz.sizeOf82 rfl rfl rfl ?_ ?_ ?_) ?_
  · exact SlF.some_ (SlF.st0 f_s hs3)
  · omega
  · omega
  refine WL.val rfl rfl rfl (Run.loadA Tryz.isAgg82 Tryz.sizeOf82 rfl rfl (SlF.whole (SlF.st0 f_s hs3) ?_)) ?_
  · omega
  refine WL.call rfl rfl rfl (Run.callC Tryz.call87 rfl rfl rfl) (k46_ _ _ _ _ _ (SlF.st0 f_p hs3)) ?_
  rintro _ whs7 ⟨rfl, hs7⟩
  replace hs7 := hs3.call0 hs7
  refine ⟨_, rfl, WL.nil (WC.cond rfl (fun h8 => ?_) (fun h8 => ?_))⟩
  ·have qh8 := h8
   try simp only [decide_eq_true_eq, decide_eq_false_iff_not] at qh8
   refine WC.r1 hs7 [] rfl (WC.ret (ibR (tkR (tkR (ibR (tkR ?_))))))
   clear hK6 hK2
   refine rtv rfl rfl hs7 ?_
   rw [findI_some (F := encLink) (by rw [f_s.len]; omega) p1 h8]
  have qh8 := h8
  try simp only [decide_eq_true_eq, decide_eq_false_iff_not] at qh8
  refine WC.skip (hK6 _ _ (WC.region (WL.r 2 hs7 [] rfl (WL.nil (tkN ?_)))))
  refine ⟨sbF rfl, hs7, _, ?_, i + 1, rfl, ?_, ?_, ⟨rfl, trivial⟩⟩
  · omega
  · omega
  · intro j hj; rcases Nat.lt_or_ge j i with h_ | h_
    · exact p1 j h_
    · obtain rfl : j = i := by omega
      exact h8
 have qh5 := h5
 try simp only [decide_eq_true_eq, decide_eq_false_iff_not] at qh5
 refine WC.exit (hK2 _ _ (WC.r1 hs3 [] rfl (WC.ret (rtv rfl rfl hs3 ?_))))
 rw [findI_none (F := encLink) (fun j hj => p1 j (by rw [f_s.len] at hj; omega))]
theorem k48_ (A_dir : Option Addr) (n_dir c_dir : Nat) (dir : List LinkD) (name : ByteArray) (w : World) (f_dir : SlF encLink w A_dir n_dir dir) (hn : n_dir ≤ 268435456) :
    Calls Tryz.prog 67 #[.slice A_dir n_dir c_dir, .string name] w fun e w' => e = .returned (.int .i64 (findI (isN name) dir)) ∧ St w [] [] w' := by
 refine enter 8 Tryz.func67 rfl Tryz.ntmps67 rfl rfl ?_
 have hs1 := St.init w
 refine WC.sr (WL.bx hs1 rfl (fun b2 _ hs3 => WL.r 1 hs3 [] rfl (WL.nil (WC.sr (WL.r 1 hs3 [] rfl (WL.val rfl rfl rfl (Run.makeFunc rfl rfl) ?_))))))
 refine WL.cl Tryz.call86 rfl (k47_ _ _ _ _ _ _ _ (SlF.st0 f_dir hs3) (SlF.own1 (hs3.own _ (nthL_mem (i := 0) rfl)).1) ?_) ?_
 · first | assumption | rfl | omega
 rintro _ whs4 ⟨rfl, hs4⟩
 replace hs4 := hs3.call0 hs4
 refine ⟨_, rfl, WL.r 1 hs4 [] rfl (WL.nil (WC.ret (rtv rfl rfl hs4 ?_)))⟩
 rfl
theorem k49_ (A_s : Option Addr) (n_s c_s : Nat) (s : List LinkD) (w : World) (f_s : SlF encLink w A_s n_s s) (hn : n_s ≤ 268435456) :
    Calls Tryz.prog 65 #[.slice A_s n_s c_s] w fun e w' => ∃ A c L1, e = .returned (.slice A (s).length c) ∧ St w [] L1 w' ∧ OwnF encLink 82 (.slice A (s).length c) (s) L1 := by
 have hl := f_s.len
 refine enter 8 Tryz.func65 rfl Tryz.ntmps65 rfl rfl ?_
 have hs1 := St.init w
 refine WC.r1 hs1 [] rfl (WC.seq (fun K2 hK2 => WC.sr (WL.r 1 hs1 [] rfl (WL.val rfl rfl rfl (Run.eqlNil Tryz.underlying33 rfl rfl rfl) (WL.nil ?_)))))
 refine WC.cq rfl (fun h3 qh3 => ?_) (fun h3 qh3 => ?_)
 ·obtain rfl : A_s = none := by simpa using qh3
  have h0 : n_s = 0 := SlF.none_ f_s
  have hs : s = [] := List.eq_nil_of_length_eq_zero (by omega)
  refine WC.r1 hs1 [] rfl (WC.ret (tkR ?_))
  clear hK2
  refine retV1 rfl (resV.tmp rfl) ?_
  have hx_ := OwnF.eqOf (xs := s) (OwnF.nil encLink 82) (by rw [hs])
  rw [← hx_]
  exact ⟨_, _, _, rfl, hs1.nil, (OwnF.nil encLink 82)⟩
 refine WC.skip (hK2 _ _ (WC.sr (WL.buildF (F := encLink) hs1 ([]) Tryz.runUnderlying33 Tryz.sizeOf82 Tryz.zeroValue82 rfl rfl rfl rfl rfl rfl rfl rfl rfl rfl rfl rfl (fun A7 c8 L4 whs5 hs5 ho6 => WL.r 1 hs5 [] rfl ?_))))
 refine WL.appendG hs5 ho6 (SlF.src (SlF.st0 f_s hs5) Tryz.underlying33) Tryz.underlying33 inf82 rfl rfl rfl rfl rfl rfl rfl rfl rfl rfl ?_ (fun A12 c13 L9 whs10 hs10 ho11 => ?_)
 · simp; omega
 refine WL.r 1 hs10 [] rfl (WL.nil (WC.ret (retV1 rfl (resV.tmp rfl) ?_)))
 have hx_ := OwnF.eqOf (xs := s) ho11 (by simp)
 rw [← hx_]
 first | exact ⟨_, _, _, rfl, (St.keep1 hs10), ho11⟩ | exact ⟨A12, c13, _, by rw [OwnF.len_ ho11], (St.keep1 hs10), by rw [OwnF.len_ ho11]; exact ho11⟩
theorem k50_ (l_Name : ByteArray) (l_Id : Int) (b_p : Nat) (p : ByteArray) (w : World) (f_p : SlF encS w (some ⟨b_p, 0, none⟩) 1 [p]) :
    Calls Tryz.prog 105 #[.agg #[.string l_Name, i64 l_Id], .pointer (some ⟨b_p, 0, none⟩)] w fun e w' => e = .returned (.bool (isN p ⟨l_Name, l_Id⟩)) ∧ St w [] [] w' := by
 refine enter 8 Tryz.func105 rfl Tryz.ntmps105 rfl rfl ?_
 have hs1 := St.init w
 refine WC.sr (WL.bx hs1 rfl (fun b2 _ hs3 => WL.r 1 hs3 [] rfl (WL.nil (WC.sr (WL.r 2 hs3 [0] rfl (WL.val rfl rfl rfl (Run.load Tryz.isAgg9 rfl rfl (SlF.var (SlF.st0 f_p hs3) rfl)) (WL.r 2 hs3 [] rfl ?_)))))))
 refine WL.nil (WC.ret (rtv rfl rfl hs3 ?_))
 rfl
theorem k51_ (A_s : Option Addr) (n_s c_s : Nat) (s : List LinkD) (b_p : Nat) (p : ByteArray) (w : World) (f_s : SlF encLink w A_s n_s s) (f_p : SlF encS w (some ⟨b_p, 0, none⟩) 1 [p]) (hn : n_s ≤ 1099511627776) :
    Calls Tryz.prog 86 #[.slice A_s n_s c_s, .func (.func 105) #[] #[.pointer (some ⟨b_p, 0, none⟩)]] w fun e w' => e = .returned (.int .i64 (findI (isN p) s)) ∧ St w [] [] w' := by
 refine enter 19 Tryz.func86 rfl Tryz.ntmps86 rfl rfl ?_
 have hs1 := St.init w
 refine WC.r1 hs1 [] rfl (WC.seq (fun K2 hK2 => WC.r1 hs1 [] rfl (WC.block ?_)))
 refine WC.lS [0, 1, 7] rfl hs1 (fun k_ f w' => ∃ (i : Nat), k_ = n_s - i ∧ (i ≤ n_s) ∧ (∀ j, j < i → (isN p) (gat encLink s j) = false) ∧ Sub [(8, .int .i64 i)] f) ((fun (i : Nat) => n_s - i) (0)) ?_ ?_
 ·refine ⟨0, rfl, ?_, ?_, ⟨rfl, trivial⟩⟩
  · exact Nat.zero_le _
  · exact fun j hj => absurd hj (by omega)
 clear hs1
 rintro _ f w ⟨i, rfl, p0, p1, hG⟩ hF hs3
 refine WC.sub _ (hG.app hF) ?_
 clear hG hF
 refine WC.r1 hs3 [] rfl (WC.seq (fun K4 hK4 => ?_))
 refine WC.cond rfl (fun h5 => ?_) (fun h5 => ?_)
 ·have qh5 := h5
  try simp only [decide_eq_true_eq, decide_eq_false_iff_not] at qh5
  refine WC.skip (hK4 _ _ (WC.seq (fun K6 hK6 => WC.block (WC.r1 hs3 [] rfl (WC.sr (WL.r 3 hs3 [] rfl ?_))))))
  refine WL.val rfl rfl rfl (Run.idxN Tryz.runUnderlying33 Tryz.sizeOf82 rfl rfl rfl ?_ ?_ ?_) ?_
  · exact SlF.some_ (SlF.st0 f_s hs3)
  · omega
  · omega
  refine WL.val rfl rfl rfl (Run.loadA Tryz.isAgg82 Tryz.sizeOf82 rfl rfl (SlF.whole (SlF.st0 f_s hs3) ?_)) ?_
  · omega
  refine WL.call rfl rfl rfl (Run.callC Tryz.call105 rfl rfl rfl) (k50_ _ _ _ _ _ (SlF.st0 f_p hs3)) ?_
  rintro _ whs7 ⟨rfl, hs7⟩
  replace hs7 := hs3.call0 hs7
  refine ⟨_, rfl, WL.nil (WC.cond rfl (fun h8 => ?_) (fun h8 => ?_))⟩
  ·have qh8 := h8
   try simp only [decide_eq_true_eq, decide_eq_false_iff_not] at qh8
   refine WC.r1 hs7 [] rfl (WC.ret (ibR (tkR (tkR (ibR (tkR ?_))))))
   clear hK6 hK2
   refine rtv rfl rfl hs7 ?_
   rw [findI_some (F := encLink) (by rw [f_s.len]; omega) p1 h8]
  have qh8 := h8
  try simp only [decide_eq_true_eq, decide_eq_false_iff_not] at qh8
  refine WC.skip (hK6 _ _ (WC.region (WL.r 2 hs7 [] rfl (WL.nil (tkN ?_)))))
  refine ⟨sbF rfl, hs7, _, ?_, i + 1, rfl, ?_, ?_, ⟨rfl, trivial⟩⟩
  · omega
  · omega
  · intro j hj; rcases Nat.lt_or_ge j i with h_ | h_
    · exact p1 j h_
    · obtain rfl : j = i := by omega
      exact h8
 have qh5 := h5
 try simp only [decide_eq_true_eq, decide_eq_false_iff_not] at qh5
 refine WC.exit (hK2 _ _ (WC.r1 hs3 [] rfl (WC.ret (rtv rfl rfl hs3 ?_))))
 rw [findI_none (F := encLink) (fun j hj => p1 j (by rw [f_s.len] at hj; omega))]
theorem k52_ (v_s : Value) (s : List LinkD) (L_s : Hp) (b_p : Nat) (p : ByteArray) (w : World) (o_s : OwnF encLink 82 v_s s L_s) (h_s : Hh w L_s) (f_p : SlF encS w (some ⟨b_p, 0, none⟩) 1 [p]) (s_p : b_p ∉ L_s.map (·.1)) (hn : s.length ≤ 268435456) :
    Calls Tryz.prog 104 #[v_s, .func (.func 105) #[] #[.pointer (some ⟨b_p, 0, none⟩)]] w fun e w' => ∃ A c L1, e = .returned (.slice A (s.filter (fun x => !isN p x)).length c) ∧ St w (L_s.map (·.1)) L1 w' ∧ OwnF encLink 82 (.slice A (s.filter (fun x => !isN p x)).length c) (s.filter (fun x => !isN p x)) L1 := by
 obtain ⟨A_s, c_s, rfl⟩ := o_s.shape
 refine enter 42 Tryz.func104 rfl Tryz.ntmps104 rfl rfl ?_
 have hs1 := St.lent1 w L_s o_s h_s
 refine WC.r1 hs1 [] rfl ?_
 refine WC.sr ?_
 refine WL.r 2 hs1 [] rfl ?_
 refine WL.cl Tryz.call86 rfl (k51_ _ _ _ _ _ _ _ (SlF.ofOwn o_s (hs1.ow L_s)) (SlF.st f_p hs1 (fun _ => s_p)) ?_) ?_
 · first | assumption | rfl | omega
 rintro _ whs2 ⟨rfl, hs2⟩
 replace hs2 := hs1.call0 hs2
 refine ⟨_, rfl, ?_⟩
 refine WL.r 1 hs2 [] rfl ?_
 refine WL.nil ?_
 refine WC.seq (fun K3 hK3 => ?_)
 refine WC.r1 hs2 [] rfl ?_
 refine WC.cq rfl (fun h4 qh4 => ?_) (fun h4 qh4 => ?_)
 ·have hall : s.filter (fun x => !isN p x) = s := by
    rcases findI_cases (p := (isN p)) (xs := s) with ⟨_, h1_⟩ | ⟨i1, _, h1_, _⟩
    · exact List.filter_eq_self.2 (fun x hx => by have h9 := h1_ x hx; simpa using h9)
    · omega
  refine WC.r1 hs2 [] rfl ?_
  refine WC.ret ?_
  refine tkR ?_
  clear hK3
  refine retV1 rfl (resV.tmp rfl) ?_
  have hx_ := OwnF.eqOf (xs := s.filter (fun x => !isN p x)) o_s (by rw [hall])
  rw [← hx_]
  first | exact ⟨_, _, _, rfl, (St.keep1 hs2), o_s⟩ | exact ⟨A_s, c_s, _, by rw [OwnF.len_ o_s], (St.keep1 hs2), by rw [OwnF.len_ o_s]; exact o_s⟩
 obtain ⟨i0, hi0, hf0, hp0, hb0⟩ : ∃ i0 : Nat, ∃ hi : i0 < s.length, findI (isN p) s = (i0 : Int) ∧ (isN p) s[i0] = true ∧ ∀ j (hj : j < i0), (isN p) (s[j]'(by omega)) = false := by
   rcases findI_cases (p := (isN p)) (xs := s) with ⟨h1_, _⟩ | ⟨i1, hi, h1_, h2_, h3_⟩
   · omega
   · exact ⟨i1, hi, h1_, h2_, h3_⟩
 rw [hf0]
 have hinit : s.take i0 = (s.take (i0 + 1)).filter (fun x => !isN p x) := by
   rw [filter_take (F := encLink) hi0]
   have hg : gat encLink s i0 = s[i0] := by have e_ := gat_get (F := encLink) hi0; rw [List.getElem?_eq_getElem hi0] at e_; exact (Option.some.inj e_).symm
   rw [if_neg (by rw [hg]; simpa using hp0), List.append_nil]
   symm
   refine List.filter_eq_self.2 (fun x hx => ?_)
   obtain ⟨j, hj, rfl⟩ := List.mem_iff_getElem.1 hx
   rw [List.length_take] at hj
   rw [List.getElem_take]
   have h9 := hb0 j (by omega)
   simpa using h9
 refine WC.skip ?_
 refine hK3 _ _ ?_
 refine WC.seq (fun K5 hK5 => ?_)
 refine WC.r1 hs2 [] rfl ?_
 refine WC.block ?_
 refine WC.lO [1, 4, 12] rfl hs2 (fun k_ f L_ => ∃ (zs : List LinkD) (i j : Nat), k_ = s.length - j ∧ (i < j) ∧ (j ≤ s.length) ∧ (zs.length = s.length) ∧ (zs.take i = (s.take j).filter (fun x => !isN p x)) ∧ (∀ k, j ≤ k → gat encLink zs k = gat encLink s k) ∧ OwnF encLink 82 (.slice A_s (s.length) c_s) (zs) L_ ∧ Sub [(0, .slice A_s (s.length) c_s), (5, .int .i64 i), (6, .int .i64 j)] f) (((fun (zs : List LinkD) (i j : Nat) => s.length - j) (s) (i0) ((i0 + 1)))) ?_ ?_
 ·refine ⟨s, i0, (i0 + 1), rfl, ?_, ?_, ?_, ?_, ?_, o_s, ⟨rfl, rfl, rfl, trivial⟩⟩
  · omega
  · omega
  · rfl
  · exact hinit
  · exact fun k _ => rfl
 clear hs2
 rintro _ f w L8 ⟨zs, i, j, rfl, p0, p1, p2, p3, p4, ho9, hG⟩ hF hs10
 refine WC.sub _ (hG.app hF) ?_
 clear hG hF
 refine WC.seq (fun K11 hK11 => ?_)
 refine WC.r1 hs10 [] rfl ?_
 refine WC.cq rfl (fun h12 qh12 => ?_) (fun h12 qh12 => ?_)
 ·refine WC.skip ?_
  refine hK11 _ _ ?_
  refine WC.seq (fun K13 hK13 => ?_)
  refine WC.block ?_
  refine WC.sr ?_
  refine WL.r 2 hs10 [] rfl ?_
  refine WL.val rfl rfl rfl (Run.idxN Tryz.runUnderlying33 Tryz.sizeOf82 rfl rfl rfl ?_ ?_ ?_) ?_
  · exact SlF.some_ (SlF.ofOwn ho9 (hs10.ow L8))
  · omega
  · omega
  refine WL.val rfl rfl rfl (Run.loadA Tryz.isAgg82 Tryz.sizeOf82 rfl rfl (SlF.whole (SlF.ofOwn ho9 (hs10.ow L8)) ?_)) ?_
  · omega
  refine WL.al hs10 Tryz.zeroValue82 rfl rfl (fun b14 _ hs15 => ?_)
  refine WL.st tbk hs15 0 rfl rfl (fun _ hs16 => ?_)
  refine WL.nil ?_
  refine WC.sr ?_
  refine WL.r 2 hs16 [0] rfl ?_
  refine WL.call rfl rfl rfl (Run.callC Tryz.call105 rfl rfl rfl) (k50_ _ _ _ _ _ (SlF.st f_p hs16 (fun _ => s_p))) ?_
  rintro _ whs17 ⟨rfl, hs17⟩
  replace hs17 := hs16.call0 hs17
  refine ⟨_, rfl, ?_⟩
  refine WL.r 1 hs17 [] rfl ?_
  refine WL.nil ?_
  refine WC.cq rfl (fun h18 qh18 => ?_) (fun h18 qh18 => ?_)
  ·refine WC.sr ?_
   refine WL.r 3 hs17 [0] rfl ?_
   refine WL.val rfl rfl rfl (Run.idxN Tryz.runUnderlying33 Tryz.sizeOf82 rfl rfl rfl ?_ ?_ ?_) ?_
   · exact SlF.some_ (SlF.ofOwn ho9 (hs17.ow L8))
   · omega
   · omega
   refine WL.storeF1 (x' := (gat encLink zs j)) (hs17.fr L8) ho9 Tryz.sizeOf82 rfl rfl rfl rfl rfl rfl rfl rfl rfl ?_ rfl (fun L19 whs20 hs20 ho21 _ => ?_)
   · omega
   replace hs20 := St.back [_] hs20
   refine WL.nil ?_
   refine WC.region ?_
   refine WL.r 3 hs20 [] rfl ?_
   refine WL.nil ?_
   refine hK13 _ _ ?_
   refine WC.region ?_
   refine WL.r 3 hs20 [] rfl ?_
   refine WL.nil ?_
   refine tkN ?_
   replace hs20 := hs20.d1
   refine ⟨sbF rfl, _, hs20, _, ?_, _, (i + 1), (j + 1), rfl, ?_, ?_, ?_, ?_, ?_, ho21, ⟨rfl, rfl, rfl, trivial⟩⟩
   · omega
   · omega
   · omega
   · first | omega | (rw [List.length_set]; omega)
   · first | (rw [set_take (by omega), p3, filter_take (F := encLink) (by omega), if_pos (by rw [← p4 j (Nat.le_refl _)]; simpa using h18), p4 j (Nat.le_refl _)]) | (rw [p3, filter_take (F := encLink) (by omega), if_neg (by rw [← p4 j (Nat.le_refl _)]; simpa using h18), List.append_nil])
   · intro k hk; first | (rw [gat_set_ne (by omega)]; exact p4 k (by omega)) | exact p4 k (by omega)
  refine WC.skip ?_
  refine hK13 _ _ ?_
  refine WC.region ?_
  refine WL.r 3 hs17 [] rfl ?_
  refine WL.nil ?_
  refine tkN ?_
  replace hs17 := hs17.d1
  refine ⟨sbF rfl, _, hs17, _, ?_, _, i, (j + 1), rfl, ?_, ?_, ?_, ?_, ?_, ho9, ⟨rfl, rfl, rfl, trivial⟩⟩
  · omega
  · omega
  · omega
  · first | omega | (rw [List.length_set]; omega)
  · first | (rw [set_take (by omega), p3, filter_take (F := encLink) (by omega), if_pos (by rw [← p4 j (Nat.le_refl _)]; simpa using h18), p4 j (Nat.le_refl _)]) | (rw [p3, filter_take (F := encLink) (by omega), if_neg (by rw [← p4 j (Nat.le_refl _)]; simpa using h18), List.append_nil])
  · intro k hk; first | (rw [gat_set_ne (by omega)]; exact p4 k (by omega)) | exact p4 k (by omega)
 refine WC.exit ?_
 refine hK5 _ _ ?_
 refine WC.sr ?_
 refine WL.r 2 hs10 [] rfl ?_
 have hc_ := OwnF.cap ho9
 refine WL.val rfl rfl rfl (Run.sliceL (i) Tryz.runUnderlying33 Tryz.sizeOf82 rfl rfl rfl ?_ ?_) ?_
 · first | rfl | (omega)
 · refine ⟨?_, ?_, ?_⟩ <;> (omega)
 refine WL.clearF (lo := i) hs10 ho9 Tryz.underlying33 Tryz.zeroValue82 rfl rfl rfl rfl rfl ?_ (fun L22 whs23 hs23 ho24 _ => ?_)
 · omega
 refine WL.nil ?_
 refine WC.sr ?_
 refine WL.r 2 hs23 [] rfl ?_
 have ho25 := OwnF.take (k := i) ho24 (by omega)
 have hcho25 := OwnF.cap ho25
 refine WL.val rfl rfl rfl (Run.sliceH0 (i) Tryz.runUnderlying33 Tryz.sizeOf82 rfl rfl rfl ?_ ?_) ?_
 · first | rfl | (omega)
 · first | (exact Nat.zero_le _) | (omega)
 refine WL.r 1 hs23 [] rfl ?_
 refine WL.nil ?_
 refine WC.ret ?_
 refine retV1 rfl (resV.tmp rfl) ?_
 have hx_ := OwnF.eqOf (xs := s.filter (fun x => !isN p x)) ho25 (by first | (rw [List.take_left' (by rw [List.length_take]; omega), p3, List.take_of_length_le (by omega)]) | (rw [List.take_append_of_le_length (by rw [List.length_take]; omega), List.take_take, Nat.min_self, p3, List.take_of_length_le (by omega)]))
 rw [← hx_]
 first | exact ⟨_, _, _, rfl, (St.keep1 hs23), ho25⟩ | exact ⟨A_s, c_s, _, by rw [OwnF.len_ ho25], (St.keep1 hs23), by rw [OwnF.len_ ho25]; exact ho25⟩
theorem k53_ (A_dir : Option Addr) (n_dir c_dir : Nat) (dir : List LinkD) (name : ByteArray) (w : World) (f_dir : SlF encLink w A_dir n_dir dir) (hn : n_dir ≤ 1048576) :
    Calls Tryz.prog 96 #[.slice A_dir n_dir c_dir, .string name] w fun e w' => ∃ A c L1, e = .returned (.slice A (lessL dir name).length c) ∧ St w [] L1 w' ∧ OwnF encLink 82 (.slice A (lessL dir name).length c) (lessL dir name) L1 := by
 have hl := f_dir.len
 refine enter 9 Tryz.func96 rfl Tryz.ntmps96 rfl rfl ?_
 have hs1 := St.init w
 refine WC.sr (WL.bx hs1 rfl (fun b2 _ hs3 => WL.r 1 hs3 [] rfl (WL.nil (WC.sr (WL.r 1 hs3 [] rfl ?_)))))
 refine WL.cl Tryz.call65 rfl (k49_ _ _ _ _ _ (SlF.st0 f_dir hs3) ?_) ?_
 · first | assumption | rfl | omega
 rintro _ whs4 ⟨A5, c6, L1_7, rfl, hs4, ho8⟩
 replace hs4 := hs3.callF hs4
 refine ⟨_, rfl, ?_⟩
 replace hs4 := St.back [_] hs4
 refine WL.val rfl rfl rfl (Run.makeFunc rfl rfl) (WL.cl Tryz.call104 rfl (k52_ _ _ _ _ _ _ ho8 (hs4.ow L1_7) (SlF.own1 (hs4.own _ (nthL_mem (i := 0) rfl)).1) (St.sepOwn (hs4.fr L1_7) (nthL_mem (i := 0) rfl)) ?_) ?_)
 · first | assumption | rfl | omega
 rintro _ whs9 ⟨A10, c11, L1_12, rfl, hs9, ho13⟩
 replace hs9 := St.lend (hs4.fr L1_7) hs9
 refine ⟨_, rfl, ?_⟩
 replace hs9 := St.back [_] hs9
 refine WL.r 1 hs9 [] rfl (WL.nil (WC.ret (retV1 rfl (resV.tmp rfl) ?_)))
 have hx_ := OwnF.eqOf (xs := lessL dir name) ho13 (by rfl)
 rw [← hx_]
 first | exact ⟨_, _, _, rfl, (St.keep1 (hs9.fr L1_12)), ho13⟩ | exact ⟨A10, c11, _, by rw [OwnF.len_ ho13], (St.keep1 (hs9.fr L1_12)), by rw [OwnF.len_ ho13]; exact ho13⟩
open Go Go.RowKit Go.Sort
theorem mapBlock_get {w : World} {b : Nat} {f : Array Value → Array Value} {k : Nat} : (mapBlock w b f).heap[k]? = if k = b then (w.heap[k]?).map (onCells f) else w.heap[k]? := by
 unfold mapBlock
 simp only [Array.getElem?_modify]
 by_cases h : b = k
 ·subst h; simp
 ·rw [if_neg h, if_neg (fun e => h e.symm)]
theorem rows_int (l : List Int) : rows encI l = l.map (Value.int .i64) := by
 induction l with
 | nil => rfl
 | cons x r ih => rw [rows_cons, ih]; rfl
theorem putCells_row {pre cl : List Value} {zs : List Int} (h : zs.length ≤ cl.length) : putCells (Value.int .i64) pre.length zs.toArray (pre ++ cl).toArray = (pre ++ (rows encI zs ++ cl.drop zs.length)).toArray := by
 apply Array.toList_inj.1
 rw [rows_int]
 apply List.ext_getElem?
 intro k
 simp only [putCells, Array.toList_mapIdx, List.getElem?_mapIdx, List.getElem?_append, List.length_map, List.getElem?_drop, List.size_toArray]
 by_cases hp : k < pre.length
 ·have h1 : ¬ (pre.length ≤ k ∧ k < pre.length + zs.length) := by omega
  simp [hp, h1, List.getElem?_eq_getElem hp]
 ·by_cases hk : k - pre.length < zs.length
  ·have hk' : k - pre.length < cl.length := by omega
   have h1 : pre.length ≤ k ∧ k < pre.length + zs.length := by omega
   simp [hp, hk, h1, List.getElem?_eq_getElem hk', List.getElem?_eq_getElem hk]
  ·have e : zs.length + (k - pre.length - zs.length) = k - pre.length := by omega
   have h1 : ¬ (pre.length ≤ k ∧ k < pre.length + zs.length) := by omega
   simp [hp, hk, h1, e]
theorem sort_own {P : Program} {g3 : TypeId} {fid : FuncId} {v : Value} {xs : List Int} {L : Hp} {w : World} {srt : List Int → List Int} (hperm : ∀ l, (srt l).length = l.length)
  (hs : ∀ (blk off cap : Nat) (zs : List Int) (w : World), Holds (Value.int .i64) w blk off zs.toArray → blk < w.heap.size → zs.length < 4611686018427387904 →
   Calls P fid #[.slice (some ⟨blk, off, none⟩) zs.length cap] w fun e w' => e = .returned (.tuple #[]) ∧ ∃ n os, w' = grow (putRow (Value.int .i64) (Sort.ahead w n) blk off (srt zs).toArray) os)
  (hn : ∀ (p : Option Addr) (cap : Nat) (w : World), Calls P fid #[.slice p 0 cap] w fun e w' => e = .returned (.tuple #[]) ∧ w' = w)
  (h : OwnF encI g3 v xs L) (hh : ∀ p, p ∈ L → w.heap[p.1]? = some p.2) (hx : xs.length ≤ 268435456) :
  Calls P fid #[v] w fun e w' => ∃ L1, e = .returned (.tuple #[]) ∧ St w (L.map (·.1)) L1 w' ∧ OwnF encI g3 v (srt xs) L1 := by
 have hkeys := h.keys
 by_cases h0 : xs.length = 0
 ·obtain ⟨A, c, rfl⟩ := h.shape
  have e : xs = [] := List.eq_nil_of_length_eq_zero h0
  have e2 : srt xs = [] := List.eq_nil_of_length_eq_zero (by rw [hperm]; exact h0)
  rw [h0]
  refine (hn A c w).mono fun e' w' ⟨he, hw⟩ => ?_
  subst hw
  refine ⟨L, he, St.take _ L hh hkeys, ?_⟩
  rw [e2]
  have := h
  rw [h0, e] at this
  exact this
 ·rcases h.2 with ⟨⟨A', hv⟩, h0', rfl⟩ | ⟨g, cap, o, pre, cl, ⟨lo, hi⟩, hv, rfl, hcap, hcm, hcl, ht, hfz, rfl⟩
  ·omega
  ·subst hv
   have hg := hh _ List.mem_cons_self
   simp only at hg
   have hsz : encI.sz = 1 := rfl
   simp only [hsz, Nat.mul_one] at hcl ht
   have hget : ∀ j (hj : j < xs.length), cl[j]? = some (Value.int .i64 xs[j]) := by
    intro j hj
    have : (cl.take xs.length)[j]? = (rows encI xs)[j]? := by rw [ht]
    rw [List.getElem?_take, if_pos hj] at this
    rw [this, rows_int]
    simp [List.getElem?_eq_getElem hj]
   have hold : Holds (Value.int .i64) w g pre.length xs.toArray := by
    intro j hj
    have hj' : j < xs.length := by simpa using hj
    refine ⟨?_, ?_⟩
    ·refine cell_of_heap hg ?_
     have e1 : (pre ++ cl)[pre.length + j]? = cl[j]? := by rw [List.getElem?_append_right (by omega), Nat.add_sub_cancel_left]
     rw [e1, hget j hj']
     simp [hj']
    ·simp only [World.frozen?, hg]
     rw [List.length_append] at hfz
     rcases hfz with h | h
     ·simp; omega
     ·simp; omega
   refine (hs g pre.length cap xs w hold (lt_of_heap hg) (by omega)).mono fun e' w' ⟨he, n, os, hw⟩ => ?_
   have hget' : ∀ k, k < w.heap.size → w'.heap[k]? = (mapBlock (Sort.ahead w n) g (putCells (Value.int .i64) pre.length (srt xs).toArray)).heap[k]? := by
    intro k hk
    rw [hw]
    show ((mapBlock (Sort.ahead w n) g (putCells (Value.int .i64) pre.length (srt xs).toArray)).heap ++ os)[k]? = _
    rw [Array.getElem?_append_left]
    unfold mapBlock
    simpa using hk
   have hsize : w.heap.size ≤ w'.heap.size := by
    rw [hw]
    show _ ≤ ((mapBlock (Sort.ahead w n) g (putCells (Value.int .i64) pre.length (srt xs).toArray)).heap ++ os).size
    unfold mapBlock
    simp [Sort.ahead]
   have hlen := hperm xs
   have hnew : w'.heap[g]? = some (.cells (pre ++ (rows encI (srt xs) ++ cl.drop (srt xs).length)).toArray g3 (lo, hi)) := by
    rw [hget' g (lt_of_heap hg), mapBlock_get, if_pos rfl]
    show (w.heap[g]?).map _ = _
    rw [hg]
    simp only [Option.map_some, onCells]
    rw [putCells_row (by omega)]
   refine ⟨[(g, .cells (pre ++ (rows encI (srt xs) ++ cl.drop (srt xs).length)).toArray g3 (lo, hi))], he, ⟨by rw [hw]; rfl, by rw [hw]; rfl, by rw [hw]; rfl, hsize, fun k hk hT => ?_, fun p hp => ?_, by simp⟩, ?_⟩
   ·rw [hget' k hk, mapBlock_get, if_neg (by intro e; apply hT; simp [e])]
    rfl
   ·simp at hp
    subst hp
    exact ⟨hnew, .inr (by simp)⟩
   ·refine ⟨by rw [rows_len], .inr ⟨g, cap, pre.length, pre, _, (lo, hi), by rw [hlen], rfl, by rw [hlen]; exact hcap, hcm, ?_, ?_, ?_, rfl⟩⟩
    ·rw [List.length_append, rows_len, List.length_drop, hlen, hsz]; omega
    ·rw [hsz, Nat.mul_one, List.take_append_of_le_length (by rw [rows_len, hsz]; omega), List.take_of_length_le (by rw [rows_len, hsz]; omega)]
    ·rcases hfz with h | h
     ·exact .inl h
     ·refine .inr ?_
      rw [List.length_append] at h ⊢
      simp only [List.length_append, rows_len, List.length_drop, hlen, hsz]; omega
open Go.Shelf
open Go.RowKit in
def Tryz.lays106_ren : Go.Shelf.Ren := ⟨fun | 106 => 102 | 213 => 118 | 265 => 128 | n => n, fun | 9 => 9 | 3 => 3 | n => n, fun | n => n⟩
theorem Tryz.lays106 : Go.Proofs.Lays.n106 Tryz.prog Tryz.lays106_ren := {
  mixed := by kernel_rfl
  f106 := Tryz.func102.trans (congrArg some (by kernel_rfl))
  f213 := Tryz.func118.trans (congrArg some (by kernel_rfl))
  f265 := Tryz.func128.trans (congrArg some (by kernel_rfl))
  t3 := Tryz.underlying3
  a3 := Tryz.isAgg3
  z3 := Tryz.sizeOf3
  v3 := Tryz.zeroValue3
  t9 := Tryz.underlying9
  a9 := Tryz.isAgg9
  z9 := Tryz.sizeOf9
  v9 := Tryz.zeroValue9 }
open Go.RowKit in
theorem Tryz.strings_Compare (a b : ByteArray) (w : World) :
    Calls Tryz.prog 102 #[.string a, .string b] w fun e w' => e = .returned (.int .i64 (Lib.compareBytes a.data.toList b.data.toList)) ∧ w' = w := Any.strings_Compare Tryz.lays106 a b w
open Go.RowKit in
open Go.RowKit in
open Go.RowKit Go.Lib in
def Tryz.lays189_ren : Go.Shelf.Ren := ⟨fun | 189 => 82 | 125 => 98 | 257 => 97 | 128 => 115 | 129 => 116 | 294 => 106 | 295 => 107 | 296 => 108 | 297 => 109 | 298 => 110 | 299 => 111 | 216 => 112 | 300 => 113 | 301 => 114 | 328 => 121 | 329 => 122 | 330 => 123 | 331 => 124 | 332 => 125 | 215 => 126 | 343 => 130 | n => n, fun | 28 => 81 | 3 => 3 | 46 => 125 | 0 => 0 | 51 => 142 | 53 => 144 | 4 => 4 | 183 => 135 | 182 => 134 | 131 => 127 | 5 => 5 | 9 => 9 | 218 => 146 | 222 => 150 | 228 => 152 | 229 => 153 | n => n, fun | n => n⟩
theorem Tryz.lays189 : Go.Proofs.Lays.n189 Tryz.prog Tryz.lays189_ren := {
  mixed := by kernel_rfl
  f125 := Tryz.func98.trans (congrArg some (by kernel_rfl))
  f128 := Tryz.func115.trans (congrArg some (by kernel_rfl))
  f129 := Tryz.func116.trans (congrArg some (by kernel_rfl))
  f189 := Tryz.func82.trans (congrArg some (by kernel_rfl))
  f215 := Tryz.func126.trans (congrArg some (by kernel_rfl))
  f216 := Tryz.func112.trans (congrArg some (by kernel_rfl))
  f257 := Tryz.func97.trans (congrArg some (by kernel_rfl))
  f294 := Tryz.func106.trans (congrArg some (by kernel_rfl))
  f295 := Tryz.func107.trans (congrArg some (by kernel_rfl))
  f296 := Tryz.func108.trans (congrArg some (by kernel_rfl))
  f297 := Tryz.func109.trans (congrArg some (by kernel_rfl))
  f298 := Tryz.func110.trans (congrArg some (by kernel_rfl))
  f299 := Tryz.func111.trans (congrArg some (by kernel_rfl))
  f300 := Tryz.func113.trans (congrArg some (by kernel_rfl))
  f301 := Tryz.func114.trans (congrArg some (by kernel_rfl))
  f328 := Tryz.func121.trans (congrArg some (by kernel_rfl))
  f329 := Tryz.func122.trans (congrArg some (by kernel_rfl))
  f330 := Tryz.func123.trans (congrArg some (by kernel_rfl))
  f331 := Tryz.func124.trans (congrArg some (by kernel_rfl))
  f332 := Tryz.func125.trans (congrArg some (by kernel_rfl))
  f343 := Tryz.func130.trans (congrArg some (by kernel_rfl))
  t0 := Tryz.underlying0
  a0 := Tryz.isAgg0
  z0 := Tryz.sizeOf0
  v0 := Tryz.zeroValue0
  t3 := Tryz.underlying3
  a3 := Tryz.isAgg3
  z3 := Tryz.sizeOf3
  v3 := Tryz.zeroValue3
  t4 := Tryz.underlying4
  a4 := Tryz.isAgg4
  z4 := Tryz.sizeOf4
  v4 := Tryz.zeroValue4
  t5 := Tryz.underlying5
  a5 := Tryz.isAgg5
  z5 := Tryz.sizeOf5
  v5 := Tryz.zeroValue5
  t9 := Tryz.underlying9
  a9 := Tryz.isAgg9
  z9 := Tryz.sizeOf9
  v9 := Tryz.zeroValue9
  t28 := Tryz.underlying81
  a28 := Tryz.isAgg81
  z28 := Tryz.sizeOf81
  v28 := Tryz.zeroValue81
  t46 := Tryz.underlying125
  a46 := Tryz.isAgg125
  z46 := Tryz.sizeOf125
  v46 := Tryz.zeroValue125
  t51 := Tryz.underlying142
  a51 := Tryz.isAgg142
  z51 := Tryz.sizeOf142
  v51 := Tryz.zeroValue142
  t53 := Tryz.underlying144
  a53 := Tryz.isAgg144
  z53 := Tryz.sizeOf144
  v53 := Tryz.zeroValue144
  t131 := Tryz.underlying127
  a131 := Tryz.isAgg127
  z131 := Tryz.sizeOf127
  v131 := Tryz.zeroValue127
  t182 := Tryz.underlying134
  a182 := Tryz.isAgg134
  z182 := Tryz.sizeOf134
  v182 := Tryz.zeroValue134
  t183 := Tryz.underlying135
  a183 := Tryz.isAgg135
  z183 := Tryz.sizeOf135
  v183 := Tryz.zeroValue135
  t218 := Tryz.underlying146
  a218 := Tryz.isAgg146
  z218 := Tryz.sizeOf146
  v218 := Tryz.zeroValue146
  t222 := Tryz.underlying150
  a222 := Tryz.isAgg150
  z222 := Tryz.sizeOf150
  v222 := Tryz.zeroValue150
  t228 := Tryz.underlying152
  a228 := Tryz.isAgg152
  z228 := Tryz.sizeOf152
  v228 := Tryz.zeroValue152
  t229 := Tryz.underlying153
  a229 := Tryz.isAgg153
  z229 := Tryz.sizeOf153
  v229 := Tryz.zeroValue153 }
open Go.Sort Go.RowKit in
theorem Tryz.slices_Sort_int (blk off cap : Nat) (zs : List Int) (w : World) (hH : Holds (Value.int .i64) w blk off zs.toArray) (hblk : blk < w.heap.size) (hsz : zs.length < 4611686018427387904) :
    Calls Tryz.prog 82 #[.slice (some ⟨blk, off, none⟩) zs.length cap] w fun e w' =>
      e = .returned (.tuple #[]) ∧ ∃ n os, w' = grow (putRow (Value.int .i64) (Sort.ahead w n) blk off (zs.mergeSort fun x y => decide (x ≤ y)).toArray) os := Any.slices_Sort_int Tryz.lays189 blk off cap zs w hH hblk hsz
open Go.RowKit Go.Lib in
open Go.RowKit Go.Lib in
open Go.RowKit Go.Sort in
theorem Tryz.slices_Sort_int_none (p : Option Addr) (cap : Nat) (w : World) :
    Calls Tryz.prog 82 #[.slice p 0 cap] w fun e w' => e = .returned (.tuple #[]) ∧ w' = w := Any.slices_Sort_int_none Tryz.lays189 p cap w
section
theorem k54_ (v_s : Value) (s : List Int) (L_s : Hp) (w : World) (o_s : OwnF encI 3 v_s s L_s) (h_s : Hh w L_s) (hn : s.length ≤ 268435456) :
    Calls Tryz.prog 82 #[v_s] w fun e w' => ∃ L1, e = .returned (.tuple #[]) ∧ St w (L_s.map (·.1)) L1 w' ∧ OwnF encI 3 v_s (sortI s) L1 :=
  sort_own (srt := sortI) sortI_len (fun b o c zs w h1 h2 h3 => Tryz.slices_Sort_int b o c zs w h1 h2 h3) Tryz.slices_Sort_int_none o_s h_s hn
theorem k55_ (a b : ByteArray) (w : World) : Calls Tryz.prog 102 #[.string a, .string b] w fun e w' => e = .returned (.int .i64 (cmpS a b)) ∧ St w [] [] w' := by
  refine (Tryz.strings_Compare a b w).mono ?_
  rintro e w' ⟨rfl, rfl⟩
  exact ⟨rfl, St.init _⟩
end
theorem k56_ (a_Name : ByteArray) (a_Id : Int) (b_Name : ByteArray) (b_Id : Int) (w : World) :
    Calls Tryz.prog 101 #[.agg #[.string a_Name, i64 a_Id], .agg #[.string b_Name, i64 b_Id]] w fun e w' => e = .returned (.int .i64 (cmpS a_Name b_Name)) ∧ St w [] [] w' := by
 refine enter 10 Tryz.func101 rfl Tryz.ntmps101 rfl rfl ?_
 have hs1 := St.init w
 refine WC.sr (WL.bx hs1 rfl (fun b2 _ hs3 => WL.bx hs3 rfl (fun b4 _ hs5 => WL.r 1 hs5 [] rfl (WL.nil (WC.sr (WL.r 4 hs5 [1, 0] rfl (WL.cl Tryz.call102 rfl (k55_ _ _ _) ?_)))))))
 rintro _ whs6 ⟨rfl, hs6⟩
 replace hs6 := hs5.call0 hs6
 refine ⟨_, rfl, WL.r 1 hs6 [] rfl (WL.nil (WC.ret (rtv rfl rfl hs6 ?_)))⟩
 rfl
theorem k57_ (A_s : Option Addr) (n_s c_s : Nat) (s : List LinkD) (x_Name : ByteArray) (x_Id : Int) (w : World) (f_s : SlF encLink w A_s n_s s) (hp : sortedL s) (hn : n_s ≤ 1048576) :
    Calls Tryz.prog 100 #[.slice A_s n_s c_s, .agg #[.string x_Name, i64 x_Id], .func (.func 101) #[] #[]] w fun e w' => e = .returned (.tuple #[.int .i64 (lowN s x_Name : Nat), .bool (decide (lowN s x_Name < n_s) && decide (cmpS (gat encLink s (lowN s x_Name)).Name x_Name = 0))]) ∧ St w [] [] w' := by
 have hl := f_s.len
 refine enter 49 Tryz.func100 rfl Tryz.ntmps100 rfl rfl ?_
 have hs1 := St.init w
 refine WC.sr (WL.bx hs1 rfl (fun b2 _ hs3 => WL.r 2 hs3 [] rfl (WL.nil (WC.r1 hs3 [] rfl (WC.r1 hs3 [] rfl (WC.seq (fun K4 hK4 => WC.block ?_)))))))
 refine WC.lS [0, 2, 4, 6, 7, 8] rfl hs3 (fun k_ f w' => ∃ (i j : Nat), k_ = j - i ∧ (i ≤ j) ∧ (j ≤ n_s) ∧ (∀ k, k < i → cmpS (gat encLink s k).Name x_Name < 0) ∧ (∀ k, j ≤ k → k < n_s → 0 ≤ cmpS (gat encLink s k).Name x_Name) ∧ Sub [(9, .int .i64 i), (10, .int .i64 j)] f) ((fun (i j : Nat) => j - i) (0) (n_s)) ?_ ?_
 ·refine ⟨0, n_s, rfl, ?_, ?_, ?_, ?_, ⟨rfl, rfl, trivial⟩⟩
  · exact Nat.zero_le _
  · exact Nat.le_refl _
  · exact fun k hk => absurd hk (by omega)
  · exact fun k h1 h2 => absurd h1 (by omega)
 clear hs3
 rintro _ f w ⟨i, j, rfl, p0, p1, p2, p3, hG⟩ hF hs5
 refine WC.sub _ (hG.app hF) ?_
 clear hG hF
 refine WC.seq (fun K6 hK6 => WC.r1 hs5 [] rfl ?_)
 refine WC.cq rfl (fun h7 qh7 => ?_) (fun h7 qh7 => ?_)
 ·have hij : i < j := by have h9 := h7; simpa using h9
  refine WC.skip (hK6 _ _ (WC.block (WC.sr (WL.r 3 hs5 [] rfl ?_))))
  refine WL.val rfl rfl rfl (Run.asN ((i + j)) (Run.conv Tryz.runUnderlying3 Tryz.runUnderlying125 rfl rfl) ?_) ?_
  · exact wrapU _ (by omega) (by omega)
  refine WL.val rfl rfl rfl (Run.shrU ((i + j)) ((i + j) / 2) rfl rfl rfl ?_ ?_ ?_) ?_
  · omega
  · omega
  · (show (i + j) / 2 ^ (1 : Int).toNat = (i + j) / 2; rfl)
  refine WL.val rfl rfl rfl (Run.asN (((i + j) / 2)) (Run.conv Tryz.runUnderlying125 Tryz.runUnderlying3 rfl rfl) ?_) ?_
  · exact wrap_in (by constructor <;> omega)
  refine WL.r 1 hs5 [] rfl (WL.nil (WC.seq (fun K8 hK8 => WC.rH hs5 hs5 (fun _ hs9 => ?_))))
  refine WH.rn [0, 1, 2] hs9 [] rfl rfl ?_
  refine WH.take 3 rfl (by kernel_rfl) rfl rfl rfl hs9 (fun w_ hs_ => (Run.idxK (((i + j) / 2)) Tryz.runUnderlying33 Tryz.sizeOf82 rfl rfl rfl ?_ ?_ ?_)) ?_
  · exact SlF.some_ (SlF.st0 f_s (hs_ : St _ _ _ _))
  · first | omega | (simp only [decide_eq_true_eq] at *; omega)
  · first | omega | (simp only [decide_eq_true_eq] at *; omega)
  refine WH.take 4 rfl (by kernel_rfl) rfl rfl rfl hs9 (fun w_ hs_ => (Run.loadA Tryz.isAgg82 Tryz.sizeOf82 rfl rfl (SlF.whole (SlF.st0 f_s (hs_ : St _ _ _ _)) ?_))) ?_
  · first | omega | (simp only [decide_eq_true_eq] at *; omega)
  refine WH.rn [5] hs9 [0] rfl rfl (WH.o1 6 rfl (WL.cl Tryz.call101 rfl (k56_ _ _ _ _ _) ?_))
  rintro _ whs10 ⟨rfl, hs10⟩
  replace hs10 := hs9.call0 hs10
  refine ⟨_, rfl, WL.nil ⟨hs10, WH.rn [7] hs10 [] rfl rfl (WH.dn (hK8 _ _ ?_))⟩⟩
  refine WC.cq rfl (fun h11 qh11 => ?_) (fun h11 qh11 => ?_)
  ·have hcl : cmpS (gat encLink s ((i + j) / 2)).Name x_Name < 0 := by have h9 := h11; simpa using h9
   refine WC.region (WL.r 3 hs10 [] rfl (WL.nil (ibN (tkN (⟨sbF rfl, hs10, _, ?_, ((i + j) / 2) + 1, j, rfl, ?_, ?_, ?_, ?_, ⟨rfl, rfl, trivial⟩⟩)))))
   · omega
   · omega
   · omega
   · first | exact p2 | (intro k hk; exact bs_low hp (by omega) hcl (by omega))
   · first | exact p3 | (intro k h1 h2; exact bs_high hp h2 hch h1 (hl := hl.symm))
  have hch : 0 ≤ cmpS (gat encLink s ((i + j) / 2)).Name x_Name := by have h9 := h11; simpa using h9
  refine WC.region (WL.r 2 hs10 [] rfl (WL.nil (ibN (tkN (⟨sbF rfl, hs10, _, ?_, i, ((i + j) / 2), rfl, ?_, ?_, ?_, ?_, ⟨rfl, rfl, trivial⟩⟩)))))
  · omega
  · omega
  · omega
  · first | exact p2 | (intro k hk; exact bs_low hp (by omega) hcl (by omega))
  · first | exact p3 | (intro k h1 h2; exact bs_high hp h2 hch h1 (hl := hl.symm))
 have hij : i = j := by have h9 := h7; simp at h9; omega
 subst hij
 have hlow : lowN s x_Name = i := low_at (by omega) p2 (fun h => p3 i (Nat.le_refl _) (by omega))
 refine WC.exit (hK4 _ _ (WC.seq (fun K12 hK12 => WC.rH hs5 hs5 (fun _ hs13 => ?_))))
 refine WH.rn [0, 1, 2, 3, 4] hs13 [] rfl rfl (WH.split 39 rfl (fun g14 => ?_) (fun g14 => ?_))
 ·refine WH.rnA (Acts.nil.cons (j := 4) rfl g14) [5, 6, 7] hs13 [] rfl rfl ?_
  refine WH.take 8 rfl (by kernel_rfl) (wantT rfl g14) rfl rfl hs13 (fun w_ hs_ => (Run.idxK (i) Tryz.runUnderlying33 Tryz.sizeOf82 rfl rfl rfl ?_ ?_ ?_)) ?_
  · exact SlF.some_ (SlF.st0 f_s (hs_ : St _ _ _ _))
  · first | omega | (simp only [decide_eq_true_eq] at *; omega)
  · first | omega | (simp only [decide_eq_true_eq] at *; omega)
  refine WH.take 9 rfl (by kernel_rfl) (wantT rfl g14) rfl rfl hs13 (fun w_ hs_ => (Run.loadA Tryz.isAgg82 Tryz.sizeOf82 rfl rfl (SlF.whole (SlF.st0 f_s (hs_ : St _ _ _ _)) ?_))) ?_
  · first | omega | (simp only [decide_eq_true_eq] at *; omega)
  refine WH.rnA (Acts.nil.cons (j := 4) rfl g14) [10] hs13 [0] rfl rfl (WH.o1 11 rfl (WL.call (wantT rfl g14) rfl rfl (Run.call Tryz.call101 rfl rfl rfl) (k56_ _ _ _ _ _) ?_))
  rintro _ whs15 ⟨rfl, hs15⟩
  replace hs15 := hs13.call0 hs15
  refine ⟨_, rfl, WL.nil ⟨hs15, WH.rnA (Acts.nil.cons (j := 4) rfl g14) [12] hs15 [] rfl rfl ?_⟩⟩
  refine WH.take 13 rfl (by kernel_rfl) rfl rfl rfl hs15 (fun w_ hs_ => (Run.pick rfl rfl rfl rfl)) ?_
  refine WH.rn [14, 15] hs15 [] rfl rfl (WH.dn (hK12 _ _ (WC.ret (retV2 rfl (resV.tmp rfl) (resV.tmp rfl) (⟨congrArg Ending.returned ?_, hs15.nil⟩)))))
  rw [hlow]; first | (simp; done) | (by_cases hh : i < n_s <;> simp [hh] <;> simp_all)
 refine WH.takeSkip 5 rfl (by kernel_rfl) (wantNT rfl g14) rfl rfl hs13 (WH.takeSkip 6 rfl (by kernel_rfl) (wantNT rfl g14) rfl rfl hs13 (WH.takeSkip 7 rfl (by kernel_rfl) (wantNT rfl g14) rfl rfl hs13 (WH.takeSkip 8 rfl (by kernel_rfl) (wantNT rfl g14) rfl rfl hs13 (WH.takeSkip 9 rfl (by kernel_rfl) (wantNT rfl g14) rfl rfl hs13 (WH.takeSkip 10 rfl (by kernel_rfl) (wantNT rfl g14) rfl rfl hs13 (WH.o1 11 rfl (WL.skip (wantNT rfl g14) rfl rfl ?_)))))))
 refine WL.nil ⟨hs13, WH.takeSkip 12 rfl (by kernel_rfl) (wantNT rfl g14) rfl rfl hs13 ?_⟩
 refine WH.take 13 rfl (by kernel_rfl) rfl rfl rfl hs13 (fun w_ hs_ => (Run.pickF rfl rfl g14 rfl)) ?_
 refine WH.rn [14, 15] hs13 [] rfl rfl (WH.dn (hK12 _ _ (WC.ret (retV2 rfl (resV.tmp rfl) (resV.tmp rfl) (⟨congrArg Ending.returned ?_, hs13.nil⟩)))))
 rw [hlow]; first | (simp; done) | (by_cases hh : i < n_s <;> simp [hh] <;> simp_all)
open Go Go.RowKit Go.Shelf
theorem frozen_of_heap {w : World} {b k : Nat} {cl : List Value} {e : TypeId} {lo hi : Nat} (h : w.heap[b]? = some (.cells cl.toArray e (lo, hi))) (hf : hi ≤ lo ∨ hi ≤ k ∨ k < lo) : w.frozen? ⟨b, k, none⟩ = false := by
 simp only [World.frozen?, h, Bool.and_eq_false_iff, decide_eq_false_iff_not]
 omega
section
variable {α : Type} {F : Enc α} {e : TypeId} {A : Option Addr} {m c k : Nat} {xs : List α} {L : Hp}
theorem OwnF.short (h : OwnF F e (.slice A c c) xs L) (hk : k ≤ c) : OwnF F e (.slice A k c) (xs.take k) L := OwnF.take h hk
theorem zeroCells_rows {z : Value} (h : F.enc F.dflt = cellsOf z) (k : Nat) : (Builtin.zeroCells z.cells k).toList = rows F (List.replicate k F.dflt) := by rw [zeros_rows h.symm]
end
section
variable {P : Program} {n : Nat} {ol rest : List Oper} {o : Oper} {K : Fr → World → Prop} {f : Fr} {w0 w : World} {T : List Nat} {L R L1 : Hp} {d : Nat} {α : Type} {F : Enc α} {xs ys : List α} {A : Option Addr} {m c : Nat}
theorem WL.growZ (i0 k : Nat) (hst : St w0 T (L1 ++ R) w) {t tx e : TypeId} {i : TypeInfo} {z : Value} {x y : Operand} {q : Int} (hown : OwnF F e (.slice A m c) xs L1) (ht : P.underlying t = some (.slice e)) (htx : P.underlying tx = some (.int .i64)) (hi : P.info? e = some i) (hz : i.zero = some z) (hs1 : Nat.beq i.size F.sz = true) (hs2 : Nat.ble i.bytes 512 = true) (hdz : F.enc F.dflt = cellsOf z)
  (ho : o.op = .call { callee := .builtin .append, args := #[x, y], argTypes := #[t, tx] }) (hw : want ol o f = some true) (hd : o.dst = some d) (hn : Nat.blt d n = true) (hx : ev f x = some (.slice A i0 c)) (hy : ev f y = some (.int .i64 q)) (hq : q = (k : Int)) (h0 : 0 < k) (hi0 : i0 ≤ m) (hg : c < i0 + k) (hb : i0 + k ≤ 274877906944)
  (kk : ∀ A2 c2 L2 w', St w0 T (L2 ++ (L1 ++ R)) w' → OwnF F e (.slice A2 (i0 + k) c2) (xs.take i0 ++ List.replicate k F.dflt) L2 → WL P n ol rest K ((d, .slice A2 (i0 + k) c2) :: f) w') : WL P n ol (o :: rest) K f w := by
 subst hq
 have hs1' := Nat.eq_of_beq_eq_true hs1
 have hs2' := Nat.le_of_ble_eq_true hs2
 have hl := hown.len_
 have hti : (xs.take i0).length = i0 := by rw [List.length_take]; omega
 have hge := grownCap_ge w (i0 + k) c e
 have hcm : grownCap w (i0 + k) c e ≤ maxLen := grownCap_le_maxLen w (i0 + k) c e (by simp only [maxLen]; omega)
 have hbb : (i0 + k) * i.bytes ≤ 274877906944 * 512 := Nat.mul_le_mul hb hs2'
 have hkb : k * i.bytes ≤ (i0 + k) * i.bytes := Nat.mul_le_mul_right _ (by omega)
 have hfit : Builtin.nextslicecap (i0 + k) c * i.bytes ≤ 281474976710656 := growslice_fits hg (by omega)
 have hold : (Builtin.firstCells i.size i0 (.slice A i0 c)).run P w.drew = .ok (rows F (xs.take i0)).toArray w.drew := by
  rcases Nat.eq_zero_or_pos i0 with rfl | hp
  ·rw [List.take_zero]
   cases A <;> simp [Builtin.firstCells, loadCells, loadCellsFrom, rows]
  ·have hf : SlF F w.drew A m xs := SlF.ofOwn hown (fun p hp => (hst.drew.own p (List.mem_append_left _ hp)).1)
   obtain ⟨⟨g, off, sp⟩, rfl⟩ := Option.isSome_iff_exists.1 (hf.rd.some_ (by omega))
   have h1 := hf.rd.lds (P := P) (j := 0) (m := i0 * F.sz) (us := rows F (xs.take i0)) (by rw [List.drop_zero, rows_take]) (by rw [rows_len, hti])
   rw [← hs1'] at h1
   have h2 : ((adr (some (⟨g, off, sp⟩ : Addr))).add 0) = ⟨g, off, sp⟩ := by cases sp <;> rfl
   rw [h2] at h1
   simpa [Builtin.firstCells] using h1
 have hr := Go.Lib.run_append_grow_zeros (P := P) w t tx o.type e i z .i64 .i64 ht htx hi hz A i0 c _ hold k h0 (by rw [hs1']; exact F.pos) hg (by omega) (by omega) hfit
 generalize hC : grownCap w (i0 + k) c e = C at hr hge hcm
 have hz1 := zeroCells_rows hdz k
 have hz2 := zeroCells_rows hdz (C - (i0 + k))
 have ec : ((rows F (xs.take i0)).toArray ++ Builtin.zeroCells z.cells k ++ Builtin.zeroCells z.cells (C - (i0 + k))) = (rows F (xs.take i0 ++ List.replicate k F.dflt) ++ rows F (List.replicate (C - (i0 + k)) F.dflt)).toArray := by
  apply Array.toList_inj.1
  rw [Array.toList_append, Array.toList_append, hz1, hz2, rows_append]
 rw [ec] at hr
 refine WL.val (w' := _) hw hd hn (fun ρ hρ => ?_) (kk (some ⟨w.heap.size, 0, none⟩) C [(w.heap.size, .cells (rows F (xs.take i0 ++ List.replicate k F.dflt) ++ rows F (List.replicate (C - (i0 + k)) F.dflt)).toArray e (0, 0))] _ (hst.drew.alloc _) ?_)
 ·simp [execOp, ho, hρ _ _ hx, hρ _ _ hy, resolve, invoke, builtin, hr]
 ·have hll : (xs.take i0 ++ List.replicate k F.dflt).length = i0 + k := by rw [List.length_append, hti, List.length_replicate]
  refine ⟨rows_len _, .inr ⟨w.heap.size, C, 0, [], _, (0, 0), by rw [hll], rfl, by rw [hll]; exact hge, hcm, ?_, ?_, .inl (Nat.le_refl _), rfl⟩⟩
  ·show (rows F (xs.take i0 ++ List.replicate k F.dflt) ++ rows F (List.replicate (C - (i0 + k)) F.dflt)).length = C * F.sz
   rw [List.length_append, rows_len, rows_len, hll, List.length_replicate, ← Nat.add_mul]
   congr 1; omega
  ·exact List.take_left' (rows_len _)
theorem WL.appendFull (hst : St w0 T L w) {t tx e : TypeId} {i : TypeInfo} {z x : Value} {s y : Operand} (hs : Src P F.sz tx x ys.length (rows F ys) w) (ht : P.underlying t = some (.slice e)) (hi : P.info? e = some i) (hz : i.zero = some z) (hs1 : Nat.beq i.size F.sz = true) (hs2 : Nat.ble i.bytes 512 = true) (hdz : F.enc F.dflt = cellsOf z)
  (ho : o.op = .call { callee := .builtin .append, args := #[s, y], argTypes := #[t, tx] }) (hw : want ol o f = some true) (hd : o.dst = some d) (hn : Nat.blt d n = true) (hx : ev f s = some (.slice A 0 0)) (hy : ev f y = some x) (hb : ys.length ≤ 274877906944)
  (kk : ∀ A2 c2 L2 w', St w0 T (L2 ++ L) w' → ys.length ≤ c2 → OwnF F e (.slice A2 c2 c2) (ys ++ List.replicate (c2 - ys.length) F.dflt) L2 → WL P n ol rest K ((d, .slice A2 ys.length c2) :: f) w') : WL P n ol (o :: rest) K f w := by
 have hs1' := Nat.eq_of_beq_eq_true hs1
 have hs2' := Nat.le_of_ble_eq_true hs2
 rw [← hs1'] at hs
 rcases Nat.eq_zero_or_pos ys.length with h0 | h0
 ·obtain rfl : ys = [] := List.eq_nil_of_length_eq_zero h0
  have hst0 : ∀ a, (storeCells a []).run P w = .ok () w := fun a => by simp [storeCells]
  have hr : (Builtin.append_ #[t, tx] o.type #[.slice A 0 0, x]).run P w = .ok (.slice A 0 0) w := by
   have hs0 : Src P i.size tx x 0 [] w := hs
   have hl := hs0.len
   have hc := hs0.cells
   cases A <;> rcases hs0.kind with ⟨e', hk⟩ | hk <;> simp [Builtin.append_, run_underlying ht, run_underlying hk, sizeOf, typeInfo, hi, hl, hc, hst0]
  refine WL.val (w' := w) hw hd hn (fun ρ hρ => ?_) (kk A 0 [] w hst (Nat.le_refl _) (OwnF.nilA F e A))
  simp [execOp, ho, hρ _ _ hx, hρ _ _ hy, resolve, invoke, builtin, hr]
 have hge := grownCap_ge w (0 + ys.length) 0 e
 have hcm : grownCap w (0 + ys.length) 0 e ≤ maxLen := grownCap_le_maxLen w (0 + ys.length) 0 e (by simp only [maxLen]; omega)
 have hbb : ys.length * i.bytes ≤ 274877906944 * 512 := Nat.mul_le_mul hb hs2'
 have hfit : Builtin.nextslicecap (0 + ys.length) 0 * i.bytes ≤ 281474976710656 := growslice_fits (by omega) (by rw [Nat.zero_add]; omega)
 have hold : (Builtin.firstCells i.size 0 (.slice A 0 0)).run P w.drew = .ok ([] : List Value).toArray w.drew := by cases A <;> simp [Builtin.firstCells, loadCells, loadCellsFrom]
 have hr := run_append_grow_src (P := P) w t tx o.type e i z ht hi hz A 0 0 [] hold x ys.length _ hs (by omega) (by omega) hfit
 rw [Nat.zero_add] at hr hge hcm
 generalize hC : grownCap w ys.length 0 e = C at hr hge hcm
 have hz2 := zeroCells_rows hdz (C - ys.length)
 have ec : (([] ++ rows F ys).toArray ++ Builtin.zeroCells z.cells (C - ys.length)) = (rows F (ys ++ List.replicate (C - ys.length) F.dflt)).toArray := by
  apply Array.toList_inj.1
  rw [Array.toList_append, hz2, rows_append]; rfl
 rw [ec] at hr
 refine WL.val (w' := _) hw hd hn (fun ρ hρ => ?_) (kk (some ⟨w.heap.size, 0, none⟩) C [(w.heap.size, .cells (rows F (ys ++ List.replicate (C - ys.length) F.dflt)).toArray e (0, 0))] _ (hst.drew.alloc _) hge ?_)
 ·simp [execOp, ho, hρ _ _ hx, hρ _ _ hy, resolve, invoke, builtin, hr]
 ·exact OwnF.row (by rw [List.length_append, List.length_replicate]; omega) hcm
end
theorem overlaps_own {P : Program} {w : World} {tS tR e : TypeId} {sz b m c lb cb lo : Nat} {α : Type} {F : Enc α} {xs : List α} {A : Option Addr} {L : Hp} {vs : List Value} (ht : P.underlying tS = some (.slice e)) (hz : ∀ w, (Go.sizeOf e).run P w = .ok sz w) (hv : w.heap[b]? = some (.cells vs.toArray e (0, 0))) (hown : OwnF F e (.slice A m c) xs L) (hh : ∀ p, p ∈ L → w.heap[p.1]? = some p.2) (hb : b ∉ L.map (·.1)) (h0 : 0 < m) :
  (Extern.SlicesOverlaps.overlaps #[tS, tS] #[tR] #[.slice (some ⟨b, 0, none⟩) 1 1, .slice (cutA A lo F.sz c) lb cb]).run P w = .ok (.bool false) w := by
 have hl := hown.len_
 rcases hown.2 with ⟨_, h1, _⟩ | ⟨g, cap, o, pre, cl, fz, hvv, rfl, hn, hc, hcl, htk, hfz, rfl⟩
 ·omega
 ·cases hvv
  have hg := hh _ List.mem_cons_self
  have hne : b ≠ g := fun e => hb (by simp [e])
  obtain ⟨off, hoff⟩ : ∃ off, cutA (some (⟨g, pre.length, none⟩ : Addr)) lo F.sz c = some ⟨g, off, none⟩ := by
   unfold cutA
   split
   ·exact ⟨_, rfl⟩
   ·exact ⟨pre.length + lo * F.sz, by simp [addr_at]⟩
  rw [hoff]
  have hp := F.pos
  have hcp : 0 < cl.length := by rw [hcl]; exact Nat.mul_pos (by omega) hp
  exact Go.Lib.run_overlaps_apart w tS tR e ht sz hz ⟨b, 0, none⟩ ⟨g, off, none⟩ 1 1 lb cb hne e e vs.length (pre ++ cl).length (by simp [World.shape?, hv]) (by simp [World.shape?, hg]) (by rw [List.length_append]; omega) (frozen_of_heap hv (by omega)) (frozen_of_heap hv (by omega))
theorem Run.ext1 {P : Program} {f : Fr} {w : World} {o : Oper} {v : Value} {fo : Operand} {args : Array Operand} {ts : Array TypeId} {g : FuncId} {vl : List Value} (hc : (callFunc g vl.toArray).run P w = .ok (.value v) w) (ho : o.op = .call { callee := .value fo, args := args, argTypes := ts })
  (hfo : ev f fo = some (.func (.func g) #[] #[])) (hv : evs f args.toList = some vl) : Run P o f w (.value v) w := fun ρ hρ => by
 have e : args.map ρ = vl.toArray := by apply Array.toList_inj.1; rw [Array.toList_map, evs_map hρ hv]
 simp [execOp, ho, resolve, hρ _ _ hfo, Deferred.ofValue, invoke, hc, e]
theorem OwnF.relen {α : Type} {F : Enc α} {e : TypeId} {A : Option Addr} {n n' c : Nat} {xs : List α} {L : Hp} (h : OwnF F e (.slice A n c) xs L) (hn : n = n') : OwnF F e (.slice A n' c) xs L := hn ▸ h
theorem ext_ov {b m c lb cb lo : Nat} {xs : List LinkD} {A : Option Addr} {L : Hp} {vs : List Value} {w : World} (hv : w.heap[b]? = some (.cells vs.toArray 82 (0, 0))) (hown : OwnF encLink 82 (.slice A m c) xs L) (hh : ∀ p, p ∈ L → w.heap[p.1]? = some p.2) (hb : b ∉ L.map (·.1)) (h0 : 0 < m) : (callFunc 119 #[.slice (some ⟨b, 0, none⟩) 1 1, .slice (cutA A lo 2 c) lb cb]).run Tryz.prog w = .ok (.value (.bool false)) w := by
  have h := overlaps_own (P := Tryz.prog) (F := encLink) (tS := 33) (tR := 4) (sz := 2) (lo := lo) (lb := lb) (cb := cb) Tryz.underlying33 Tryz.sizeOf82 hv hown hh hb h0
  rw [run_callFunc_extern Tryz.func119 (by kernel_rfl) (by kernel_rfl) (by kernel_rfl) (e := Extern.SlicesOverlaps.overlaps #[33, 33] #[4]) (by kernel_rfl)]
  exact congrArg (fun r => Result.andThen r fun v w' => Result.ok (Next.value v) w') h
set_option maxHeartbeats 2000000 in
theorem k58_ (A_s : Option Addr) (n_s c_s : Nat) (u : List LinkD) (L_s : Hp) (i : Nat) (b_v : Nat) (xn : ByteArray) (xi : Int) (w : World) (o_s : OwnF encLink 82 (.slice A_s c_s c_s) u L_s) (h_s : Hh w L_s) (hv : w.heap[b_v]? = some (.cells [Value.string xn, i64 xi].toArray 82 (0, 0))) (hvn : b_v ∉ L_s.map (·.1)) (hn : n_s ≤ c_s) (hi : i ≤ n_s) (hm : n_s ≤ 1048576) :
    Calls Tryz.prog 103 #[.slice A_s n_s c_s, .int .i64 i, .slice (some ⟨b_v, 0, none⟩) 1 1] w fun e w' => ∃ A c L1, e = .returned (.slice A (n_s + 1) c) ∧ St w (L_s.map (·.1)) L1 w' ∧ OwnF encLink 82 (.slice A (n_s + 1) c) ((u.take n_s).take i ++ [(⟨xn, xi⟩ : LinkD)] ++ (u.take n_s).drop i) L1 := by
 have f_v : SlF encLink w (some ⟨b_v, 0, none⟩) 1 [(⟨xn, xi⟩ : LinkD)] := SlF.own1 hv
 have hul : u.length = c_s := OwnF.len_ o_s
 have o_2 := OwnF.short o_s hn
 have hsl : (u.take n_s).length = n_s := by rw [List.length_take]; omega
 refine enter 95 Tryz.func103 rfl Tryz.ntmps103 rfl rfl ?_
 have hs1 := St.lent1 w L_s o_s h_s
 refine WC.r1 hs1 [] rfl (WC.sr (WL.r 2 hs1 [] rfl ?_))
 have hc_ := OwnF.cap o_2
 refine WL.val rfl rfl rfl (Run.sliceL (i) Tryz.runUnderlying33 Tryz.sizeOf82 rfl rfl rfl ?_ ?_) ?_
 · first | rfl | (omega)
 · refine ⟨?_, ?_, ?_⟩ <;> (omega)
 refine WL.nil (WC.r1 hs1 [] rfl (WC.seq (fun K2 hK2 => WC.r1 hs1 [] rfl ?_)))
 refine WC.cq rfl (fun h3 qh3 => ?_) (fun h3 qh3 => ?_)
 ·exfalso; have h9 := h3; simp at h9
 refine WC.skip (hK2 _ _ (WC.r1 hs1 [] rfl (WC.seq (fun K4 hK4 => WC.r1 hs1 [] rfl ?_))))
 refine WC.cq rfl (fun h5 qh5 => ?_) (fun h5 qh5 => ?_)
 ·have hin : i = n_s := by have h9 := h5; simp at h9; omega
  refine WC.sr (WL.r 2 hs1 [] rfl (WL.appendG hs1 o_2 (SlF.src (SlF.st f_v hs1 (fun _ => hvn)) Tryz.underlying33) Tryz.underlying33 inf82 rfl rfl rfl rfl rfl rfl rfl rfl rfl rfl ?_ (fun A9 c10 L6 whs7 hs7 ho8 => ?_)))
  · simp; omega
  refine WL.r 1 hs7 [] rfl (WL.nil (WC.ret (tkR ?_)))
  clear hK4
  refine retV1 rfl (resV.tmp rfl) ?_
  have hx_ := OwnF.eqOf (xs := ((u.take n_s).take i ++ [(⟨xn, xi⟩ : LinkD)] ++ (u.take n_s).drop i)) ho8 (by exact ins_end (by omega))
  refine ⟨A9, c10, _, congrArg (fun q => Ending.returned (Value.slice A9 q c10)) ?_, (St.keep1 hs7), ?_⟩
  · first | rfl | omega | (simp; omega)
  · rw [← hx_]; exact OwnF.relen ho8 (by first | rfl | omega | (simp; omega))
 have hin : i < n_s := by have h9 := h5; simp at h9; omega
 refine WC.skip (hK4 _ _ (WC.seq (fun K11 hK11 => WC.r1 hs1 [] rfl ?_)))
 refine WC.cq rfl (fun h12 qh12 => ?_) (fun h12 qh12 => ?_)
 ·have hcc : c_s < n_s + 1 := by have h9 := h12; simp at h9; omega
  refine WC.sr (WL.r 2 hs1 [] rfl (WL.val rfl rfl rfl (Run.sliceH0 (i) Tryz.runUnderlying33 Tryz.sizeOf82 rfl rfl rfl ?_ ?_) ?_))
  · first | rfl | (omega)
  · omega
  refine WL.r 5 hs1 [] rfl (WL.growZ (F := encLink) (i) ((n_s + 1 - i)) hs1 o_2 Tryz.underlying33 Tryz.underlying3 inf82 rfl rfl rfl rfl rfl rfl rfl rfl rfl rfl ?_ ?_ ?_ ?_ ?_ (fun A16 c17 L13 whs14 hs14 ho15 => ?_))
  · first | rfl | (omega)
  · first | rfl | (omega)
  · first | rfl | (omega)
  · first | rfl | (omega)
  · first | rfl | (omega)
  refine WL.r 1 hs14 [] rfl (WL.nil (WC.sr (WL.r 2 hs14 [] rfl ?_)))
  have hc_ := OwnF.cap ho15
  refine WL.val rfl rfl rfl (Run.sliceL (i) Tryz.runUnderlying33 Tryz.sizeOf82 rfl rfl rfl ?_ ?_) ?_
  · first | rfl | (omega)
  · refine ⟨?_, ?_, ?_⟩ <;> (omega)
  refine WL.r 1 hs14 [] rfl (WL.copyF (lo := i) hs14 ho15 (SlF.st f_v hs14 (fun _ => hvn)) Tryz.underlying33 Tryz.underlying33 inf82 rfl rfl rfl rfl rfl rfl rfl (.inl rfl) ?_ ?_ (fun L18 _ hs19 ho20 => ?_))
  · omega
  · omega
  refine WL.nil (WC.seq (fun K21 hK21 => WC.rH (hs19.rm L18) hs19 (fun _ hs22 => ?_)))
  refine WH.rn [0, 1, 2, 3] (hs22.rm L18) [] rfl rfl ?_
  have hc_ := OwnF.cap ho20
  refine WH.take 4 rfl (by kernel_rfl) rfl rfl rfl (hs22.rm L18) (fun w_ hs_ => (Run.sliceL (i + 1) Tryz.runUnderlying33 Tryz.sizeOf82 rfl rfl rfl ?_ ?_)) ?_
  · first | rfl | (omega)
  · refine ⟨?_, ?_, ?_⟩ <;> (omega)
  refine WH.rn [5, 6] (hs22.rm L18) [] rfl rfl ?_
  have hc_ := OwnF.cap o_2
  refine WH.take 7 rfl (by kernel_rfl) rfl rfl rfl (hs22.rm L18) (fun w_ hs_ => (Run.sliceL (i) Tryz.runUnderlying33 Tryz.sizeOf82 rfl rfl rfl ?_ ?_)) ?_
  · first | rfl | (omega)
  · refine ⟨?_, ?_, ?_⟩ <;> (omega)
  refine WH.o1 8 rfl ?_
  refine WL.copyF (lo := i + 1) hs22 ho20 (SlF.cutL (i) (SlF.ofOwn o_2 (hs22.ow L_s)) (by refine ⟨?_, ?_, ?_⟩ <;> (omega))) Tryz.underlying33 Tryz.underlying33 inf82 rfl rfl rfl rfl rfl rfl rfl (.inl rfl) ?_ ?_ (fun L23 _ hs24 ho25 => ?_)
  · omega
  · omega
  refine WL.nil ⟨(hs24.rm L23), WH.dn (hK21 _ _ (WC.r1 hs24 [] rfl (WC.ret (tkR ?_))))⟩
  clear hK11
  refine retV1 rfl (resV.tmp rfl) ?_
  have hx_ := OwnF.eqOf (xs := ((u.take n_s).take i ++ [(⟨xn, xi⟩ : LinkD)] ++ (u.take n_s).drop i)) ho25 (by exact ins_grow (by omega) (by omega) (by omega) (by omega) rfl)
  refine ⟨A16, c17, _, congrArg (fun q => Ending.returned (Value.slice A16 q c17)) ?_, (St.keep1 hs24), ?_⟩
  · first | rfl | omega | (simp; omega)
  · rw [← hx_]; exact OwnF.relen ho25 (by first | rfl | omega | (simp; omega))
 have hcc : n_s + 1 ≤ c_s := by have h9 := h12; simp at h9; omega
 refine WC.skip (hK11 _ _ (WC.sr (WL.r 4 hs1 [] rfl ?_)))
 have ho26 := OwnF.short (k := (n_s + 1)) o_s (by omega)
 have hcho26 := OwnF.cap ho26
 refine WL.val rfl rfl rfl (Run.sliceH0 ((n_s + 1)) Tryz.runUnderlying33 Tryz.sizeOf82 rfl rfl rfl ?_ ?_) ?_
 · first | rfl | (omega)
 · omega
 refine WL.r 1 hs1 [] rfl (WL.nil (WC.seq (fun K27 hK27 => WC.sr (WL.r 5 hs1 [] rfl ?_))))
 have hc_ := OwnF.cap ho26
 refine WL.val rfl rfl rfl (Run.sliceL (i + 1) Tryz.runUnderlying33 Tryz.sizeOf82 rfl rfl rfl ?_ ?_) ?_
 · first | rfl | (omega)
 · refine ⟨?_, ?_, ?_⟩ <;> (omega)
 refine WL.val rfl rfl rfl (Run.ext1 (ext_ov ((hs1.keep b_v (lt_of_heap hv) hvn).trans hv) ho26 (hs1.ow L_s) hvn (by omega)) rfl rfl rfl) (WL.r 1 hs1 [] rfl (WL.nil (WC.cq rfl (fun h28 qh28 => ?_) (fun h28 qh28 => ?_))))
 ·refine WC.seq (fun K29 hK29 => WC.rH (hs1.rm L_s) hs1 (fun _ hs30 => ?_))
  refine WH.rn [0, 1, 2, 3] (hs30.rm L_s) [] rfl rfl ?_
  have hc_ := OwnF.cap ho26
  refine WH.take 4 rfl (by kernel_rfl) rfl rfl rfl (hs30.rm L_s) (fun w_ hs_ => (Run.sliceL (i + 1) Tryz.runUnderlying33 Tryz.sizeOf82 rfl rfl rfl ?_ ?_)) ?_
  · first | rfl | (omega)
  · refine ⟨?_, ?_, ?_⟩ <;> (omega)
  refine WH.rn [5, 6] (hs30.rm L_s) [] rfl rfl ?_
  have hc_ := OwnF.cap ho26
  refine WH.take 7 rfl (by kernel_rfl) rfl rfl rfl (hs30.rm L_s) (fun w_ hs_ => (Run.sliceL (i) Tryz.runUnderlying33 Tryz.sizeOf82 rfl rfl rfl ?_ ?_)) ?_
  · first | rfl | (omega)
  · refine ⟨?_, ?_, ?_⟩ <;> (omega)
  refine WH.o1 8 rfl ?_
  refine WL.copyF (lo := i + 1) hs30 ho26 (SlF.cutL (i) (SlF.ofOwn ho26 (hs30.ow L_s)) (by refine ⟨?_, ?_, ?_⟩ <;> (omega))) Tryz.underlying33 Tryz.underlying33 inf82 rfl rfl rfl rfl rfl rfl rfl (.inl rfl) ?_ ?_ (fun L31 _ hs32 ho33 => ?_)
  · omega
  · omega
  refine WL.nil ⟨(hs32.rm L31), WH.dn (hK29 _ _ (WC.sr (WL.r 2 hs32 [] rfl ?_)))⟩
  have hc_ := OwnF.cap ho33
  refine WL.val rfl rfl rfl (Run.sliceL (i) Tryz.runUnderlying33 Tryz.sizeOf82 rfl rfl rfl ?_ ?_) ?_
  · first | rfl | (omega)
  · refine ⟨?_, ?_, ?_⟩ <;> (omega)
  refine WL.r 1 hs32 [] rfl (WL.copyF (lo := i) hs32 ho33 (SlF.st f_v hs32 (fun _ => hvn)) Tryz.underlying33 Tryz.underlying33 inf82 rfl rfl rfl rfl rfl rfl rfl (.inl rfl) ?_ ?_ (fun L34 _ hs35 ho36 => ?_))
  · omega
  · omega
  refine WL.nil (WC.r1 hs35 [] rfl (WC.ret (tkR ?_)))
  clear hK27
  refine retV1 rfl (resV.tmp rfl) ?_
  have hx_ := OwnF.eqOf (xs := ((u.take n_s).take i ++ [(⟨xn, xi⟩ : LinkD)] ++ (u.take n_s).drop i)) ho36 (by exact ins_room (by omega) (by rw [hsl, List.take_take]; congr 1; omega) (by rw [List.length_take, List.length_take]; omega) (by omega) (by omega) rfl)
  refine ⟨A_s, c_s, _, congrArg (fun q => Ending.returned (Value.slice A_s q c_s)) ?_, (St.keep1 hs35), ?_⟩
  · first | rfl | omega | (simp; omega)
  · rw [← hx_]; exact OwnF.relen ho36 (by first | rfl | omega | (simp; omega))
 exfalso; have h9 := h28; simp at h9
theorem findI_some_get {α : Type} {p : α → Bool} {l : List α} (h : ¬ findI p l < 0) : ∃ i, ∃ hi : i < l.length, findI p l = (i : Int) ∧ p l[i] = true ∧ l.find? p = some l[i] := by
 rcases findI_cases (p := p) (xs := l) with ⟨h1, _⟩ | ⟨i, hi, h1, h2, h3⟩
 ·omega
 ·exact ⟨i, hi, h1, h2, List.find?_eq_some_iff_getElem.2 ⟨h2, i, hi, rfl, fun j hj => by simpa using h3 j hj⟩⟩
theorem has_idx {dir : List LinkD} {n : ByteArray} (h : 0 ≤ findI (isN n) dir) : hasN dir n = true := by
 obtain ⟨i, hi, _, h2, _⟩ := findI_some_get (p := isN n) (l := dir) (by omega)
 exact List.any_eq_true.2 ⟨_, List.getElem_mem hi, h2⟩
theorem has_no {dir : List LinkD} {n : ByteArray} (h : findI (isN n) dir < 0) : hasN dir n = false := by
 rcases findI_cases (p := isN n) (xs := dir) with ⟨_, h2⟩ | ⟨i, hi, h1, _⟩
 ·exact List.any_eq_false.2 fun x hx => by rw [h2 x hx]; decide
 ·omega
theorem has_dec {dir : List LinkD} {n : ByteArray} : decide (0 ≤ findI (isN n) dir) = hasN dir n := by
 by_cases h : 0 ≤ findI (isN n) dir
 ·rw [has_idx h]; exact decide_eq_true h
 ·rw [has_no (by omega)]; exact decide_eq_false h
theorem idx_get {dir : List LinkD} {n : ByteArray} (h : ¬ findI (isN n) dir < 0) : ∃ i, i < dir.length ∧ findI (isN n) dir = (i : Int) ∧ (gat encLink dir i).Id = findL dir n := by
 obtain ⟨i, hi, h1, _, h3⟩ := findI_some_get h
 refine ⟨i, hi, h1, ?_⟩
 unfold findL
 rw [h3, link_gat hi]
theorem app_no {dir : List LinkD} {t : TurnD} (k1 : ¬ t.Kind = 1) (h : (decide (findI (isN t.Name) dir < 0) || decide (t.Kind = 4) && decide (t.To = t.Name)) = true) : appOk dir t = false := by
 unfold appOk
 rw [if_neg k1]
 rw [Bool.or_eq_true, decide_eq_true_eq] at h
 rcases h with h | h
 ·rw [has_no h]; rfl
 ·rw [h]; simp
theorem app_yes {dir : List LinkD} {t : TurnD} (k1 : ¬ t.Kind = 1) (h : (decide (findI (isN t.Name) dir < 0) || decide (t.Kind = 4) && decide (t.To = t.Name)) = false) : ∃ i, i < dir.length ∧ findI (isN t.Name) dir = (i : Int) ∧ (gat encLink dir i).Id = findL dir t.Name ∧ appOk dir t = true := by
 rw [Bool.or_eq_false_iff, decide_eq_false_iff_not] at h
 obtain ⟨i, hi, h1, h2⟩ := idx_get h.1
 refine ⟨i, hi, h1, h2, ?_⟩
 unfold appOk
 rw [if_neg k1, has_idx (by omega), h.2]; rfl
def dirD (d : DiskD) : List LinkD := turnsL d.Kept d.Turns
def opName (op : DiskOpD) : Bool := if op.Kind = 6 then decide (op.Name = noName) else nameOk op.Name
def opTo (op : DiskOpD) : Bool := if op.Kind = 4 then nameOk op.To else decide (op.To = noName)
def dopOk (op : DiskOpD) : Bool := within op.Kind 1 6 && (((opName op && opTo op) && decide ((op.Data.length : Int) ≤ 400000)) && (decide (op.Kind = 2) || decide ((op.Data.length : Int) = 0)))
def turnK (k : Int) : Bool := decide (k = 1) || decide (k = 4) || decide (k = 5)
def refuse (d : DiskD) (op : DiskOpD) : Int :=
 if d.Fuse = 0 then 2 else if op.Kind ≠ 6 ∧ hasN (dirD d) op.Name = decide (op.Kind = 1) then 3
 else if op.Kind = 1 ∧ (d.Files.length = 10 ∨ d.Next = 1000000) ∨ turnK op.Kind = true ∧ d.Turns.length = 30 ∨ op.Kind = 4 ∧ op.To = op.Name then 4 else 0
def fuse1 (d : DiskD) : DiskD := { d with Fuse := if 0 < d.Fuse then d.Fuse - 1 else d.Fuse }
def onlyL (kept : List LinkD) (fs : List FileD) : List FileD := fs.filter fun f => kept.any fun l => decide (l.Id = f.Id)
def atI (l : List FileD) (id : Int) : Int := findI (fun f => decide (f.Id = id)) l
def fileN (d : DiskD) (n : ByteArray) : Nat := (atI d.Files (findL (dirD d) n)).toNat
def growF (f : FileD) (b : List UInt8) : FileD := { f with Body := f.Body ++ b }
def safeF (f : FileD) : FileD := { f with Safe := (f.Body.length : Int) }
def roomD (d : DiskD) : Nat := (d.Room - (usedF d.Files : Int)).toNat
def doD (d : DiskD) (op : DiskOpD) : DiskD :=
 if op.Kind = 1 then { d with Next := d.Next + 1, Files := d.Files ++ [⟨d.Next, [], 0⟩], Turns := d.Turns ++ [⟨1, op.Name, noName, d.Next⟩] }
 else if op.Kind = 2 then { d with Files := d.Files.set (fileN d op.Name) (growF (fAt d.Files (fileN d op.Name)) (op.Data.take (roomD d))) }
 else if op.Kind = 3 then { d with Files := d.Files.set (fileN d op.Name) (safeF (fAt d.Files (fileN d op.Name))) }
 else if op.Kind = 6 then { d with Files := onlyL (dirD d) d.Files, Kept := dirD d, Turns := [] }
 else { d with Turns := d.Turns ++ [⟨op.Kind, op.Name, op.To, 0⟩] }
def doC (d : DiskD) (op : DiskOpD) : Int := if op.Kind = 2 ∧ roomD d < op.Data.length then 5 else 0
def disk0 : DiskD := ⟨0, 0, 0, [], [], []⟩
def doneD (d : DiskD) (op : DiskOpD) : DiskD := if diskOk d && dopOk op then (if refuse d op = 0 then doD (fuse1 d) op else d) else disk0
def doneC (d : DiskD) (op : DiskOpD) : Int := if diskOk d && dopOk op then (if refuse d op = 0 then doC d op else refuse d op) else 1
theorem mem_made {l : List TurnD} {t : TurnD} (h : t ∈ l) (hk : t.Kind = 1) : t.Id ∈ made l := List.mem_map_of_mem (List.mem_filter.2 ⟨h, decide_eq_true hk⟩)
theorem turn_ids {dir : List LinkD} {t : TurnD} (ha : appOk dir t = true) {x : LinkD} (hx : x ∈ turnL dir t) : x.Id ∈ dir.map (·.Id) ++ made [t] := by
 have hd : ∀ y, y ∈ dir → y.Id ∈ dir.map (·.Id) ++ made [t] := fun y hy => List.mem_append_left _ (List.mem_map_of_mem hy)
 unfold turnL at hx
 unfold appOk at ha
 split at hx
 ·rename_i hk
  rcases withL_mem hx with rfl | hx
  ·exact List.mem_append_right _ (mem_made List.mem_cons_self hk)
  ·exact hd x hx
 ·rename_i hk
  rw [if_neg hk, Bool.and_eq_true] at ha
  split at hx
  ·rcases withL_mem hx with rfl | hx
   ·obtain ⟨y, hy, _, e⟩ := findL_mem ha.1
    rw [e]; exact hd y hy
   ·exact hd x (lessL_all (lessL_all hx).1).1
  ·exact hd x (lessL_all hx).1
theorem made_cons (t : TurnD) (l : List TurnD) : made (t :: l) = made [t] ++ made l := by
 unfold made
 rw [show t :: l = [t] ++ l from rfl, List.filter_append, List.map_append]
theorem turns_ids : ∀ {l : List TurnD} {dir : List LinkD}, runI dir l = true → ∀ {x : LinkD}, x ∈ turnsL dir l → x.Id ∈ dir.map (·.Id) ++ made l
 | [], dir, _, x, hx => List.mem_append_left _ (List.mem_map_of_mem hx)
 | t :: r, dir, h, x, hx => by
  unfold runI at h
  simp only [Bool.and_eq_true] at h
  have h1 := turns_ids h.2 (x := x) hx
  rw [made_cons, ← List.append_assoc]
  rcases List.mem_append.1 h1 with h2 | h2
  ·obtain ⟨y, hy, e⟩ := List.mem_map.1 h2
   rw [← e]
   exact List.mem_append_left _ (turn_ids h.1.2 hy)
  ·exact List.mem_append_right _ h2
structure DOk (d : DiskD) : Prop where
 bnd : diskBnd d = true
 len : diskLen d = true
 files : filesOk d.Next d.Files = true
 kept : keptOk d.Kept = true
 ids : idsOk (idsD d) (fileIds d) = true
 runs : runS d.Kept d.Turns = true
 runi : runI d.Kept d.Turns = true
theorem diskOk_P {d : DiskD} (h : diskOk d = true) : DOk d := by
 have h2 : diskOkI d = true := by rw [disk_same]; exact h
 unfold diskOk at h
 unfold diskOkI at h2
 simp only [Bool.and_eq_true] at h h2
 exact ⟨h.1.1.1.1.1, h.1.1.1.1.2, h.1.1.1.2, h.1.1.2, h.1.2, h.2, h2.2⟩
theorem DOk.allI {d : DiskD} (h : DOk d) : allI (dirD d) := by
 intro x hx
 exact (files_asc h.files).2 _ ((idsOk_iff.1 h.ids).2.2 _ (turns_ids h.runi hx))
theorem DOk.mem {d : DiskD} (h : DOk d) {x : LinkD} (hx : x ∈ dirD d) : x.Id ∈ fileIds d := (idsOk_iff.1 h.ids).2.2 _ (turns_ids h.runi hx)
theorem atI_mem {l : List FileD} {id : Int} (h : id ∈ l.map (·.Id)) : ∃ k, k < l.length ∧ atI l id = (k : Int) ∧ (fAt l k).Id = id := by
 obtain ⟨f, hf, e⟩ := List.mem_map.1 h
 rcases findI_cases (p := fun f : FileD => decide (f.Id = id)) (xs := l) with ⟨_, h2⟩ | ⟨i, hi, h1, h2, _⟩
 ·have := h2 f hf
  rw [decide_eq_false_iff_not] at this
  exact absurd e this
 ·refine ⟨i, hi, h1, ?_⟩
  unfold fAt
  rw [List.getD_eq_getElem?_getD, List.getElem?_eq_getElem hi]
  exact of_decide_eq_true h2
theorem DOk.at {d : DiskD} (h : DOk d) {n : ByteArray} (hn : hasN (dirD d) n = true) : fileN d n < d.Files.length ∧ atI d.Files (findL (dirD d) n) = (fileN d n : Int) := by
 obtain ⟨x, hx, _, e⟩ := findL_mem hn
 obtain ⟨k, hk, e2, _⟩ := atI_mem (h.mem hx)
 unfold fileN
 rw [e, e2, Int.toNat_natCast]
 exact ⟨hk, rfl⟩
theorem DOk.room {d : DiskD} (h : DOk d) : d.Room - (usedF d.Files : Int) = (roomD d : Int) ∧ usedF d.Files ≤ 400000 ∧ d.Room ≤ 400000 := by
 have h1 := h.len
 have h2 := h.bnd
 unfold diskLen at h1
 unfold diskBnd at h2
 simp only [Bool.and_eq_true, decide_eq_true_eq, within_iff] at h1 h2
 unfold roomD
 omega
theorem DOk.small {d : DiskD} (h : DOk d) : d.Files.length ≤ 10 ∧ d.Kept.length ≤ 10 ∧ d.Turns.length ≤ 30 ∧ d.Next ≤ 1000000 ∧ 1 ≤ d.Next ∧ -1 ≤ d.Fuse ∧ d.Fuse ≤ 1000 ∧ 0 ≤ d.Room := by
 have h1 := h.len
 have h2 := h.bnd
 unfold diskLen at h1
 unfold diskBnd at h2
 simp only [Bool.and_eq_true, decide_eq_true_eq, within_iff] at h1 h2
 omega
theorem DOk.sorted {d : DiskD} (h : DOk d) : sortedL d.Kept := kept_sorted h.kept
theorem fileOk_impl {d : DiskR} {i : Nat} (hi : i < d.Files.xs.length) (hb : (gat encFileR d.Files.xs i).Body.xs.length = (gat encFileR d.Files.xs i).Body.n) :
  fileOkAt d.Next d.dat.Files i = !(!within (gat encFileR d.Files.xs i).Id 1 (d.Next - 1) || decide (0 < (i : Int)) && decide ((gat encFileR d.Files.xs i).Id ≤ (gat encFileR d.Files.xs (i - 1)).Id) || !within (gat encFileR d.Files.xs i).Safe 0 ((gat encFileR d.Files.xs i).Body.n : Int)) := by
 rw [fileOk_spec hi hb, Bool.eq_iff_iff]
 simp only [Bool.and_eq_true, Bool.or_eq_true, Bool.not_eq_true', Bool.or_eq_false_iff, Bool.and_eq_false_iff, decide_eq_true_eq, decide_eq_false_iff_not, Bool.not_eq_false', within_iff]
 omega
theorem file_gat {l : List FileR} {j : Nat} (hj : j < l.length) : gat encFileR l j = l[j] := by
 have := gat_get (F := encFileR) hj
 rw [List.getElem?_eq_getElem hj] at this
 exact (Option.some.inj this).symm
theorem int_gat {l : List Int} {j : Nat} (hj : j < l.length) : gat encI l j = l[j] := by
 have := gat_get (F := encI) hj
 rw [List.getElem?_eq_getElem hj] at this
 exact (Option.some.inj this).symm
theorem ids_at {a : List Int} {b : List FileR} {i : Nat} (h : a = b.map (·.Id)) (hi : i < a.length) : gat encI a i = (gat encFileR b i).Id := by
 subst h
 rw [List.length_map] at hi
 rw [int_gat (by rw [List.length_map]; exact hi), file_gat hi, List.getElem_map]
theorem ids_eq {a : List Int} {b : List FileR} (h : a.length = b.length) (hp : ∀ j, j < a.length → gat encI a j = (gat encFileR b j).Id) : a = b.map (·.Id) := by
 refine List.ext_getElem (by rw [List.length_map]; exact h) fun j h1 h2 => ?_
 have h3 := hp j h1
 rw [int_gat h1, file_gat (by omega)] at h3
 rw [List.getElem_map]; exact h3
def linksI (d : DiskD) : Bool := decide (d.Turns.length ≤ 30) && decide (d.Kept.length ≤ 10) && keptOk d.Kept && decide (sortI (idsD d) = fileIds d) && runI d.Kept d.Turns
theorem linksI_len {d : DiskR} (h2 : d.Kept.xs.length = d.Kept.n) (h3 : d.Turns.xs.length = d.Turns.n) (h : (decide (30 < (d.Turns.n : Int)) || decide (10 < (d.Kept.n : Int))) = true) : linksI d.dat = false := by
 have e2 : d.dat.Kept.length = d.Kept.n := h2
 have e3 : d.dat.Turns.length = d.Turns.n := h3
 unfold linksI
 rw [e2, e3]
 simp only [Bool.or_eq_true, decide_eq_true_eq] at h
 rcases h with h | h
 ·rw [decide_eq_false (by omega : ¬ d.Turns.n ≤ 30)]; rfl
 ·rw [decide_eq_false (by omega : ¬ d.Kept.n ≤ 10), Bool.and_false]; rfl
theorem linksI_front {m n : Nat} (h : (decide (30 < (m : Int)) || decide (10 < (n : Int))) = false) : m ≤ 30 ∧ n ≤ 10 := by
 simp only [Bool.or_eq_false_iff, decide_eq_false_iff_not] at h
 omega
theorem linksI_kept {d : DiskD} (h : keptOk d.Kept = false) : linksI d = false := by unfold linksI; rw [h, Bool.and_false]; rfl
theorem linksI_run {d : DiskR} (h : runI d.Kept.xs d.Turns.xs = false) : linksI d.dat = false := by unfold linksI; rw [show runI d.dat.Kept d.dat.Turns = false from h, Bool.and_false]
theorem linksI_all {d : DiskR} (h30 : d.Turns.n ≤ 30) (h10 : d.Kept.n ≤ 10) (h2 : d.Kept.xs.length = d.Kept.n) (h3 : d.Turns.xs.length = d.Turns.n) (hK : keptOk d.Kept.xs = true) (hR : runI d.Kept.xs d.Turns.xs = true) : linksI d.dat = decide (sortI (idsD d.dat) = d.Files.xs.map (·.Id)) := by
 have e2 : d.dat.Kept.length ≤ 10 := by rw [show d.dat.Kept.length = d.Kept.xs.length from rfl]; omega
 have e3 : d.dat.Turns.length ≤ 30 := by rw [show d.dat.Turns.length = d.Turns.xs.length from rfl]; omega
 have e4 : fileIds d.dat = d.Files.xs.map (·.Id) := by unfold fileIds; rw [show d.dat.Files = d.Files.xs.map FileR.dat from rfl, List.map_map]; rfl
 unfold linksI
 rw [decide_eq_true e2, decide_eq_true e3, show keptOk d.dat.Kept = true from hK, show runI d.dat.Kept d.dat.Turns = true from hR, e4]
 simp
theorem disk_impl {d : DiskR} (h1 : d.Files.xs.length = d.Files.n) (h2 : d.Kept.xs.length = d.Kept.n) (h3 : d.Turns.xs.length = d.Turns.n) :
  ((((within d.Room 0 400000 && within d.Fuse (-1) 1000) && within d.Next 1 1000000) && (filesOk d.Next d.dat.Files && (decide ((d.Files.n : Int) ≤ 10) && decide (((usedF d.dat.Files : Nat) : Int) ≤ d.Room)))) && linksI d.dat) = diskOk d.dat := by
 have e1 : d.dat.Files.length = d.Files.n := by rw [← h1]; exact List.length_map _
 rw [← disk_same]
 unfold diskOkI linksI diskBnd diskLen
 rw [e1, Bool.eq_iff_iff]
 simp only [Bool.and_eq_true, decide_eq_true_eq]
 have r1 : d.dat.Room = d.Room := rfl
 have r2 : d.dat.Fuse = d.Fuse := rfl
 have r3 : d.dat.Next = d.Next := rfl
 rw [r1, r2, r3]
 constructor
 ·rintro ⟨⟨⟨⟨a, b⟩, c⟩, ⟨p, q, r⟩⟩, ⟨⟨⟨s, t⟩, u⟩, v⟩, x⟩
  exact ⟨⟨⟨⟨⟨⟨⟨a, b⟩, c⟩, ⟨⟨by omega, t⟩, s⟩, r⟩, p⟩, u⟩, v⟩, x⟩
 ·rintro ⟨⟨⟨⟨⟨⟨⟨a, b⟩, c⟩, ⟨⟨q, t⟩, s⟩, r⟩, p⟩, u⟩, v⟩, x⟩
  exact ⟨⟨⟨⟨a, b⟩, c⟩, ⟨p, by omega, r⟩⟩, ⟨⟨⟨s, t⟩, u⟩, v⟩, x⟩
theorem runI_pre {dir : List LinkD} {l : List TurnD} {i : Nat} (h : runI dir l = true) : runI dir (l.take i) = true := by
 rw [← List.take_append_drop i l, runI_app, Bool.and_eq_true] at h
 exact h.1
theorem runI_at {dir : List LinkD} {l : List TurnD} {i : Nat} (h : runI dir l = true) (hi : i < l.length) : appOk (turnsL dir (l.take i)) (gat encTurn l i) = true := by
 rw [turns_at hi, runI_app, Bool.and_eq_true] at h
 have h2 := h.2
 unfold runI at h2
 simp only [Bool.and_eq_true] at h2
 exact h2.1.2
theorem sm_pre {B : Nat} {l : List TurnD} (h : ∀ t, t ∈ l → smTurn B t) (i : Nat) : ∀ t, t ∈ l.take i → smTurn B t := fun t ht => h t (List.mem_of_mem_take ht)
def encVL : Enc (SlD LinkD) := ⟨1, fun d => [.slice d.A d.n d.c], ⟨none, 0, 0, []⟩, fun _ => rfl, fun x v h => by simp at h; subst h; rfl, by decide⟩
theorem refuse_2 {d : DiskD} {op : DiskOpD} (h : d.Fuse = 0) : refuse d op = 2 := if_pos h
theorem refuse_3 {d : DiskD} {op : DiskOpD} (h : ¬ d.Fuse = 0) (h3 : op.Kind ≠ 6 ∧ hasN (dirD d) op.Name = decide (op.Kind = 1)) : refuse d op = 3 := by unfold refuse; rw [if_neg h, if_pos h3]
def fourD (d : DiskD) (op : DiskOpD) : Prop := op.Kind = 1 ∧ (d.Files.length = 10 ∨ d.Next = 1000000) ∨ turnK op.Kind = true ∧ d.Turns.length = 30 ∨ op.Kind = 4 ∧ op.To = op.Name
theorem refuse_4 {d : DiskD} {op : DiskOpD} (h : ¬ d.Fuse = 0) (h3 : ¬ (op.Kind ≠ 6 ∧ hasN (dirD d) op.Name = decide (op.Kind = 1))) (h4 : fourD d op) : refuse d op = 4 := by unfold refuse; rw [if_neg h, if_neg h3]; exact if_pos h4
theorem refuse_0 {d : DiskD} {op : DiskOpD} (h : ¬ d.Fuse = 0) (h3 : ¬ (op.Kind ≠ 6 ∧ hasN (dirD d) op.Name = decide (op.Kind = 1))) (h4 : ¬ fourD d op) : refuse d op = 0 := by unfold refuse; rw [if_neg h, if_neg h3]; exact if_neg h4
theorem file_idx {d : DiskR} (hD : DOk d.dat) {n : ByteArray} (hh : hasN (dirD d.dat) n = true) {k : Nat} (hg : (gat encLink (dirD d.dat) k).Id = findL (dirD d.dat) n) : findI (fun f : FileR => decide (f.Id = (gat encLink (dirD d.dat) k).Id)) d.Files.xs = (fileN d.dat n : Int) := by
 rw [hg, ← (hD.at hh).2]
 unfold atI
 rw [show d.dat.Files = d.Files.xs.map FileR.dat from rfl, findI_map]; rfl
theorem opName_y {op : DiskOpR} (h : op.Kind = 6) : opName op.dat = decide (op.Name = noName) := if_pos h
theorem opName_n {op : DiskOpR} (h : ¬ op.Kind = 6) : opName op.dat = nameOk op.Name := if_neg h
theorem opTo_y {op : DiskOpR} (h : op.Kind = 4) : opTo op.dat = nameOk op.To := if_pos h
theorem opTo_n {op : DiskOpR} (h : ¬ op.Kind = 4) : opTo op.dat = decide (op.To = noName) := if_neg h
theorem opName_spec {op : DiskOpR} : opName op.dat = !(decide (op.Kind = 6) && !decide (op.Name = noName) || !decide (op.Kind = 6) && !nameOk op.Name) := by
 by_cases h : op.Kind = 6
 ·rw [opName_y h, decide_eq_true h]; simp
 ·rw [opName_n h, decide_eq_false h]; simp
theorem opTo_spec {op : DiskOpR} : opTo op.dat = !(decide (op.Kind = 4) && !nameOk op.To || !decide (op.Kind = 4) && !decide (op.To = noName)) := by
 by_cases h : op.Kind = 4
 ·rw [opTo_y h, decide_eq_true h]; simp
 ·rw [opTo_n h, decide_eq_false h]; simp
def linkd (k : List LinkD) (id : Int) : Bool := k.any fun l => decide (l.Id = id)
theorem linkd_find {k : List LinkD} {id : Int} : decide (0 ≤ findI (fun l : LinkD => decide (l.Id = id)) k) = linkd k id := by
 unfold linkd
 rcases findI_cases (p := fun l : LinkD => decide (l.Id = id)) (xs := k) with ⟨h1, h2⟩ | ⟨i, hi, h1, h2, _⟩
 ·rw [h1, List.any_eq_false.2 fun x hx => by rw [h2 x hx]; decide]; rfl
 ·rw [h1, List.any_eq_true.2 ⟨_, List.getElem_mem hi, h2⟩]; exact decide_eq_true (by omega)
theorem onlyL_dat {k : List LinkD} {l : List FileR} : (l.filter fun f : FileR => linkd k f.Id).map FileR.dat = onlyL k (l.map FileR.dat) := by
 unfold onlyL; rw [List.filter_map]; rfl
theorem fuse_ok {d : DiskD} (h : diskOk d = true) (hf : d.Fuse ≠ 0) : diskOk (fuse1 d) = true := by
 have hD := (diskOk_P h).small
 have e : diskBnd (fuse1 d) = true := by
  have h1 := (diskOk_P h).bnd
  unfold diskBnd at h1 ⊢
  simp only [Bool.and_eq_true, within_iff] at h1 ⊢
  have e2 : (fuse1 d).Fuse = if 0 < d.Fuse then d.Fuse - 1 else d.Fuse := rfl
  refine ⟨⟨h1.1.1, ?_⟩, h1.2⟩
  rw [e2]; split <;> omega
 unfold diskOk at h ⊢
 simp only [Bool.and_eq_true] at h ⊢
 exact ⟨⟨⟨⟨⟨e, h.1.1.1.1.2⟩, h.1.1.1.2⟩, h.1.1.2⟩, h.1.2⟩, h.2⟩
theorem refuse_fuse {d : DiskD} {op : DiskOpD} (h : refuse d op = 0) : d.Fuse ≠ 0 := fun hf => by rw [refuse_2 hf] at h; cases h
theorem refuse_has {d : DiskD} {op : DiskOpD} (h : refuse d op = 0) (k : op.Kind ≠ 6) : hasN (dirD d) op.Name = !decide (op.Kind = 1) := by
 by_cases h3 : op.Kind ≠ 6 ∧ hasN (dirD d) op.Name = decide (op.Kind = 1)
 ·rw [refuse_3 (refuse_fuse h) h3] at h; cases h
 ·have h4 : ¬ hasN (dirD d) op.Name = decide (op.Kind = 1) := fun e => h3 ⟨k, e⟩
  revert h4
  generalize hasN (dirD d) op.Name = a
  generalize decide (op.Kind = 1) = b
  cases a <;> cases b <;> decide
theorem files_set {xs : List FileR} {k : Nat} {x : FileR} {f : FileD} (h : x.dat = f) : (xs.set k x).map FileR.dat = (xs.map FileR.dat).set k f := by rw [List.map_set, h]
theorem doC_0 {d : DiskD} {op : DiskOpD} (h : ¬ op.Kind = 2) : doC d op = 0 := if_neg fun h2 => h h2.1
theorem dop_kind {op : DiskOpD} (h : dopOk op = true) : 1 ≤ op.Kind ∧ op.Kind ≤ 6 := by
 unfold dopOk at h
 rw [Bool.and_eq_true] at h
 exact within_iff.1 h.1
theorem take_min {l : List UInt8} {k n : Nat} (h : l.length = n) : l.take (min k n) = l.take k := by
 rcases Nat.le_total k n with h1 | h1
 ·rw [Nat.min_eq_left h1]
 ·rw [Nat.min_eq_right h1, List.take_of_length_le (by omega), List.take_of_length_le (by omega)]
theorem dop_len {op : DiskOpD} (h : dopOk op = true) : op.Data.length ≤ 400000 := by
 unfold dopOk at h
 simp only [Bool.and_eq_true, decide_eq_true_eq] at h
 have := h.2.1.2
 omega
theorem usedF_gat {xs : List FileR} {i : Nat} (h : i < xs.length) : (gat encFileR xs i).Body.xs.length ≤ usedF (xs.map FileR.dat) := by
 have h1 := usedF_le (xs := xs) (i + 1)
 rw [usedF_take h] at h1
 omega
theorem done_bad {d : DiskD} {op : DiskOpD} (h : (diskOk d && dopOk op) = false) : doneD d op = disk0 ∧ doneC d op = 1 := by
 unfold doneD doneC; rw [h]; exact ⟨rfl, rfl⟩
theorem done_ref {d : DiskD} {op : DiskOpD} (h1 : diskOk d = true) (h2 : dopOk op = true) (h : ¬ refuse d op = 0) : doneD d op = d ∧ doneC d op = refuse d op := by
 unfold doneD doneC; rw [h1, h2]; exact ⟨if_neg h, if_neg h⟩
theorem done_do {d : DiskD} {op : DiskOpD} (h1 : diskOk d = true) (h2 : dopOk op = true) (h : refuse d op = 0) : doneD d op = doD (fuse1 d) op ∧ doneC d op = doC d op := by
 unfold doneD doneC; rw [h1, h2]; exact ⟨if_pos h, if_pos h⟩
theorem has_linkd {k : List LinkD} {id : Int} {t : List TurnD} (h : t = []) : (k.map (·.Id) ++ made t).contains id = linkd k id := by
 subst h
 unfold linkd
 rw [Bool.eq_iff_iff, List.contains_iff_mem, List.any_eq_true, show made [] = [] from rfl, List.append_nil, List.mem_map]
 exact ⟨fun ⟨x, hx, e⟩ => ⟨x, hx, decide_eq_true e⟩, fun ⟨x, hx, e⟩ => ⟨x, hx, of_decide_eq_true e⟩⟩
theorem sm_kept {B : Nat} {d : DiskD} {k : List LinkD} (h : smDisk B d) (h1 : k.length ≤ B) (h2 : ∀ x, x ∈ k → smLink B x) : smDisk B { d with Kept := k, Turns := [] } := ⟨h.1, h.2.1, h1, h2, Nat.zero_le _, fun _ h => absurd h List.not_mem_nil⟩
theorem tots_bound {α : Type} {f : α → Nat} {l : List α} {B : Nat} (h : ∀ x, x ∈ l → f x ≤ B) : tots f l ≤ l.length * (B + 1) := by
 unfold tots
 induction l with
 | nil => simp
 | cons x r ih =>
  have h1 := h x List.mem_cons_self
  have h2 := ih fun y hy => h y (List.mem_cons_of_mem _ hy)
  rw [List.map_cons, List.sum_cons, List.length_cons, Nat.succ_mul]
  omega
theorem totDisk_bnd {d : DiskD} (h1 : d.Files.length ≤ 11) (h2 : d.Kept.length ≤ 40) (h3 : d.Turns.length ≤ 31) (f1 : ∀ x, x ∈ d.Files → x.Body.length ≤ 2097152) (f2 : ∀ x, x ∈ d.Kept → smLink 1048576 x) (f3 : ∀ x, x ∈ d.Turns → smTurn 1048576 x) : totDisk d ≤ 268435456 := by
 have a1 := tots_bound (f := totFile) (l := d.Files) (B := 2097152) f1
 have a2 := tots_bound (f := totLink) (l := d.Kept) (B := 1048576) f2
 have a3 := tots_bound (f := totTurn) (l := d.Turns) (B := 2097152) (fun x hx => by have h := f3 x hx; have := h.1; have := h.2; unfold totTurn; omega)
 unfold totDisk
 have b1 : d.Files.length * (2097152 + 1) ≤ 11 * 2097153 := Nat.mul_le_mul_right _ h1
 have b2 : d.Kept.length * (1048576 + 1) ≤ 40 * 1048577 := Nat.mul_le_mul_right _ h2
 have b3 : d.Turns.length * (2097152 + 1) ≤ 31 * 2097153 := Nat.mul_le_mul_right _ h3
 omega
theorem doneD_tot {d : DiskD} {op : DiskOpD} (hb : totDisk d ≤ 1048576) (ho : totDiskOp op ≤ 1048576) : totDisk (doneD d op) ≤ 268435456 := by
 have hsm : smDisk 1048576 d := totDisk_sm hb
 have hso : smDiskOp 1048576 op := totDiskOp_sm ho
 obtain ⟨s1, s2, s3, s4, s5, s6⟩ := hsm
 obtain ⟨o1, o2, o3⟩ := hso
 unfold doneD
 split
 ·rename_i hk
  rw [Bool.and_eq_true] at hk
  have hD := diskOk_P hk.1
  obtain ⟨l1, l2, l3, -⟩ := hD.small
  have hfl := hD.room.2.1
  split
  ·have g2 : (dirD d).length ≤ 40 := Nat.le_trans turnsL_len (by omega)
   have g6 : ∀ x, x ∈ dirD d → smLink 1048576 x := sm_turns s4 s6
   have hset : ∀ {k : Nat} {y : FileD}, y.Body.length ≤ 2097152 → ∀ x, x ∈ d.Files.set k y → x.Body.length ≤ 2097152 := fun hy x hx => by
    rcases List.mem_or_eq_of_mem_set hx with h | h
    ·have : x.Body.length ≤ 1048576 := s2 x h
     omega
    ·rw [h]; exact hy
   have hat : ∀ k, (fAt d.Files k).Body.length ≤ 1048576 := fun k => by
    unfold fAt
    rw [List.getD_eq_getElem?_getD]
    cases h : d.Files[k]? with
    | none => exact Nat.zero_le _
    | some y => exact s2 y (List.mem_of_getElem? h)
   have ft : ∀ x, x ∈ d.Files → x.Body.length ≤ 2097152 := fun x hx => Nat.le_trans (s2 x hx) (by decide)
   unfold doD
   split
   ·refine totDisk_bnd (by show (d.Files ++ _).length ≤ 11; rw [List.length_append]; simp; omega) (by show d.Kept.length ≤ 40; omega) (by show (d.Turns ++ _).length ≤ 31; rw [List.length_append]; simp; omega) (fun x hx => ?_) s4 (fun x hx => ?_)
    ·rcases List.mem_append.1 hx with h | h
     ·exact ft x h
     ·rw [List.mem_singleton.1 h]; exact Nat.zero_le _
    ·rcases List.mem_append.1 hx with h | h
     ·exact s6 x h
     ·rw [List.mem_singleton.1 h]; exact ⟨o1, Nat.zero_le _⟩
   ·split
    ·refine totDisk_bnd (by show (d.Files.set _ _).length ≤ 11; rw [List.length_set]; omega) (by show d.Kept.length ≤ 40; omega) (by show d.Turns.length ≤ 31; omega) (hset ?_) s4 s6
     show (_ ++ List.take _ _).length ≤ _
     have := hat (fileN (fuse1 d) op.Name)
     rw [List.length_append, List.length_take]
     have h3 : op.Data.length ≤ 1048576 := o3
     show (fAt d.Files _).Body.length + _ ≤ _
     omega
    ·split
     ·refine totDisk_bnd (by show (d.Files.set _ _).length ≤ 11; rw [List.length_set]; omega) (by show d.Kept.length ≤ 40; omega) (by show d.Turns.length ≤ 31; omega) (hset ?_) s4 s6
      exact Nat.le_trans (hat _) (by decide)
     ·split
      ·refine totDisk_bnd (Nat.le_trans (List.length_filter_le _ _) (by show d.Files.length ≤ 11; omega)) g2 (Nat.zero_le _) (fun x hx => ft x (List.mem_filter.1 hx).1) g6 (fun x hx => absurd hx List.not_mem_nil)
      ·refine totDisk_bnd (by show d.Files.length ≤ 11; omega) (by show d.Kept.length ≤ 40; omega) (by show (d.Turns ++ _).length ≤ 31; rw [List.length_append]; simp; omega) ft s4 (fun x hx => ?_)
       rcases List.mem_append.1 hx with h | h
       ·exact s6 x h
       ·rw [List.mem_singleton.1 h]; exact ⟨o1, o2⟩
  ·omega
 ·decide
theorem k59_ (A_s : Option Addr) (n_s c_s : Nat) (s : List LinkD) (w : World) (f_s : SlF encLink w A_s n_s s) (hn : n_s ≤ 268435456) :
    Calls Tryz.prog 65 #[.slice A_s n_s c_s] w fun e w' => ∃ A c u L1, e = .returned (.slice A n_s c) ∧ St w [] L1 w' ∧ OwnF encLink 82 (.slice A c c) u L1 ∧ n_s ≤ c ∧ u.take n_s = s := by
 have hl := f_s.len
 refine enter 8 Tryz.func65 rfl Tryz.ntmps65 rfl rfl ?_
 have hs1 := St.init w
 refine WC.r1 hs1 [] rfl (WC.seq (fun K2 hK2 => WC.sr (WL.r 1 hs1 [] rfl (WL.val rfl rfl rfl (Run.eqlNil Tryz.underlying33 rfl rfl rfl) (WL.nil ?_)))))
 refine WC.cq rfl (fun h3 qh3 => ?_) (fun h3 qh3 => ?_)
 ·obtain rfl : A_s = none := by simpa using qh3
  have h0 : n_s = 0 := SlF.none_ f_s
  have hs : s = [] := List.eq_nil_of_length_eq_zero (by omega)
  refine WC.r1 hs1 [] rfl (WC.ret (tkR ?_))
  clear hK2
  refine retV1 rfl (resV.tmp rfl) (⟨none, 0, [], [], by rw [h0], hs1.nil, OwnF.nil _ _, by omega, by rw [hs, List.take_nil]⟩)
 refine WC.skip (hK2 _ _ (WC.sr (WL.buildSlice hs1 Tryz.runUnderlying33 Tryz.sizeOf82 Tryz.zeroValue82 rfl rfl rfl rfl rfl rfl rfl rfl rfl rfl (fun b4 whs5 hs5 => WL.r 1 hs5 [] rfl ?_))))
 refine WL.appendFull hs5 (SlF.src (SlF.st0 f_s hs5) Tryz.underlying33) Tryz.underlying33 inf82 rfl rfl rfl rfl rfl rfl rfl rfl rfl rfl ?_ (fun A9 c10 L6 whs7 hs7 hc11 ho8 => ?_)
 · omega
 replace hs7 := St.back [_] hs7
 refine WL.r 1 hs7 [] rfl (WL.nil (WC.ret (retV1 rfl (resV.tmp rfl) (⟨A9, c10, _, _, by rw [hl], (St.keep1 (hs7.fr L6)), ho8, by omega, by rw [List.take_append_of_le_length (by omega), List.take_of_length_le (by omega)]⟩))))
theorem k60_ (A_dir : Option Addr) (n_dir c_dir : Nat) (dir : List LinkD) (l_Name : ByteArray) (l_Id : Int) (w : World) (f_dir : SlF encLink w A_dir n_dir dir) (hp : sortedL dir) (hno : ∀ x, x ∈ dir → x.Name ≠ l_Name) (hn : n_dir ≤ 1048576) :
    Calls Tryz.prog 95 #[.slice A_dir n_dir c_dir, .agg #[.string l_Name, i64 l_Id]] w fun e w' => ∃ A c L1, e = .returned (.slice A (withL dir l_Name l_Id).length c) ∧ St w [] L1 w' ∧ OwnF encLink 82 (.slice A (withL dir l_Name l_Id).length c) (withL dir l_Name l_Id) L1 := by
 have hl := f_dir.len
 refine enter 19 Tryz.func95 rfl Tryz.ntmps95 rfl rfl ?_
 have hs1 := St.init w
 refine WC.sr (WL.bx hs1 rfl (fun b2 _ hs3 => WL.r 1 hs3 [] rfl (WL.nil (WC.sr (WL.r 2 hs3 [0] rfl ?_)))))
 refine WL.cl Tryz.call100 rfl (k57_ _ _ _ _ _ _ _ (SlF.st0 f_dir hs3) ?_ ?_) ?_
 iterate 2 first | assumption | rfl | omega
 rintro _ whs4 ⟨rfl, hs4⟩
 replace hs4 := hs3.call0 hs4
 refine ⟨_, rfl, WL.r 5 hs4 [] rfl (WL.nil (WC.seq (fun K5 hK5 => WC.rH hs4 hs4 (fun _ hs6 => ?_))))⟩
 refine WH.rn [0, 2, 3] hs6 [0] rfl rfl (WH.all [1, 4] (by kernel_rfl) rfl (WHs.cons (i := 1) rfl ?_ (WHs.cons (i := 4) rfl ?_ WHs.nil)))
 ·refine WL.cl Tryz.call65 rfl (k59_ _ _ _ _ _ (SlF.st0 f_dir hs6) ?_) ?_
  · first | assumption | rfl | omega
  rintro _ whs7 ⟨A8, c9, u10, L1_11, rfl, hs7, ho12, hcap13, hu14⟩
  replace hs7 := hs6.callF hs7
  refine ⟨_, rfl, ?_⟩
  replace hs7 := St.back [_] hs7
  have hcap9 := hcap13
  have hu9 := hu14
  have hle9 := lowN_le dir l_Name
  refine WL.nil ⟨(hs7.rm L1_11), WH.o1 4 rfl (WL.buildSlice hs7 Tryz.runUnderlying33 Tryz.sizeOf82 Tryz.zeroValue82 rfl rfl rfl rfl rfl rfl rfl rfl rfl rfl (fun b15 whs16 hs16 => WL.nil ⟨(hs16.d1.rm L1_11), WH.o1 5 rfl ?_⟩))⟩
  refine WL.cl Tryz.call103 rfl (k58_ _ _ _ _ _ _ _ _ _ _ ho12 (hs16.ow L1_11) (hs16.own _ (nthL_mem (i := 0) rfl)).1 (St.sepOwn (hs16.fr L1_11) (nthL_mem (i := 0) rfl)) ?_ ?_ ?_) ?_
  iterate 3 first | assumption | rfl | omega
  rintro _ whs17 ⟨A18, c19, L1_20, rfl, hs17, ho21⟩
  replace hs17 := St.lend (hs16.fr L1_11) hs17
  refine ⟨_, rfl, ?_⟩
  replace hs17 := St.back [_, _] hs17
  refine WL.nil ⟨(hs17.d1.rm L1_20), WH.rn [6] (hs17.d1.rm L1_20) [] rfl rfl (WH.dn (hK5 _ _ (WC.ret (retV1 rfl (resV.tmp rfl) ?_))))⟩
  have hx_ : _ = withL dir l_Name l_Id := OwnF.eqOf ho21 (by rw [hu9, withL_low hno hp])
  refine ⟨A18, c19, _, congrArg (fun q => Ending.returned (Value.slice A18 q c19)) ?_, (St.keep1 (hs17.fr L1_20)), ?_⟩
  · rw [withL_len]; omega
  · have h9 := OwnF.relen ho21 (show n_dir + 1 = (withL dir l_Name l_Id).length by rw [withL_len]; omega); rw [hx_] at h9; exact h9
 refine WL.buildSlice hs6 Tryz.runUnderlying33 Tryz.sizeOf82 Tryz.zeroValue82 rfl rfl rfl rfl rfl rfl rfl rfl rfl rfl (fun b22 whs23 hs23 => WL.nil ⟨hs23.d1, WH.o1 1 rfl ?_⟩)
 refine WL.cl Tryz.call65 rfl (k59_ _ _ _ _ _ (SlF.st0 f_dir hs23) ?_) ?_
 · first | assumption | rfl | omega
 rintro _ whs24 ⟨A25, c26, u27, L1_28, rfl, hs24, ho29, hcap30, hu31⟩
 replace hs24 := hs23.callF hs24
 refine ⟨_, rfl, ?_⟩
 replace hs24 := St.back [_, _] hs24
 have hcap9 := hcap30
 have hu9 := hu31
 have hle9 := lowN_le dir l_Name
 refine WL.nil ⟨(hs24.d1.rm L1_28), WH.o1 5 rfl (WL.cl Tryz.call103 rfl (k58_ _ _ _ _ _ _ _ _ _ _ ho29 (hs24.ow L1_28) (hs24.own _ (nthL_mem (i := 0) rfl)).1 (St.sepOwn (hs24.fr L1_28) (nthL_mem (i := 0) rfl)) ?_ ?_ ?_) ?_)⟩
 iterate 3 first | assumption | rfl | omega
 rintro _ whs32 ⟨A33, c34, L1_35, rfl, hs32, ho36⟩
 replace hs32 := St.lend (hs24.fr L1_28) hs32
 refine ⟨_, rfl, ?_⟩
 replace hs32 := St.back [_, _] hs32
 refine WL.nil ⟨(hs32.d1.rm L1_35), WH.rn [6] (hs32.d1.rm L1_35) [] rfl rfl (WH.dn (hK5 _ _ (WC.ret (retV1 rfl (resV.tmp rfl) ?_))))⟩
 have hx_ : _ = withL dir l_Name l_Id := OwnF.eqOf ho36 (by rw [hu9, withL_low hno hp])
 refine ⟨A33, c34, _, congrArg (fun q => Ending.returned (Value.slice A33 q c34)) ?_, (St.keep1 (hs32.fr L1_35)), ?_⟩
 · rw [withL_len]; omega
 · have h9 := OwnF.relen ho36 (show n_dir + 1 = (withL dir l_Name l_Id).length by rw [withL_len]; omega); rw [hx_] at h9; exact h9
set_option maxHeartbeats 2000000 in
theorem k61_ (A_dir : Option Addr) (n_dir c_dir : Nat) (dir : List LinkD) (t_Kind : Int) (t_Name : ByteArray) (t_To : ByteArray) (t_Id : Int) (w : World) (f_dir : SlF encLink w A_dir n_dir dir) (hp : sortedL dir) (hn : n_dir ≤ 1000000) (hz : ∀ x, x ∈ dir → smLink 549755813888 x) (hz1 : t_Name.size ≤ 549755813888) :
    Calls Tryz.prog 81 #[.slice A_dir n_dir c_dir, .agg #[i64 t_Kind, .string t_Name, .string t_To, i64 t_Id]] w fun e w' => ∃ A c xs L1, e = .returned (.tuple #[.slice A (List.length xs) c, .bool (appOk dir (⟨t_Kind, t_Name, t_To, t_Id⟩ : TurnD))]) ∧ St w [] L1 w' ∧ OwnF encLink 82 (.slice A (List.length xs) c) xs L1 ∧ (appOk dir (⟨t_Kind, t_Name, t_To, t_Id⟩ : TurnD) = true → xs = turnL dir (⟨t_Kind, t_Name, t_To, t_Id⟩ : TurnD)) := by
 have hl := f_dir.len
 have hll1 := lessL_len (dir := dir) (n := t_Name)
 have hll2 := lessL_len (dir := lessL dir t_Name) (n := t_To)
 have hps := sorted_less (n := t_To) (sorted_less (n := t_Name) hp)
 have hns : ∀ x, x ∈ lessL (lessL dir t_Name) t_To → x.Name ≠ t_To := fun x hx => (lessL_all hx).2
 refine enter 61 Tryz.func81 rfl Tryz.ntmps81 rfl rfl ?_
 have hs1 := St.init w
 refine WC.sr (WL.bx hs1 rfl (fun b2 _ hs3 => WL.r 2 hs3 [] rfl (WL.nil (WC.sr (WL.r 3 hs3 [0] rfl ?_)))))
 refine WL.cl Tryz.call67 rfl (k48_ _ _ _ _ _ _ (SlF.st0 f_dir hs3) ?_) ?_
 · first | assumption | rfl | omega
 rintro _ whs4 ⟨rfl, hs4⟩
 replace hs4 := hs3.call0 hs4
 refine ⟨_, rfl, WL.r 1 hs4 [] rfl (WL.nil (WC.seq (fun K5 hK5 => WC.r1 hs4 [0] rfl ?_)))⟩
 refine WC.cq rfl (fun h6 qh6 => ?_) (fun h6 qh6 => ?_)
 ·have k1 : t_Kind = 1 := by have h9 := h6; simpa using h9
  refine WC.seq (fun K7 hK7 => WC.r1 hs4 [] rfl ?_)
  refine WC.cq rfl (fun h8 qh8 => ?_) (fun h8 qh8 => ?_)
  ·have hh : hasN dir t_Name = true := has_idx (by have h9 := h8; simpa using h9)
   have hap : appOk dir (⟨t_Kind, t_Name, t_To, t_Id⟩ : TurnD) = false := by unfold appOk; rw [if_pos k1, hh]; rfl
   refine WC.r1 hs4 [] rfl (WC.ret (tkR (tkR ?_)))
   clear hK7 hK5
   refine retV2 rfl (resV.tmp rfl) (resV.tmp rfl) ?_
   exact ⟨none, 0, [], [], by rw [hap]; rfl, hs4.nil, OwnF.nil _ _, fun h9 => by rw [hap] at h9; cases h9⟩
  have hh : hasN dir t_Name = false := has_no (by have h9 := h8; simpa using h9)
  have hap : appOk dir (⟨t_Kind, t_Name, t_To, t_Id⟩ : TurnD) = true := by unfold appOk; rw [if_pos k1, hh]; rfl
  have hno := hasN_not hh
  refine WC.skip (hK7 _ _ (WC.sr (WL.r 5 hs4 [0, 0] rfl ?_)))
  refine WL.val rfl rfl rfl (Run.build rfl rfl rfl rfl (built_82_0_1 _ _)) (WL.cl Tryz.call95 rfl (k60_ _ _ _ _ _ _ _ (SlF.st0 f_dir hs4) ?_ ?_ ?_) ?_)
  iterate 3 first | assumption | rfl | omega
  rintro _ whs9 ⟨A10, c11, L1_12, rfl, hs9, ho13⟩
  replace hs9 := hs4.callF hs9
  refine ⟨_, rfl, ?_⟩
  replace hs9 := St.back [_] hs9
  refine WL.r 2 hs9 [] rfl (WL.nil (WC.ret (tkR ?_)))
  clear hK5
  refine retV2 rfl (resV.tmp rfl) (resV.tmp rfl) ?_
  have hx_ : _ = turnL dir (⟨t_Kind, t_Name, t_To, t_Id⟩ : TurnD) := OwnF.eqOf ho13 (by unfold turnL; first | (rw [if_pos k1]; done) | (rw [if_neg k1, if_pos k4, hfi]; done) | (rw [if_neg k1, if_neg k4]; done))
  have hn_ := OwnF.len_ ho13
  rw [hx_] at hn_
  have h9_ := ho13
  rw [hx_] at h9_
  refine ⟨A10, c11, turnL dir (⟨t_Kind, t_Name, t_To, t_Id⟩ : TurnD), _, by rw [hap]; first | rfl | (rw [hx_]; done) | (rw [hn_]; rfl), (St.keep1 (hs9.fr L1_12)), ?_, fun _ => rfl⟩
  first | exact h9_ | exact OwnF.relen h9_ (by omega)
 have k1 : ¬ t_Kind = 1 := by have h9 := h6; simpa using h9
 refine WC.skip (hK5 _ _ (WC.seq (fun K14 hK14 => WC.sr (WL.r 3 hs4 [] rfl ?_))))
 apply WL.gO 10 Acts.nil hs4 rfl
 ·intro g15 J16
  have qg15 := g15
  try simp only [bf, within_iff, within_not] at qg15
  refine WL.runA tbk 4 (Acts.nil.cons (j := 2) rfl g15) hs4 [0] rfl ⟨rfl, trivial⟩ (WL.pA tbk 5 (Acts.nil.cons (j := 2) rfl g15) hs4 [0, 0] rfl rfl rfl rfl (fun g_ => ⟨rfl, rfl, trivial⟩) (WL.eO 5 Acts.nil J16 hs4 g15 rfl rfl))
 intro _ hs17
 refine WL.nil (WC.cq rfl (fun h18 qh18 => ?_) (fun h18 qh18 => ?_))
 ·have hap : appOk dir (⟨t_Kind, t_Name, t_To, t_Id⟩ : TurnD) = false := app_no k1 (by have h9 := h18; first | exact h9 | simpa using h9)
  refine WC.r1 hs17 [] rfl (WC.ret (tkR ?_))
  clear hK14
  refine retV2 rfl (resV.tmp rfl) (resV.tmp rfl) ?_
  exact ⟨none, 0, [], [], by rw [hap]; rfl, hs17.nil, OwnF.nil _ _, fun h9 => by rw [hap] at h9; cases h9⟩
 obtain ⟨i9, hi9, hf9, hg9, hap⟩ := app_yes (dir := dir) (t := (⟨t_Kind, t_Name, t_To, t_Id⟩ : TurnD)) k1 (by have h9 := h18; first | exact h9 | simpa using h9)
 have hfi : (gat encLink dir i9).Id = findL dir t_Name := hg9
 refine WC.skip (hK14 _ _ (WC.seq (fun K19 hK19 => WC.rH hs17 hs17 (fun _ hs20 => ?_))))
 refine WH.rn [0, 1] hs20 [] rfl rfl ?_
 refine WH.take 2 rfl (by kernel_rfl) rfl rfl rfl hs20 (fun w_ hs_ => (Run.idxK (i9) Tryz.runUnderlying33 Tryz.sizeOf82 rfl rfl rfl ?_ ?_ ?_)) ?_
 · exact SlF.some_ (SlF.st0 f_dir (hs_ : St _ _ _ _))
 · omega
 · omega
 refine WH.take 3 rfl (by kernel_rfl) rfl rfl rfl hs20 (fun w_ hs_ => (Run.fieldO Tryz.runUnderlying82 rfl rfl rfl Tryz.sizeOf3 rfl)) ?_
 refine WH.take 4 rfl (by kernel_rfl) rfl rfl rfl hs20 (fun w_ hs_ => (Run.load Tryz.isAgg3 rfl rfl (SlF.fld (SlF.st0 f_dir (hs_ : St _ _ _ _)) ?_ rfl))) ?_
 · omega
 refine WH.rn [5, 6, 7] hs20 [0] rfl rfl (WH.o1 8 rfl (WL.cl Tryz.call96 rfl (k53_ _ _ _ _ _ _ (SlF.st0 f_dir hs20) ?_) ?_))
 · first | assumption | rfl | omega
 rintro _ whs21 ⟨A22, c23, L1_24, rfl, hs21, ho25⟩
 replace hs21 := hs20.callF hs21
 refine ⟨_, rfl, ?_⟩
 replace hs21 := St.back [_] hs21
 refine WL.nil ⟨(hs21.rm L1_24), WH.rn [9, 10] (hs21.rm L1_24) [] rfl rfl (WH.dn (hK19 _ _ (WC.seq (fun K26 hK26 => WC.r1 hs21 [0] rfl ?_))))⟩
 refine WC.cq rfl (fun h27 qh27 => ?_) (fun h27 qh27 => ?_)
 ·have k4 : t_Kind = 4 := by have h9 := h27; simpa using h9
  refine WC.rH hs21 hs21 (fun _ hs28 => ?_)
  refine WH.rn [0, 1, 2, 4, 5, 6] hs28 [0, 0] rfl rfl ?_
  refine WH.take 7 rfl (by kernel_rfl) rfl rfl rfl hs28 (fun w_ hs_ => (Run.build rfl rfl rfl rfl (built_82_0_1 _ _))) ?_
  refine WH.o1 3 rfl (WL.cl Tryz.call96 rfl (k53_ _ _ _ _ _ _ (SlF.ofOwn ho25 (hs28.ow L1_24)) ?_) ?_)
  · first | assumption | rfl | omega
  rintro _ whs29 ⟨A30, c31, L1_32, rfl, hs29, ho33⟩
  replace hs29 := hs28.callF hs29
  refine ⟨_, rfl, ?_⟩
  replace hs29 := St.back [_] hs29
  refine WL.nil ⟨(hs29.rm L1_32), WH.o1 8 rfl (WL.cl Tryz.call95 rfl (k60_ _ _ _ _ _ _ _ (SlF.ofOwn ho33 (hs29.ow L1_32)) ?_ ?_ ?_) ?_)⟩
  iterate 3 first | assumption | rfl | omega
  rintro _ whs34 ⟨A35, c36, L1_37, rfl, hs34, ho38⟩
  replace hs34 := hs29.callF hs34
  refine ⟨_, rfl, ?_⟩
  replace hs34 := St.back [_] hs34
  refine WL.nil ⟨((hs34.rm L1_37).rm L1_32), WH.rn [9] ((hs34.rm L1_37).rm L1_32) [] rfl rfl (WH.dn (hK26 _ _ (WC.r1 hs34 [] rfl (WC.ret (retV2 rfl (resV.tmp rfl) (resV.tmp rfl) ?_)))))⟩
  have hx_ : _ = turnL dir (⟨t_Kind, t_Name, t_To, t_Id⟩ : TurnD) := OwnF.eqOf ho38 (by unfold turnL; first | (rw [if_pos k1]; done) | (rw [if_neg k1, if_pos k4, hfi]; done) | (rw [if_neg k1, if_neg k4]; done))
  have hn_ := OwnF.len_ ho38
  rw [hx_] at hn_
  have h9_ := ho38
  rw [hx_] at h9_
  refine ⟨A35, c36, turnL dir (⟨t_Kind, t_Name, t_To, t_Id⟩ : TurnD), _, by rw [hap]; first | rfl | (rw [hx_]; done) | (rw [hn_]; rfl), (St.keep1 (hs34.fr L1_37)), ?_, fun _ => rfl⟩
  first | exact h9_ | exact OwnF.relen h9_ (by omega)
 have k4 : ¬ t_Kind = 4 := by have h9 := h27; simpa using h9
 refine WC.skip (hK26 _ _ (WC.r1 hs21 [] rfl (WC.ret (retV2 rfl (resV.tmp rfl) (resV.tmp rfl) ?_))))
 have hx_ : _ = turnL dir (⟨t_Kind, t_Name, t_To, t_Id⟩ : TurnD) := OwnF.eqOf ho25 (by unfold turnL; first | (rw [if_pos k1]; done) | (rw [if_neg k1, if_pos k4, hfi]; done) | (rw [if_neg k1, if_neg k4]; done))
 have hn_ := OwnF.len_ ho25
 rw [hx_] at hn_
 have h9_ := ho25
 rw [hx_] at h9_
 refine ⟨A22, c23, turnL dir (⟨t_Kind, t_Name, t_To, t_Id⟩ : TurnD), _, by rw [hap]; first | rfl | (rw [hx_]; done) | (rw [hn_]; rfl), (St.keep1 (hs21.fr L1_24)), ?_, fun _ => rfl⟩
 first | exact h9_ | exact OwnF.relen h9_ (by omega)
set_option maxHeartbeats 4000000 in
theorem k62_ (d : DiskR) (w : World) (f_d : okDiskR 549755813888 w d) (hb : totDisk d.dat ≤ 1048576) (hx1 : -9223372036854775807 ≤ d.Next) (hx2 : d.Next ≤ 9223372036854775807) :
    Calls Tryz.prog 61 #[.agg #[i64 d.Room, i64 d.Fuse, i64 d.Next, .slice d.Files.A d.Files.n d.Files.c, .slice d.Kept.A d.Kept.n d.Kept.c, .slice d.Turns.A d.Turns.n d.Turns.c]] w fun e w' => e = .returned (.bool (filesOk d.Next d.dat.Files && (decide ((d.Files.n : Int) ≤ 10) && decide (((usedF d.dat.Files : Nat) : Int) ≤ d.Room)))) ∧ St w [] [] w' := by
 have nb_d_Files := f_d.Files_n
 have nl_d_Files := f_d.Files.sl.len
 have nb_d_Kept := f_d.Kept_n
 have nl_d_Kept := f_d.Kept.len
 have nb_d_Turns := f_d.Turns_n
 have nl_d_Turns := f_d.Turns.len
 let w0 := w
 obtain ⟨⟨hb1, hb2, hb3⟩, hb4⟩ := totDisk_facts hb
 have hl1 := f_d.Files.sl.len
 have hl2 := f_d.Kept.len
 have hl3 := f_d.Turns.len
 have hm1 : d.Files.n ≤ 1048576 := by rw [← hl1, ← List.length_map (f := FileR.dat)]; exact hb1
 have hm2 : d.Kept.n ≤ 1048576 := by rw [← hl2]; exact hb2
 have hm3 : d.Turns.n ≤ 1048576 := by rw [← hl3]; exact hb3
 refine enter 57 Tryz.func61 rfl Tryz.ntmps61 rfl rfl ?_
 have hs1 := St.init w
 refine WC.sr (WL.bx hs1 rfl (fun b2 _ hs3 => WL.r 1 hs3 [] rfl (WL.nil (WC.seq (fun K4 hK4 => WC.r1 hs3 [0] rfl (WC.block ?_))))))
 refine WC.lS [1, 6, 7] rfl hs3 (fun k_ f w' => ∃ (i : Nat), k_ = d.Files.n - i ∧ (i ≤ d.Files.n) ∧ (∀ j, j < i → fileOkAt d.Next d.dat.Files j = true) ∧ Sub [(8, .int .i64 i)] f) ((fun (i : Nat) => d.Files.n - i) (0)) ?_ ?_
 ·refine ⟨0, rfl, ?_, ?_, ⟨rfl, trivial⟩⟩
  · exact Nat.zero_le _
  · exact fun j hj => absurd hj (by omega)
 clear hs3
 rintro _ f w ⟨i, rfl, p0, p1, hG⟩ hF hs5
 refine WC.sub _ (hG.app hF) ?_
 clear hG hF
 refine WC.r1 hs5 [] rfl (WC.seq (fun K6 hK6 => ?_))
 refine WC.cq rfl (fun h7 qh7 => ?_) (fun h7 qh7 => ?_)
 ·have hbl := (f_d.Files.all _ (gat_mem (F := encFileR) (xs := d.Files.xs) (k := i) (by omega))).Body.len
  refine WC.skip (hK6 _ _ (WC.seq (fun K8 hK8 => WC.block (WC.sr (WL.r 1 hs5 [] rfl ?_)))))
  refine WL.val rfl rfl rfl (Run.idxN Tryz.runUnderlying32 Tryz.sizeOf58 rfl rfl rfl ?_ ?_ ?_) ?_
  · exact SlF.some_ (SlF.st0 f_d.Files.sl hs5)
  · omega
  · omega
  refine WL.val rfl rfl rfl (Run.loadA Tryz.isAgg58 Tryz.sizeOf58 rfl rfl (SlF.whole (SlF.st0 f_d.Files.sl hs5) ?_)) ?_
  · omega
  refine WL.al hs5 Tryz.zeroValue58 rfl rfl (fun b9 _ hs10 => WL.r 1 hs10 [] rfl (WL.st tbk hs10 0 rfl rfl (fun _ hs11 => WL.nil (WC.sq1 hs11 (WQ.r 5 [0, 1] rfl ?_)))))
  refine WQ.call rfl rfl rfl (fun w_ hs_ => (Run.call Tryz.call60 rfl rfl rfl)) (fun w_ hs_ => (k0_ _ _ _ _).mono fun e_ w_ h_ => ⟨h_.1, (hs_ : St _ _ _ _).call0 h_.2⟩) ?_
  refine WQ.r 2 [] rfl ?_
  apply WQ.gO 14 Acts.nil rfl
  ·intro g12 J13
   have qg12 := g12
   try simp only [bf, within_iff, within_not] at qg12
   refine WQ.runA tbk 3 (Acts.nil.cons (j := 7) rfl g12) [] rfl trivial ?_
   apply WQ.gA 10 (Acts.nil.cons (j := 7) rfl g12) rfl
   ·intro g14 J15
    have qg14 := g14
    try simp only [bf, within_iff, within_not] at qg14
    refine WQ.runA tbk 4 (Acts.nil.cons (j := 10) rfl g14) [1] rfl ⟨by omega, rfl, trivial⟩ ?_
    refine WQ.val (wantT rfl g14) rfl rfl (fun w_ hs_ => (Run.idxK ((i - 1)) Tryz.runUnderlying32 Tryz.sizeOf58 rfl rfl rfl ?_ ?_ ?_)) ?_
    · exact SlF.some_ (SlF.st0 f_d.Files.sl (hs_ : St _ _ _ _))
    · omega
    · omega
    refine WQ.val (wantT rfl g14) rfl rfl (fun w_ hs_ => (Run.fieldO Tryz.runUnderlying58 rfl rfl rfl Tryz.sizeOf3 rfl)) ?_
    refine WQ.val (wantT rfl g14) rfl rfl (fun w_ hs_ => (Run.load Tryz.isAgg3 rfl rfl (SlF.fld (SlF.st0 f_d.Files.sl (hs_ : St _ _ _ _)) ?_ rfl))) ?_
    · omega
    refine WQ.runA tbk 3 (Acts.nil.cons (j := 10) rfl g14) [0] rfl ⟨rfl, trivial⟩ (WQ.eA 10 (Acts.nil.cons (j := 7) rfl g12) J15 g14 rfl rfl)
   exact WQ.eO 4 Acts.nil J13 g12 rfl rfl
  refine WQ.r 1 [] rfl ?_
  apply WQ.gO 7 Acts.nil rfl
  ·intro g16 J17
   have qg16 := g16
   try simp only [bf, within_iff, within_not] at qg16
   refine WQ.runA tbk 5 (Acts.nil.cons (j := 23) rfl g16) [0, 0] rfl ⟨rfl, rfl, trivial⟩ ?_
   refine WQ.call (wantF rfl g16) rfl rfl (fun w_ hs_ => (Run.call Tryz.call60 rfl rfl rfl)) (fun w_ hs_ => (k0_ _ _ _ _).mono fun e_ w_ h_ => ⟨h_.1, (hs_ : St _ _ _ _).call0 h_.2⟩) ?_
   refine WQ.runA tbk 1 (Acts.nil.cons (j := 23) rfl g16) [] rfl trivial (WQ.eO 7 Acts.nil J17 g16 rfl rfl)
  refine WQ.nil (fun _ (hs18 : St _ _ _ _) => ?_)
  refine WC.cq rfl (fun h19 qh19 => ?_) (fun h19 qh19 => ?_)
  ·have hbad : filesOk d.Next d.dat.Files = false := range_no (i := i) (by have h9 : d.dat.Files.length = d.Files.xs.length := List.length_map _; omega) (by rw [fileOk_impl (by omega) hbl, h19]; rfl)
   refine WC.r1 hs18 [] rfl (WC.ret (ibR (tkR (tkR (ibR (tkR ?_))))))
   clear hK8 hK4
   refine rtv rfl rfl hs18 ?_
   rw [hbad]; rfl
  have hgood : fileOkAt d.Next d.dat.Files i = true := by rw [fileOk_impl (by omega) hbl, h19]; rfl
  refine WC.skip (hK8 _ _ (WC.region (WL.r 2 hs18 [] rfl (WL.nil (tkN ?_)))))
  refine ⟨sbF rfl, (hs18.drop (by repeat (first | exact List.Sublist.refl _ | exact List.sublist_append_left _ _ | exact List.Sublist.trans (List.sublist_append_left _ _) (List.sublist_append_left _ _) | apply List.Sublist.cons | refine List.Sublist.trans ?_ (sR _)))), _, ?_, i + 1, rfl, ?_, ?_, ⟨rfl, trivial⟩⟩
  · omega
  · omega
  · intro j hj; rcases Nat.lt_or_ge j i with h_ | h_
    · exact p1 j h_
    · obtain rfl : j = i := by omega
      exact hgood
 have hF : filesOk d.Next d.dat.Files = true := range_all fun j hj => p1 j (by have h9 : d.dat.Files.length = d.Files.xs.length := List.length_map _; omega)
 refine WC.exit (hK4 _ _ (WC.sq1 hs5 (WQ.r 5 [0] rfl ?_)))
 apply WQ.gA 5 Acts.nil rfl
 ·intro g20 J21
  have qg20 := g20
  try simp only [bf, within_iff, within_not] at qg20
  refine WQ.runA tbk 1 (Acts.nil.cons (j := 4) rfl g20) [0] rfl ⟨rfl, trivial⟩ ?_
  refine WQ.call (wantT rfl g20) rfl rfl (fun w_ hs_ => (Run.call Tryz.call70 rfl rfl rfl)) (fun w_ hs_ => (k44_ d _ (okDiskR.st0 f_d (hs_ : St _ _ _ _)) ?_).mono fun e_ w_ h_ => ⟨h_.1, (hs_ : St _ _ _ _).call0 h_.2⟩) ?_
  · first | assumption | rfl | omega
  refine WQ.runA tbk 3 (Acts.nil.cons (j := 4) rfl g20) [0] rfl ⟨rfl, trivial⟩ (WQ.eA 5 Acts.nil J21 g20 rfl rfl)
 refine WQ.r 1 [] rfl (WQ.nil (fun _ (hs22 : St _ _ _ _) => WC.ret (rtv rfl rfl hs22 ?_)))
 rw [hF]; rfl
theorem k63_ (id : Int) (f : FileR) (w : World) :
    Calls Tryz.prog 84 #[i64 id, .agg #[i64 f.Id, .slice f.Body.A f.Body.n f.Body.c, i64 f.Safe]] w fun e w' => e = .returned (.bool (decide (id = f.Id))) ∧ St w [] [] w' := by
 refine enter 9 Tryz.func84 rfl Tryz.ntmps84 rfl rfl ?_
 have hs1 := St.init w
 refine WC.sr (WL.bx hs1 rfl (fun b2 _ hs3 => WL.r 1 hs3 [] rfl (WL.nil (WC.r1 hs3 [0] rfl (WC.ret (rtv rfl rfl hs3 ?_))))))
 rfl
theorem k64_ (A_a : Option Addr) (n_a c_a : Nat) (a : List Int) (A_b : Option Addr) (n_b c_b : Nat) (b : List FileR) (w : World) (f_a : SlF encI w A_a n_a a) (f_b : SlN encFileR (okFileR 549755813888) w A_b n_b b) (hn : n_a ≤ 1048576) :
    Calls Tryz.prog 83 #[.slice A_a n_a c_a, .slice A_b n_b c_b, .func (.func 84) #[] #[]] w fun e w' => e = .returned (.bool (decide (a = b.map (·.Id)))) ∧ St w [] [] w' := by
 have hla := f_a.len
 have hlb := f_b.sl.len
 refine enter 32 Tryz.func83 rfl Tryz.ntmps83 rfl rfl ?_
 have hs1 := St.init w
 refine WC.r1 hs1 [] rfl (WC.seq (fun K2 hK2 => WC.r1 hs1 [] rfl ?_))
 refine WC.cq rfl (fun h3 qh3 => ?_) (fun h3 qh3 => ?_)
 ·have hne : a ≠ b.map (·.Id) := fun h9 => by have h8 := congrArg List.length h9; rw [List.length_map] at h8; have h7 := h3; simp at h7; omega
  refine WC.r1 hs1 [] rfl (WC.ret (tkR ?_))
  clear hK2
  refine rtv rfl rfl hs1 ?_
  rw [decide_eq_false hne]
 have hab : a.length = b.length := by have h7 := h3; simp at h7; omega
 refine WC.skip (hK2 _ _ (WC.seq (fun K4 hK4 => WC.r1 hs1 [] rfl (WC.block ?_))))
 refine WC.lS [1, 2, 14, 15, 16] rfl hs1 (fun k_ f w' => ∃ (i : Nat), k_ = n_a - i ∧ (i ≤ n_a) ∧ (∀ j, j < i → gat encI a j = (gat encFileR b j).Id) ∧ Sub [(17, .int .i64 i)] f) ((fun (i : Nat) => n_a - i) (0)) ?_ ?_
 ·refine ⟨0, rfl, ?_, ?_, ⟨rfl, trivial⟩⟩
  · exact Nat.zero_le _
  · exact fun j hj => absurd hj (by omega)
 clear hs1
 rintro _ f w ⟨i, rfl, p0, p1, hG⟩ hF hs5
 refine WC.sub _ (hG.app hF) ?_
 clear hG hF
 refine WC.r1 hs5 [] rfl (WC.seq (fun K6 hK6 => ?_))
 refine WC.cq rfl (fun h7 qh7 => ?_) (fun h7 qh7 => ?_)
 ·refine WC.skip (hK6 _ _ (WC.seq (fun K8 hK8 => WC.block (WC.sr (WL.r 1 hs5 [] rfl ?_)))))
  refine WL.val rfl rfl rfl (Run.idxN Tryz.runUnderlying81 Tryz.sizeOf3 rfl rfl rfl ?_ ?_ ?_) ?_
  · exact SlF.some_ (SlF.st0 f_a hs5)
  · omega
  · omega
  refine WL.val rfl rfl rfl (Run.load Tryz.isAgg3 rfl rfl (SlF.one1 (SlF.st0 f_a hs5) ?_ rfl)) ?_
  · omega
  refine WL.r 2 hs5 [] rfl (WL.nil (WC.sr (WL.r 2 hs5 [] rfl (WL.val rfl rfl rfl (Run.idxN Tryz.runUnderlying32 Tryz.sizeOf58 rfl rfl rfl ?_ ?_ ?_) ?_))))
  · exact SlF.some_ (SlF.st0 f_b.sl hs5)
  · omega
  · omega
  refine WL.val rfl rfl rfl (Run.loadA Tryz.isAgg58 Tryz.sizeOf58 rfl rfl (SlF.whole (SlF.st0 f_b.sl hs5) ?_)) ?_
  · omega
  refine WL.al hs5 Tryz.zeroValue58 rfl rfl (fun b9 _ hs10 => WL.st tbk hs10 0 rfl rfl (fun _ hs11 => WL.nil (WC.sr (WL.r 3 hs11 [0] rfl (WL.cl Tryz.call84 rfl (k63_ _ _ _) ?_)))))
  rintro _ whs12 ⟨rfl, hs12⟩
  replace hs12 := hs11.call0 hs12
  refine ⟨_, rfl, WL.r 1 hs12 [] rfl (WL.nil (WC.cq rfl (fun h13 qh13 => ?_) (fun h13 qh13 => ?_)))⟩
  ·have hne : a ≠ b.map (·.Id) := fun h9 => by have h8 := ids_at (i := i) h9 (by omega); have h7 := h13; simp at h7; exact h7 h8
   refine WC.r1 hs12 [] rfl (WC.ret (ibR (tkR (tkR (ibR (tkR ?_))))))
   clear hK8 hK4
   refine rtv rfl rfl hs12 ?_
   rw [decide_eq_false hne]
  have hgood : gat encI a i = (gat encFileR b i).Id := by have h7 := h13; simpa using h7
  refine WC.skip (hK8 _ _ (WC.region (WL.r 2 hs12 [] rfl (WL.nil (tkN ?_)))))
  refine ⟨sbF rfl, (hs12.drop (by repeat (first | exact List.Sublist.refl _ | exact List.sublist_append_left _ _ | exact List.Sublist.trans (List.sublist_append_left _ _) (List.sublist_append_left _ _) | apply List.Sublist.cons | refine List.Sublist.trans ?_ (sR _)))), _, ?_, i + 1, rfl, ?_, ?_, ⟨rfl, trivial⟩⟩
  · omega
  · omega
  · intro j hj; rcases Nat.lt_or_ge j i with h_ | h_
    · exact p1 j h_
    · obtain rfl : j = i := by omega
      exact hgood
 have heq : a = b.map (·.Id) := ids_eq hab fun j hj => p1 j (by omega)
 refine WC.exit (hK4 _ _ (WC.r1 hs5 [] rfl (WC.ret (rtv rfl rfl hs5 ?_))))
 rw [decide_eq_true heq]
set_option maxHeartbeats 4000000 in
theorem k65_ (d : DiskR) (w : World) (f_d : okDiskR 549755813888 w d) (hb : totDisk d.dat ≤ 1048576) :
    Calls Tryz.prog 62 #[.agg #[i64 d.Room, i64 d.Fuse, i64 d.Next, .slice d.Files.A d.Files.n d.Files.c, .slice d.Kept.A d.Kept.n d.Kept.c, .slice d.Turns.A d.Turns.n d.Turns.c]] w fun e w' => e = .returned (.bool (linksI d.dat)) ∧ St w [] [] w' := by
 have nb_d_Files := f_d.Files_n
 have nl_d_Files := f_d.Files.sl.len
 have nb_d_Kept := f_d.Kept_n
 have nl_d_Kept := f_d.Kept.len
 have nb_d_Turns := f_d.Turns_n
 have nl_d_Turns := f_d.Turns.len
 let w0 := w
 obtain ⟨⟨hb1, hb2, hb3⟩, hb4⟩ := totDisk_facts hb
 have hl1 := f_d.Files.sl.len
 have hl2 := f_d.Kept.len
 have hl3 := f_d.Turns.len
 have hm1 : d.Files.n ≤ 1048576 := by rw [← hl1, ← List.length_map (f := FileR.dat)]; exact hb1
 have hm2 : d.Kept.n ≤ 1048576 := by rw [← hl2]; exact hb2
 have hm3 : d.Turns.n ≤ 1048576 := by rw [← hl3]; exact hb3
 refine enter 90 Tryz.func62 rfl Tryz.ntmps62 rfl rfl ?_
 have hs1 := St.init w
 refine WC.sr (WL.bx hs1 rfl (fun b2 _ hs3 => WL.r 1 hs3 [] rfl (WL.nil (WC.seq (fun K4 hK4 => WC.sr (WL.r 5 hs3 [0] rfl (WL.pO tbk 4 Acts.nil hs3 [0] rfl rfl rfl rfl (fun g_ => ⟨rfl, trivial⟩) ?_)))))))
 refine WL.nil (WC.cq rfl (fun h5 qh5 => ?_) (fun h5 qh5 => ?_))
 ·have hbad : linksI d.dat = false := linksI_len hl2 hl3 h5
  refine WC.r1 hs3 [] rfl (WC.ret (tkR ?_))
  clear hK4
  refine rtv rfl rfl hs3 ?_
  rw [hbad]
 obtain ⟨hT30, hK10⟩ := linksI_front h5
 refine WC.skip (hK4 _ _ (WC.sr (WL.buildF (F := encI) hs3 ([]) Tryz.runUnderlying81 Tryz.sizeOf3 Tryz.zeroValue3 rfl rfl rfl rfl rfl rfl rfl rfl rfl rfl rfl rfl (fun A9 c10 L6 whs7 hs7 ho8 => ?_))))
 replace hs7 := St.back [_] hs7
 refine WL.r 1 hs7 [] rfl (WL.nil (WC.seq (fun K11 hK11 => WC.r1 hs7 [0] rfl (WC.block ?_))))
 refine WC.lO [1, 19, 22, 23] rfl (hs7.fr L6) (fun k_ f L_ => ∃ (zs : List Int) (i : Nat) (A12 : Option Addr) (c13 : Nat), k_ = d.Kept.n - i ∧ (i ≤ d.Kept.n) ∧ (zs = (d.Kept.xs.take i).map (·.Id)) ∧ (∀ j, j < i → keptOkAt d.Kept.xs j = true) ∧ OwnF encI 3 (.slice A12 (zs.length) c13) (zs) L_ ∧ Sub [(3, .slice A12 (zs.length) c13), (24, .int .i64 i)] f) (((fun (zs : List Int) (i : Nat) => d.Kept.n - i) ([]) (0))) ?_ ?_
 ·refine ⟨[], 0, _, _, rfl, ?_, ?_, ?_, ho8, ⟨rfl, rfl, trivial⟩⟩
  · exact Nat.zero_le _
  · rfl
  · exact fun j hj => absurd hj (by omega)
 clear hs7
 rintro _ f w L14 ⟨zs, i, A12, c13, rfl, p0, p1, p2, ho15, hG⟩ hF hs16
 refine WC.sub _ (hG.app hF) ?_
 clear hG hF
 replace hs16 := St.back [_] hs16
 have hzl : zs.length ≤ d.Kept.n := by rw [p1, List.length_map, List.length_take]; omega
 refine WC.r1 hs16 [] rfl (WC.seq (fun K17 hK17 => ?_))
 refine WC.cq rfl (fun h18 qh18 => ?_) (fun h18 qh18 => ?_)
 ·have hkz : (gat encLink d.Kept.xs i).Name.size ≤ 549755813888 := f_d.Kept_s _ (gat_mem (F := encLink) (xs := d.Kept.xs) (k := i) (by omega))
  refine WC.skip (hK17 _ _ (WC.seq (fun K19 hK19 => WC.block (WC.sr (WL.r 1 hs16 [] rfl ?_)))))
  refine WL.val rfl rfl rfl (Run.idxN Tryz.runUnderlying33 Tryz.sizeOf82 rfl rfl rfl ?_ ?_ ?_) ?_
  · exact SlF.some_ (SlF.st0 f_d.Kept hs16)
  · omega
  · omega
  refine WL.val rfl rfl rfl (Run.loadA Tryz.isAgg82 Tryz.sizeOf82 rfl rfl (SlF.whole (SlF.st0 f_d.Kept hs16) ?_)) ?_
  · omega
  refine WL.al hs16 Tryz.zeroValue82 rfl rfl (fun b20 _ hs21 => WL.r 1 hs21 [] rfl (WL.st tbk hs21 0 rfl rfl (fun _ hs22 => WL.nil (WC.seq (fun K23 hK23 => WC.sq1 hs22 (WQ.r 2 [0] rfl ?_))))))
  refine WQ.call rfl rfl rfl (fun w_ hs_ => (Run.call Tryz.call63 rfl rfl rfl)) (fun w_ hs_ => (k9_ _ _ ?_).mono fun e_ w_ h_ => ⟨h_.1, (hs_ : St _ _ _ _).call0 h_.2⟩) ?_
  · first | assumption | rfl | omega
  refine WQ.r 2 [] rfl ?_
  apply WQ.gO 14 Acts.nil rfl
  ·intro g24 J25
   have qg24 := g24
   try simp only [bf, within_iff, within_not] at qg24
   refine WQ.runA tbk 3 (Acts.nil.cons (j := 4) rfl g24) [] rfl trivial ?_
   apply WQ.gA 10 (Acts.nil.cons (j := 4) rfl g24) rfl
   ·intro g26 J27
    have qg26 := g26
    try simp only [bf, within_iff, within_not] at qg26
    refine WQ.runA tbk 4 (Acts.nil.cons (j := 7) rfl g26) [1] rfl ⟨by omega, rfl, trivial⟩ ?_
    refine WQ.val (wantT rfl g26) rfl rfl (fun w_ hs_ => (Run.idxK ((i - 1)) Tryz.runUnderlying33 Tryz.sizeOf82 rfl rfl rfl ?_ ?_ ?_)) ?_
    · exact SlF.some_ (SlF.st0 f_d.Kept (hs_ : St _ _ _ _))
    · omega
    · omega
    refine WQ.val (wantT rfl g26) rfl rfl (fun w_ hs_ => (Run.fieldO Tryz.runUnderlying82 rfl rfl rfl Tryz.sizeOf9 rfl)) ?_
    refine WQ.val (wantT rfl g26) rfl rfl (fun w_ hs_ => (Run.load Tryz.isAgg9 rfl rfl (SlF.fld (SlF.st0 f_d.Kept (hs_ : St _ _ _ _)) ?_ rfl))) ?_
    · omega
    refine WQ.runA tbk 2 (Acts.nil.cons (j := 7) rfl g26) [0] rfl ⟨rfl, trivial⟩ ?_
    refine WQ.val (wantT rfl g26) rfl rfl (fun w_ hs_ => (Run.geqT rfl rfl rfl)) ?_
    exact WQ.eA 10 (Acts.nil.cons (j := 4) rfl g24) J27 g26 rfl rfl
   exact WQ.eO 4 Acts.nil J25 g24 rfl rfl
  refine WQ.nil (fun _ (hs28 : St _ _ _ _) => ?_)
  refine WC.cq rfl (fun h29 qh29 => ?_) (fun h29 qh29 => ?_)
  ·have hbad : linksI d.dat = false := linksI_kept (range_no (i := i) (by have h9 : d.dat.Kept.length = d.Kept.xs.length := rfl; omega) (by rw [kept_spec]; show (!_) = false; rw [show d.dat.Kept = d.Kept.xs from rfl, h29]; rfl))
   refine WC.r1 hs28 [] rfl (WC.ret (tkR (ibR (tkR (tkR (ibR (tkR ?_)))))))
   clear hK23 hK19 hK11
   refine rtv rfl rfl hs28 ?_
   rw [hbad]
  have hgood : keptOkAt d.Kept.xs i = true := by rw [kept_spec, h29]; rfl
  refine WC.skip (hK23 _ _ (WC.region (WL.r 3 hs28 [0] rfl (WL.buildSlice hs28 Tryz.runUnderlying81 Tryz.sizeOf3 Tryz.zeroValue3 rfl rfl rfl rfl rfl rfl rfl rfl rfl rfl (fun b30 whs31 hs31 => ?_)))))
  refine WL.appendG (hs31.fr L14) ho15 (srcF (F := encI) (ys := [(gat encLink d.Kept.xs i).Id]) Tryz.underlying81 rfl rfl (hs31.own _ (nthL_mem (i := 0) rfl)).1) Tryz.underlying81 inf3 rfl rfl rfl rfl rfl rfl rfl rfl rfl rfl ?_ (fun A35 c36 L32 whs33 hs33 ho34 => ?_)
  · simp; omega
  replace hs33 := St.back [_, _, _] hs33
  refine WL.r 1 hs33 [] rfl (WL.nil (hK19 _ _ (WC.region (WL.r 2 hs33 [] rfl (WL.nil (tkN ?_))))))
  replace hs33 := hs33.d1.d1
  refine ⟨sbF rfl, _, (hs33.fr L32), _, ?_, _, i + 1, _, _, rfl, ?_, ?_, ?_, ho34, ⟨rfl, rfl, trivial⟩⟩
  · omega
  · omega
  · rw [keptI_take (by omega), ← p1]
  · intro j hj; rcases Nat.lt_or_ge j i with h_ | h_
    · exact p2 j h_
    · obtain rfl : j = i := by omega
      exact hgood
 have hK : keptOk d.Kept.xs = true := range_all fun j hj => p2 j (by omega)
 refine WC.exit (hK11 _ _ (WC.r1 hs16 [0] rfl (WC.seq (fun K37 hK37 => WC.r1 hs16 [0] rfl (WC.block ?_)))))
 have hM47 := (St.grp2 (L1 := L14) (L2 := ([] : Hp)) [] ((hs16.fr ([] : Hp)).fr L14))
 refine WC.lV [1, 19, 25, 58, 59] rfl hM47 (fun k_ (a_ : Hp) f => ∃ (ys : List Int) (zs : List LinkD) (i n9 : Nat) (A39 : Option Addr) (c40 : Nat) (L41 : Hp) (A43 : Option Addr) (c44 : Nat) (L45 : Hp), k_ = d.Turns.n - i ∧ a_ = (L41 ++ L45) ∧ (i ≤ d.Turns.n) ∧ (ys = d.Kept.xs.map (·.Id) ++ made (d.Turns.xs.take i)) ∧ (zs = turnsL d.Kept.xs (d.Turns.xs.take i)) ∧ (runI d.Kept.xs (d.Turns.xs.take i) = true) ∧ OwnF encI 3 (.slice A39 (ys).length c40) (ys) L41 ∧ AnyF w0 encLink 82 (.slice A43 (n9) c44) (zs) L45 ∧ Sub [(3, .slice A39 (ys).length c40), (6, .slice A43 (n9) c44), (60, .int .i64 i)] f) (d.Turns.n) ?_ ?_
 ·refine ⟨zs, d.Kept.xs, 0, d.Kept.n, A12, c13, L14, _, _, ([] : Hp), rfl, rfl, ?_, ?_, ?_, ?_, ho15, (AnyF.rdo f_d.Kept), ⟨rfl, rfl, rfl, trivial⟩⟩
  · exact Nat.zero_le _
  · rw [p1, List.take_of_length_le (by omega)]; simp [made]
  · rfl
  · rfl
 rintro _ _ f w ⟨ys, zs, i, n9, A39, c40, L41, A43, c44, L45, rfl, rfl, r0, r1, r2, r3, ho42, ho46, hG⟩ hF hs48
 refine WC.sub _ (hG.app hF) ?_
 clear hG hF
 replace hs48 := St.ungrp2 [] hs48
 have hs49 := (hs48.fb b2)
 have hzl : zs.length = n9 := AnyF.cap ho46
 have hzn : zs.length ≤ 41 := by rw [r2]; have h9 := turnsL_len (dir := d.Kept.xs) (l := (d.Turns.xs.take i)); rw [List.length_take] at h9; omega
 have hyl : ys.length ≤ 41 := by rw [r1, List.length_append, List.length_map]; have h9 := made_len (d.Turns.xs.take i); rw [List.length_take] at h9; omega
 have hsz : sortedL zs := by rw [r2]; exact sorted_turns (kept_sorted hK) r3
 have hzz : ∀ x, x ∈ zs → smLink 549755813888 x := by rw [r2]; exact sm_turns f_d.Kept_s fun t ht => f_d.Turns_s t (List.mem_of_mem_take ht)
 refine WC.r1 hs49 [] rfl (WC.seq (fun K50 hK50 => ?_))
 refine WC.cq rfl (fun h51 qh51 => ?_) (fun h51 qh51 => ?_)
 ·obtain ⟨htz1, htz2⟩ := f_d.Turns_s _ (gat_mem (F := encTurn) (xs := d.Turns.xs) (k := i) (by omega))
  refine WC.skip (hK50 _ _ (WC.seq (fun K52 hK52 => WC.block (WC.sr ?_))))
  refine WL.val rfl rfl rfl (Run.idxN Tryz.runUnderlying34 Tryz.sizeOf60 rfl rfl rfl ?_ ?_ ?_) ?_
  · exact SlF.some_ (SlF.st0 f_d.Turns hs49)
  · omega
  · omega
  refine WL.val rfl rfl rfl (Run.loadA Tryz.isAgg60 Tryz.sizeOf60 rfl rfl (SlF.whole (SlF.st0 f_d.Turns hs49) ?_)) ?_
  · omega
  refine WL.al hs49 Tryz.zeroValue60 rfl rfl (fun b53 _ hs54 => WL.st tbk hs54 0 rfl rfl (fun _ hs55 => WL.nil (WC.seq (fun K56 hK56 => WC.sr (WL.r 1 hs55 [0] rfl ?_)))))
  refine WL.cl Tryz.call80 rfl (k35_ _ _ _ _ _ ?_ ?_) ?_
  iterate 2 first | assumption | rfl | omega
  rintro _ whs57 ⟨rfl, hs57⟩
  replace hs57 := hs55.call0 hs57
  refine ⟨_, rfl, WL.r 1 hs57 [] rfl (WL.nil (WC.cq rfl (fun h58 qh58 => ?_) (fun h58 qh58 => ?_)))⟩
  ·have hbad : linksI d.dat = false := linksI_run (runI_bad (dir := d.Kept.xs) (l := d.Turns.xs) (i := i) (by omega) (by rw [show isTurn (gat encTurn d.Turns.xs i) = false from by have h9 := h58; simpa using h9]; rfl))
   refine WC.r1 hs57 [] rfl (WC.ret (tkR (ibR (tkR (tkR (ibR (tkR ?_)))))))
   clear hK56 hK52 hK37
   refine rtv rfl rfl hs57 ?_
   rw [hbad]
  have hgood : isTurn (gat encTurn d.Turns.xs i) = true := by have h9 := h58; simpa using h9
  refine WC.skip (hK56 _ _ (WC.seq (fun K59 hK59 => WC.sr (WL.r 2 hs57 [0] rfl ?_))))
  refine WL.cl Tryz.call81 rfl (k61_ _ _ _ _ _ _ _ _ _ (AnyF.rd ho46 hs57 (hs57.ow L45)) ?_ ?_ ?_ ?_) ?_
  iterate 4 first | assumption | rfl | omega
  rintro _ whs60 ⟨A61, c62, xs63, L1_64, rfl, hs60, ho65, hx66⟩
  replace hs60 := hs57.callF hs60
  refine ⟨_, rfl, ?_⟩
  replace hs60 := St.back [_, _] hs60
  have hxx9 := hx66
  refine WL.r 5 hs60 [] rfl (WL.nil (WC.r1 hs60 [] rfl (WC.cq rfl (fun h67 qh67 => ?_) (fun h67 qh67 => ?_))))
  ·have hbad : linksI d.dat = false := linksI_run (runI_bad (dir := d.Kept.xs) (l := d.Turns.xs) (i := i) (by omega) (by rw [← r2, show appOk zs (gat encTurn d.Turns.xs i) = false from by have h9 := h67; simpa using h9, Bool.and_false]))
   refine WC.r1 hs60 [] rfl (WC.ret (tkR (ibR (tkR (tkR (ibR (tkR ?_)))))))
   clear hK59 hK52 hK37
   refine rtv rfl rfl hs60 ?_
   rw [hbad]
  have hapk : appOk zs (gat encTurn d.Turns.xs i) = true := by have h9 := h67; simpa using h9
  have hxx := hxx9 hapk
  refine WC.skip (hK59 _ _ (WC.r1 hs60 [0] rfl ?_))
  refine WC.cq rfl (fun h68 qh68 => ?_) (fun h68 qh68 => ?_)
  ·refine WC.region (WL.r 3 hs60 [0] rfl (WL.buildSlice hs60 Tryz.runUnderlying81 Tryz.sizeOf3 Tryz.zeroValue3 rfl rfl rfl rfl rfl rfl rfl rfl rfl rfl (fun b69 whs70 hs70 => ?_)))
   refine WL.appendG (hs70.fr L41) ho42 (srcF (F := encI) (ys := [(gat encTurn d.Turns.xs i).Id]) Tryz.underlying81 rfl rfl (hs70.own _ (nthL_mem (i := 0) rfl)).1) Tryz.underlying81 inf3 rfl rfl rfl rfl rfl rfl rfl rfl rfl rfl ?_ (fun A74 c75 L71 whs72 hs72 ho73 => ?_)
   · simp; omega
   replace hs72 := St.back [_, _, _] hs72
   refine WL.r 1 hs72 [] rfl (WL.nil (hK52 _ _ (WC.region (WL.r 2 hs72 [] rfl (WL.nil (tkN ?_))))))
   replace hs72 := (hs72.d1.d1.rm L45)
   have hF76 := (St.grp2 (L1 := L71) (L2 := L1_64) [] ((hs72.fr L1_64).fr L71))
   refine ⟨sbF rfl, _, hF76, _, ?_, _, _, i + 1, _, A74, c75, L71, A61, c62, L1_64, rfl, rfl, ?_, ?_, ?_, ?_, ho73, (AnyF.of ho65), ⟨rfl, rfl, rfl, trivial⟩⟩
   · omega
   · omega
   · rw [r1, made_take (by omega)]; first | (rw [if_pos (by simpa using h68)]; simp; done) | (rw [if_neg (by simpa using h68)]; simp; done)
   · rw [turnsL_take (by omega), ← r2]; exact hxx
   · exact runI_take (by omega) r3 hgood (by rw [← r2]; exact hapk)
  refine WC.skip (hK52 _ _ (WC.region (WL.r 2 hs60 [] rfl (WL.nil (tkN ?_)))))
  replace hs60 := (hs60.d1.rm L45)
  have hF77 := (St.grp2 (L1 := L41) (L2 := L1_64) [] ((hs60.fr L1_64).fr L41))
  refine ⟨sbF rfl, _, hF77, _, ?_, _, _, i + 1, _, A39, c40, L41, A61, c62, L1_64, rfl, rfl, ?_, ?_, ?_, ?_, ho42, (AnyF.of ho65), ⟨rfl, rfl, rfl, trivial⟩⟩
  · omega
  · omega
  · rw [r1, made_take (by omega)]; first | (rw [if_pos (by simpa using h68)]; simp; done) | (rw [if_neg (by simpa using h68)]; simp; done)
  · rw [turnsL_take (by omega), ← r2]; exact hxx
  · exact runI_take (by omega) r3 hgood (by rw [← r2]; exact hapk)
 have hR : runI d.Kept.xs d.Turns.xs = true := by rw [List.take_of_length_le (by omega)] at r3; exact r3
 have hys : ys = idsD d.dat := by rw [r1, List.take_of_length_le (by omega)]; rfl
 refine WC.exit (hK37 _ _ (WC.sr (WL.r 1 hs49 [] rfl ?_)))
 refine WL.cl Tryz.call82 rfl (k54_ _ _ _ _ ho42 (hs49.ow L41) ?_) ?_
 · first | omega | assumption
 rintro _ whs78 ⟨L1_79, rfl, hs78, ho80⟩
 replace hs78 := St.lend (hs49.fr L41) hs78
 refine ⟨_, rfl, ?_⟩
 replace hs78 := St.back [_] hs78
 refine WL.nil (WC.sr (WL.r 3 hs78 [0] rfl (WL.cl Tryz.call83 rfl (k64_ _ _ _ _ _ _ _ _ _ (SlF.ofOwn ho80 (hs78.ow L1_79)) (SlN.st0 okFileR.st0 f_d.Files hs78) ?_) ?_)))
 · first | assumption | rfl | omega
 rintro _ whs81 ⟨rfl, hs81⟩
 replace hs81 := hs78.call0 hs81
 refine ⟨_, rfl, WL.r 1 hs81 [] rfl (WL.nil (WC.ret (rtv rfl rfl hs81 ?_)))⟩
 rw [linksI_all hT30 hK10 hl2 hl3 hK hR, hys]
theorem k66_ (d : DiskR) (w : World) (f_d : okDiskR 549755813888 w d) (hb : totDisk d.dat ≤ 1048576) :
    Calls Tryz.prog 32 #[.agg #[i64 d.Room, i64 d.Fuse, i64 d.Next, .slice d.Files.A d.Files.n d.Files.c, .slice d.Kept.A d.Kept.n d.Kept.c, .slice d.Turns.A d.Turns.n d.Turns.c]] w fun e w' => e = .returned (.bool (diskOk d.dat)) ∧ St w [] [] w' := by
 have nb_d_Files := f_d.Files_n
 have nl_d_Files := f_d.Files.sl.len
 have nb_d_Kept := f_d.Kept_n
 have nl_d_Kept := f_d.Kept.len
 have nb_d_Turns := f_d.Turns_n
 have nl_d_Turns := f_d.Turns.len
 let w0 := w
 obtain ⟨⟨hb1, hb2, hb3⟩, hb4⟩ := totDisk_facts hb
 have hl1 := f_d.Files.sl.len
 have hl2 := f_d.Kept.len
 have hl3 := f_d.Turns.len
 have hm1 : d.Files.n ≤ 1048576 := by rw [← hl1, ← List.length_map (f := FileR.dat)]; exact hb1
 have hm2 : d.Kept.n ≤ 1048576 := by rw [← hl2]; exact hb2
 have hm3 : d.Turns.n ≤ 1048576 := by rw [← hl3]; exact hb3
 refine enter 24 Tryz.func32 rfl Tryz.ntmps32 rfl rfl ?_
 have hs1 := St.init w
 refine WC.sr (WL.bx hs1 rfl (fun b2 _ hs3 => WL.r 1 hs3 [] rfl (WL.nil (WC.sr (WL.r 2 hs3 [0] rfl (WL.cl Tryz.call60 rfl (k0_ _ _ _ _) ?_))))))
 rintro _ whs4 ⟨rfl, hs4⟩
 replace hs4 := hs3.call0 hs4
 refine ⟨_, rfl, WL.r 1 hs4 [] rfl ?_⟩
 apply WL.gA 3 Acts.nil hs4 rfl
 ·intro g5 J6
  have qg5 := g5
  try simp only [bf, within_iff, within_not] at qg5
  refine WL.runA tbk 2 (Acts.nil.cons (j := 3) rfl g5) hs4 [0] rfl ⟨rfl, trivial⟩ (WL.call (wantT rfl g5) rfl rfl (Run.call Tryz.call60 rfl rfl rfl) (k0_ _ _ _ _) ?_)
  rintro _ whs7 ⟨rfl, hs7⟩
  replace hs7 := hs4.call0 hs7
  refine ⟨_, rfl, WL.eA 3 Acts.nil J6 hs7 g5 rfl rfl⟩
 intro _ hs8
 refine WL.r 1 hs8 [] rfl ?_
 apply WL.gA 3 Acts.nil hs8 rfl
 ·intro g9 J10
  have qg9 := g9
  try simp only [bf, within_iff, within_not] at qg9
  refine WL.runA tbk 2 (Acts.nil.cons (j := 8) rfl g9) hs8 [0] rfl ⟨rfl, trivial⟩ (WL.call (wantT rfl g9) rfl rfl (Run.call Tryz.call60 rfl rfl rfl) (k0_ _ _ _ _) ?_)
  rintro _ whs11 ⟨rfl, hs11⟩
  replace hs11 := hs8.call0 hs11
  refine ⟨_, rfl, WL.eA 3 Acts.nil J10 hs11 g9 rfl rfl⟩
 intro _ hs12
 refine WL.r 1 hs12 [] rfl ?_
 apply WL.gA 2 Acts.nil hs12 rfl
 ·intro g13 J14
  have qg13 := g13
  try simp only [bf, within_iff, within_not] at qg13
  refine WL.runA tbk 1 (Acts.nil.cons (j := 13) rfl g13) hs12 [0] rfl ⟨rfl, trivial⟩ (WL.call (wantT rfl g13) rfl rfl (Run.call Tryz.call61 rfl rfl rfl) (k62_ d _ (okDiskR.st0 f_d hs12) ?_ ?_ ?_) ?_)
  iterate 3 first | assumption | rfl | omega
  rintro _ whs15 ⟨rfl, hs15⟩
  replace hs15 := hs12.call0 hs15
  refine ⟨_, rfl, WL.eA 2 Acts.nil J14 hs15 g13 rfl rfl⟩
 intro _ hs16
 refine WL.r 1 hs16 [] rfl ?_
 apply WL.gA 2 Acts.nil hs16 rfl
 ·intro g17 J18
  have qg17 := g17
  try simp only [bf, within_iff, within_not] at qg17
  refine WL.runA tbk 1 (Acts.nil.cons (j := 17) rfl g17) hs16 [0] rfl ⟨rfl, trivial⟩ (WL.call (wantT rfl g17) rfl rfl (Run.call Tryz.call62 rfl rfl rfl) (k65_ d _ (okDiskR.st0 f_d hs16) ?_) ?_)
  · first | assumption | rfl | omega
  rintro _ whs19 ⟨rfl, hs19⟩
  replace hs19 := hs16.call0 hs19
  refine ⟨_, rfl, WL.eA 2 Acts.nil J18 hs19 g17 rfl rfl⟩
 intro _ hs20
 refine WL.r 1 hs20 [] rfl (WL.nil (WC.ret (rtv rfl rfl hs20 ?_)))
 rw [← disk_impl hl1 hl2 hl3]
end Go.Proofs.YtgpdnpilglgklaaGreat
