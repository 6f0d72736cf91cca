/-
  What the proof stands on, part 5.
-/
import Derived.Test.YthfhhldbglaieaaGreatKF4
namespace Go.Proofs.YthfhhldbglaieaaGreat
open Go Go.RowKit
set_option linter.unusedVariables false
set_option linter.unusedSimpArgs false
set_option maxHeartbeats 2000000 in
theorem k117_ (m_ : Nat) : ∀ (A_t : Option Addr) (n_t c_t : Nat) (t : List NodeD) (at_ : Int) (i : Nat) (r_Pane r_X r_Y r_W r_H : Int) (S : Tr) (b_t b_o b_f b_p : Nat) (A_o : Option Addr) (c_o : Nat) (zs : List RectD) (L_o : Hp) (w : World) (f_t : SlF encNode w A_t n_t t) (g_t : SlF encH w (some ⟨b_t, 0, none⟩) 1 [⟨A_t, n_t, c_t⟩]) (g_p : SlF encFn w (some ⟨b_p, 0, none⟩) 1 [⟨.func 263, [.pointer (some ⟨b_t, 0, none⟩), .pointer (some ⟨b_o, 0, none⟩), .pointer (some ⟨b_f, 0, none⟩), .pointer (some ⟨b_p, 0, none⟩)]⟩]) (o_o : OwnF encRect 71 (.slice A_o zs.length c_o) zs L_o) (hh : ∀ p, p ∈ [(b_o, Obj.cells (List.toArray [.slice A_o (zs).length c_o]) 158 (0, 0)), (b_f, Obj.cells (List.toArray [.bool true]) 4 (0, 0))] ++ L_o → w.heap[p.1]? = some p.2) (hd : (([(b_o, Obj.cells (List.toArray [.slice A_o (zs).length c_o]) 158 (0, 0)), (b_f, Obj.cells (List.toArray [.bool true]) 4 (0, 0))] ++ L_o).map (·.1)).Nodup) (s_t : 0 < n_t → (adr A_t).block ∉ (([(b_o, Obj.cells (List.toArray [.slice A_o (zs).length c_o]) 158 (0, 0)), (b_f, Obj.cells (List.toArray [.bool true]) 4 (0, 0))] ++ L_o).map (·.1))) (v_t : 0 < 1 → (adr (some ⟨b_t, 0, none⟩)).block ∉ (([(b_o, Obj.cells (List.toArray [.slice A_o (zs).length c_o]) 158 (0, 0)), (b_f, Obj.cells (List.toArray [.bool true]) 4 (0, 0))] ++ L_o).map (·.1))) (v_p : 0 < 1 → (adr (some ⟨b_p, 0, none⟩)).block ∉ (([(b_o, Obj.cells (List.toArray [.slice A_o (zs).length c_o]) 158 (0, 0)), (b_f, Obj.cells (List.toArray [.bool true]) 4 (0, 0))] ++ L_o).map (·.1))) (hn : n_t ≤ 268435456) (hat : at_ = (i : Int)) (hS : At t i S) (hr : Fine (⟨r_Pane, r_X, r_Y, r_W, r_H⟩ : RectD)) (hz : zs.length + S.flat.length ≤ 268435456) (hm_ : S.flat.length = m_), Calls Tryz.prog 263 #[i64 at_, .agg #[i64 r_Pane, i64 r_X, i64 r_Y, i64 r_W, i64 r_H], .pointer (some ⟨b_t, 0, none⟩), .pointer (some ⟨b_o, 0, none⟩), .pointer (some ⟨b_f, 0, none⟩), .pointer (some ⟨b_p, 0, none⟩)] w fun e w' => ∃ A c L1, e = .returned (.tuple #[]) ∧ St w (([(b_o, Obj.cells (List.toArray [.slice A_o (zs).length c_o]) 158 (0, 0)), (b_f, Obj.cells (List.toArray [.bool true]) 4 (0, 0))] ++ L_o).map (·.1)) ((b_o, Obj.cells (List.toArray [.slice A (zs ++ (putL S (⟨r_Pane, r_X, r_Y, r_W, r_H⟩ : RectD)).1).length c]) 158 (0, 0)) :: (b_f, Obj.cells (List.toArray [.bool (putL S (⟨r_Pane, r_X, r_Y, r_W, r_H⟩ : RectD)).2]) 4 (0, 0)) :: L1) w' ∧ OwnF encRect 71 (.slice A (zs ++ (putL S (⟨r_Pane, r_X, r_Y, r_W, r_H⟩ : RectD)).1).length c) (zs ++ (putL S (⟨r_Pane, r_X, r_Y, r_W, r_H⟩ : RectD)).1) L1 := by
 induction m_ using Nat.strongRecOn with
 | ind m_ IH =>
  intro A_t n_t c_t t at_ i r_Pane r_X r_Y r_W r_H S b_t b_o b_f b_p A_o c_o zs L_o w f_t g_t g_p o_o hh hd s_t v_t v_p hn hat hS hr hz hm_
  subst hat
  have hl := f_t.len
  have hlt := hS.lt
  have hnode := hS.ok (gat encNode t i) (by have := hS.head; exact List.mem_of_mem_head? this)
  have hpb := nodeOk_pane hnode
  obtain ⟨hr0, hr1, hr2, hr3, hr4, hr5, hr6⟩ := id hr
  simp only at hr0 hr1 hr2 hr3 hr4 hr5 hr6
  have hst0 := St.takeN w [(b_o, Obj.cells (List.toArray [.slice A_o (zs).length c_o]) 158 (0, 0)), (b_f, Obj.cells (List.toArray [.bool true]) 4 (0, 0))] L_o hh hd
  refine enter 56 Tryz.func263 rfl Tryz.ntmps263 rfl rfl ?_
  have hs1 := hst0
  refine WC.sr (WL.bx hs1 rfl (fun b2 _ hs3 => WL.nil (WC.sr (WL.val rfl rfl rfl (Run.load Tryz.isAgg56 rfl rfl (SlF.var (v := .slice A_t n_t c_t) (SlF.st g_t hs3 v_t) rfl)) (WL.r 1 hs3 [] rfl ?_)))))
  refine WL.val rfl rfl rfl (Run.idxK (i) Tryz.runUnderlying56 Tryz.sizeOf103 rfl rfl rfl ?_ ?_ ?_) ?_
  · exact SlF.some_ (SlF.st f_t hs3 s_t)
  · omega
  · omega
  refine WL.val rfl rfl rfl (Run.fieldO Tryz.runUnderlying103 rfl rfl rfl Tryz.sizeOf3 rfl) (WL.val rfl rfl rfl (Run.load Tryz.isAgg3 rfl rfl (SlF.fld (SlF.st f_t hs3 s_t) ?_ rfl)) ?_)
  · omega
  refine WL.r 1 hs3 [] rfl (WL.st tbk hs3 0 rfl rfl (fun _ hs4 => WL.nil (WC.sr (WL.r 2 hs4 [1, 0] rfl (WL.buildSlice hs4 Tryz.runUnderlying158 Tryz.sizeOf71 Tryz.zeroValue71 rfl rfl rfl rfl rfl rfl rfl rfl rfl rfl (fun b5 whs6 hs6 => ?_))))))
  refine WL.appendG (hs6.fr L_o) o_o (srcF (F := encRect) (ys := [⟨(gat encNode t i).Pane, r_X, r_Y, r_W, r_H⟩]) Tryz.underlying158 rfl rfl (hs6.own _ (nthL_mem (i := 0) rfl)).1) Tryz.underlying158 inf71 rfl rfl rfl rfl rfl rfl rfl rfl rfl rfl ?_ (fun A10 c11 L7 whs8 hs8 ho9 => ?_)
  · simp only [List.length_cons, List.length_nil]; omega
  replace hs8 := St.back [_, _, _, _] hs8
  refine WL.st tbk hs8 2 rfl rfl (fun _ hs12 => WL.nil (WC.seq (fun K13 hK13 => WC.sr (WL.val rfl rfl rfl (Run.load Tryz.isAgg56 rfl rfl (SlF.var (v := .slice A_t n_t c_t) (SlF.st g_t hs12 v_t) rfl)) (WL.r 1 hs12 [] rfl ?_)))))
  refine WL.val rfl rfl rfl (Run.idxK (i) Tryz.runUnderlying56 Tryz.sizeOf103 rfl rfl rfl ?_ ?_ ?_) ?_
  · exact SlF.some_ (SlF.st f_t hs12 s_t)
  · omega
  · omega
  refine WL.val rfl rfl rfl (Run.loadA Tryz.isAgg103 Tryz.sizeOf103 rfl rfl (SlF.whole (SlF.st f_t hs12 s_t) ?_)) ?_
  · omega
  refine WL.cl Tryz.call168 rfl (k68_ _ _ _ _) ?_
  rintro _ whs14 ⟨rfl, hs14⟩
  replace hs14 := hs12.call0 hs14
  refine ⟨_, rfl, WL.r 1 hs14 [] rfl (WL.pO tbk 2 Acts.nil hs14 [3] rfl rfl rfl rfl (fun g_ => ⟨rfl, trivial⟩) (WL.nil (WC.cq rfl (fun h15 qh15 => ?_) (fun h15 qh15 => ?_))))⟩
  ·have hlf : isSplit t i = false := by simp at qh15; simp [isSplit]; omega
   have hSe := hS.of_leaf hlf
   subst hSe
   have hpl : putL (.leaf (gat encNode t i)) (⟨r_Pane, r_X, r_Y, r_W, r_H⟩ : RectD) = ([⟨(gat encNode t i).Pane, r_X, r_Y, r_W, r_H⟩], true) := by simp [putL]
   refine WC.ret (tkR ?_)
   clear hK13
   refine retK0' rfl ?_
   rw [hpl]
   have hx_ := OwnF.eqOf (xs := zs ++ [⟨(gat encNode t i).Pane, r_X, r_Y, r_W, r_H⟩]) ho9 (by simp)
   rw [← hx_]
   exact ⟨_, _, _, rfl, St.keep1 (St.front (L1 := (b_o, _) :: (b_f, _) :: L7) [_, _] hs14), ho9⟩
  have hsp : isSplit t i = true := by simp at qh15; simp [isSplit]; omega
  obtain ⟨n, a, b, rfl⟩ := hS.of_split hsp
  obtain ⟨hn', ha, hb⟩ := hS.parts
  subst hn'
  have hF : 1 ≤ (gat encNode t i).First ∧ (gat encNode t i).First ≤ 120 := by
    have := hnode; rw [nodeOk, if_pos (by simpa [isSplit] using hsp), within_iff] at this; exact this
  have hle := hS.le
  simp only [Tr.flat, List.length_cons, List.length_append] at hle
  have hRR : (⟨r_Pane, r_X, r_Y, r_W, r_H⟩ : RectD) = (⟨(gat encNode t i).Pane, r_X, r_Y, r_W, r_H⟩ : RectD) := by
    have h1_ : (gat encNode t i).Pane = 0 := by simpa [isSplit] using hsp
    rw [h1_, hr0]
  refine WC.skip (hK13 _ _ (WC.seq (fun K16 hK16 => ?_)))
  apply WC.join2 (fun b17 b18 => (b17, .cells (List.toArray (encRect.enc (firstR (gat encNode t i) (⟨(gat encNode t i).Pane, r_X, r_Y, r_W, r_H⟩ : RectD)))) _ _) :: (b18, .cells (List.toArray (encRect.enc (secondR (gat encNode t i) (⟨(gat encNode t i).Pane, r_X, r_Y, r_W, r_H⟩ : RectD)))) _ _) :: (b5, _) :: (b2, _) :: (b_o, _) :: (b_f, _) :: _) (fun b17 b18 => [(0, _), (1, _), (2, _), (3, _), (4, _), (5, _), (7, _), (11, _), (12, _), (13, _), (14, _), (15, _), (16, _), (17, _), (18, _), (19, _), (20, _), (21, _), (22, _), (23, _), (24, _), (25, _), (26, _), (29, _), (8, _), (9, _), (10, _)])
  ·refine WC.rH hs14 hs14 (fun _ hs19 => ?_)
   refine WH.take 0 rfl (by kernel_rfl) rfl rfl rfl hs19 (fun w_ hs_ => (Run.load Tryz.isAgg56 rfl rfl (SlF.var (v := .slice A_t n_t c_t) (SlF.st g_t (hs_ : St _ _ _ _) v_t) rfl))) ?_
   refine WH.rn [1] hs19 [] rfl rfl ?_
   refine WH.take 2 rfl (by kernel_rfl) rfl rfl rfl hs19 (fun w_ hs_ => (Run.idxK (i) Tryz.runUnderlying56 Tryz.sizeOf103 rfl rfl rfl ?_ ?_ ?_)) ?_
   · exact SlF.some_ (SlF.st f_t (hs_ : St _ _ _ _) s_t)
   · omega
   · omega
   refine WH.take 3 rfl (by kernel_rfl) rfl rfl rfl hs19 (fun w_ hs_ => (Run.loadA Tryz.isAgg103 Tryz.sizeOf103 rfl rfl (SlF.whole (SlF.st f_t (hs_ : St _ _ _ _) s_t) ?_))) ?_
   · omega
   refine WH.rn [4] hs19 [1] rfl rfl (WH.all [5, 10, 11] (by kernel_rfl) rfl (WHs.cons (i := 5) rfl ?_ (WHs.cons (i := 10) rfl ?_ (WHs.cons (i := 11) rfl ?_ WHs.nil))))
   ·refine WL.cl Tryz.call264 rfl (k113_ _ _ _ _ _ _ _ _ _ ?_) ?_
    · (refine ⟨?_, ?_, ?_, ?_, ?_, ?_, ?_, ?_, ?_, ?_⟩ <;> omega)
    rintro _ whs20 ⟨rfl, hs20⟩
    replace hs20 := hs19.call0 hs20
    refine ⟨_, rfl, WL.nil ⟨hs20, WH.rn [6, 7, 8, 9] hs20 [] rfl rfl (WH.all [10, 11] (by kernel_rfl) rfl (WHs.cons (i := 10) rfl ?_ (WHs.cons (i := 11) rfl ?_ WHs.nil)))⟩⟩
    ·refine WL.al hs20 Tryz.zeroValue71 rfl rfl (fun b21 _ hs22 => WL.nil ⟨hs22.d1, WH.o1 11 rfl (WL.al hs22 Tryz.zeroValue71 rfl rfl (fun b23 _ hs24 => WL.nil ⟨hs24.d1.d1, WH.o1 12 rfl (WL.st tbk hs24 1 rfl rfl (fun _ hs25 => WL.nil ⟨hs25.d1.d1, ?_⟩))⟩))⟩)
     refine WH.o1 13 rfl (WL.st tbk hs25 0 rfl rfl (fun _ hs26 => WL.nil ⟨hs26.d1.d1, WH.rn [14] hs26.d1.d1 [] rfl rfl (WH.dn (⟨rfl, b21, b23, (St.swap [] hs26), ⟨rfl, rfl, rfl, rfl, rfl, rfl, rfl, rfl, rfl, rfl, rfl, rfl, rfl, rfl, rfl, rfl, rfl, rfl, rfl, rfl, rfl, rfl, rfl, rfl, rfl, rfl, rfl, trivial⟩⟩))⟩))
    refine WL.al hs20 Tryz.zeroValue71 rfl rfl (fun b27 _ hs28 => WL.nil ⟨hs28.d1, WH.o1 10 rfl (WL.al hs28 Tryz.zeroValue71 rfl rfl (fun b29 _ hs30 => WL.nil ⟨hs30.d1.d1, WH.o1 12 rfl (WL.st tbk hs30 0 rfl rfl (fun _ hs31 => WL.nil ⟨hs31.d1.d1, ?_⟩))⟩))⟩)
    refine WH.o1 13 rfl (WL.st tbk hs31 1 rfl rfl (fun _ hs32 => WL.nil ⟨hs32.d1.d1, WH.rn [14] hs32.d1.d1 [] rfl rfl (WH.dn (⟨rfl, b29, b27, hs32, ⟨rfl, rfl, rfl, rfl, rfl, rfl, rfl, rfl, rfl, rfl, rfl, rfl, rfl, rfl, rfl, rfl, rfl, rfl, rfl, rfl, rfl, rfl, rfl, rfl, rfl, rfl, rfl, trivial⟩⟩))⟩))
   ·refine WL.al hs19 Tryz.zeroValue71 rfl rfl (fun b33 _ hs34 => WL.nil ⟨hs34.d1, ?_⟩)
    refine WH.all [5, 11] (by kernel_rfl) rfl (WHs.cons (i := 5) rfl ?_ (WHs.cons (i := 11) rfl ?_ WHs.nil))
    ·refine WL.cl Tryz.call264 rfl (k113_ _ _ _ _ _ _ _ _ _ ?_) ?_
     · (refine ⟨?_, ?_, ?_, ?_, ?_, ?_, ?_, ?_, ?_, ?_⟩ <;> omega)
     rintro _ whs35 ⟨rfl, hs35⟩
     replace hs35 := hs34.call0 hs35
     refine ⟨_, rfl, WL.nil ⟨hs35.d1, WH.rn [6, 7, 8, 9] hs35.d1 [] rfl rfl (WH.o1 11 rfl (WL.al hs35 Tryz.zeroValue71 rfl rfl (fun b36 _ hs37 => WL.nil ⟨hs37.d1.d1, WH.o1 12 rfl (WL.st tbk hs37 1 rfl rfl (fun _ hs38 => ?_))⟩)))⟩⟩
     refine WL.nil ⟨hs38.d1.d1, WH.o1 13 rfl (WL.st tbk hs38 0 rfl rfl (fun _ hs39 => WL.nil ⟨hs39.d1.d1, WH.rn [14] hs39.d1.d1 [] rfl rfl (WH.dn (⟨rfl, b33, b36, (St.swap [] hs39), ⟨rfl, rfl, rfl, rfl, rfl, rfl, rfl, rfl, rfl, rfl, rfl, rfl, rfl, rfl, rfl, rfl, rfl, rfl, rfl, rfl, rfl, rfl, rfl, rfl, rfl, rfl, rfl, trivial⟩⟩))⟩))⟩
    refine WL.al hs34 Tryz.zeroValue71 rfl rfl (fun b40 _ hs41 => WL.nil ⟨hs41.d1.d1, WH.o1 5 rfl ?_⟩)
    refine WL.cl Tryz.call264 rfl (k113_ _ _ _ _ _ _ _ _ _ ?_) ?_
    · (refine ⟨?_, ?_, ?_, ?_, ?_, ?_, ?_, ?_, ?_, ?_⟩ <;> omega)
    rintro _ whs42 ⟨rfl, hs42⟩
    replace hs42 := hs41.call0 hs42
    refine ⟨_, rfl, WL.nil ⟨hs42.d1.d1, WH.rn [6, 7, 8, 9] hs42.d1.d1 [] rfl rfl (WH.o1 12 rfl (WL.st tbk hs42 1 rfl rfl (fun _ hs43 => WL.nil ⟨hs43.d1.d1, WH.o1 13 rfl (WL.st tbk hs43 0 rfl rfl (fun _ hs44 => ?_))⟩)))⟩⟩
    refine WL.nil ⟨hs44.d1.d1, WH.rn [14] hs44.d1.d1 [] rfl rfl (WH.dn (⟨rfl, b33, b40, (St.swap [] hs44), ⟨rfl, rfl, rfl, rfl, rfl, rfl, rfl, rfl, rfl, rfl, rfl, rfl, rfl, rfl, rfl, rfl, rfl, rfl, rfl, rfl, rfl, rfl, rfl, rfl, rfl, rfl, rfl, trivial⟩⟩))⟩
   refine WL.al hs19 Tryz.zeroValue71 rfl rfl (fun b45 _ hs46 => WL.nil ⟨hs46.d1, ?_⟩)
   refine WH.all [5, 10] (by kernel_rfl) rfl (WHs.cons (i := 5) rfl ?_ (WHs.cons (i := 10) rfl ?_ WHs.nil))
   ·refine WL.cl Tryz.call264 rfl (k113_ _ _ _ _ _ _ _ _ _ ?_) ?_
    · (refine ⟨?_, ?_, ?_, ?_, ?_, ?_, ?_, ?_, ?_, ?_⟩ <;> omega)
    rintro _ whs47 ⟨rfl, hs47⟩
    replace hs47 := hs46.call0 hs47
    refine ⟨_, rfl, WL.nil ⟨hs47.d1, WH.rn [6, 7, 8, 9] hs47.d1 [] rfl rfl (WH.o1 10 rfl (WL.al hs47 Tryz.zeroValue71 rfl rfl (fun b48 _ hs49 => WL.nil ⟨hs49.d1.d1, WH.o1 12 rfl (WL.st tbk hs49 0 rfl rfl (fun _ hs50 => ?_))⟩)))⟩⟩
    refine WL.nil ⟨hs50.d1.d1, WH.o1 13 rfl (WL.st tbk hs50 1 rfl rfl (fun _ hs51 => WL.nil ⟨hs51.d1.d1, WH.rn [14] hs51.d1.d1 [] rfl rfl (WH.dn (⟨rfl, b48, b45, hs51, ⟨rfl, rfl, rfl, rfl, rfl, rfl, rfl, rfl, rfl, rfl, rfl, rfl, rfl, rfl, rfl, rfl, rfl, rfl, rfl, rfl, rfl, rfl, rfl, rfl, rfl, rfl, rfl, trivial⟩⟩))⟩))⟩
   refine WL.al hs46 Tryz.zeroValue71 rfl rfl (fun b52 _ hs53 => WL.nil ⟨hs53.d1.d1, WH.o1 5 rfl ?_⟩)
   refine WL.cl Tryz.call264 rfl (k113_ _ _ _ _ _ _ _ _ _ ?_) ?_
   · (refine ⟨?_, ?_, ?_, ?_, ?_, ?_, ?_, ?_, ?_, ?_⟩ <;> omega)
   rintro _ whs54 ⟨rfl, hs54⟩
   replace hs54 := hs53.call0 hs54
   refine ⟨_, rfl, WL.nil ⟨hs54.d1.d1, WH.rn [6, 7, 8, 9] hs54.d1.d1 [] rfl rfl (WH.o1 12 rfl (WL.st tbk hs54 0 rfl rfl (fun _ hs55 => WL.nil ⟨hs55.d1.d1, WH.o1 13 rfl (WL.st tbk hs55 1 rfl rfl (fun _ hs56 => ?_))⟩)))⟩⟩
   refine WL.nil ⟨hs56.d1.d1, WH.rn [14] hs56.d1.d1 [] rfl rfl (WH.dn (⟨rfl, b52, b45, hs56, ⟨rfl, rfl, rfl, rfl, rfl, rfl, rfl, rfl, rfl, rfl, rfl, rfl, rfl, rfl, rfl, rfl, rfl, rfl, rfl, rfl, rfl, rfl, rfl, rfl, rfl, rfl, rfl, trivial⟩⟩))⟩
  ·rintro f_hs57 whs57 ⟨b17, b18, hs57, hG58⟩
   replace hs57 : St _ _ _ _ := hs57
   refine hK16 _ _ (WC.sub _ hG58 (WC.seq (fun K59 hK59 => WC.sr (WL.r 1 hs57 [] rfl (WL.st tbk hs57 5 rfl rfl (fun _ hs60 => WL.nil (WC.r1 hs60 [] rfl ?_)))))))
   refine WC.cq rfl (fun h61 qh61 => ?_) (fun h61 qh61 => ?_)
   ·have hs3 : ¬ 3 ≤ sizeR (gat encNode t i) (⟨(gat encNode t i).Pane, r_X, r_Y, r_W, r_H⟩ : RectD) := by simpa using h61
    have hpl : putL (.split (gat encNode t i) a b) (⟨r_Pane, r_X, r_Y, r_W, r_H⟩ : RectD) = ([⟨(gat encNode t i).Pane, r_X, r_Y, r_W, r_H⟩], false) := by rw [hRR]; simp only [putL, if_neg hs3]
    have hdec : decide (3 ≤ sizeR (gat encNode t i) (⟨(gat encNode t i).Pane, r_X, r_Y, r_W, r_H⟩ : RectD)) = false := decide_eq_false hs3
    rw [hdec] at hs60
    refine WC.ret (tkR ?_)
    clear hK59
    refine retK0' rfl ?_
    rw [hpl]
    have hx_ := OwnF.eqOf (xs := zs ++ [⟨(gat encNode t i).Pane, r_X, r_Y, r_W, r_H⟩]) ho9 (by simp)
    rw [← hx_]
    exact ⟨_, _, _, rfl, St.keep1 (St.front (L1 := (b_o, _) :: (b_f, _) :: L7) [_, _, _, _] hs60), ho9⟩
   have hs3 : 3 ≤ sizeR (gat encNode t i) (⟨(gat encNode t i).Pane, r_X, r_Y, r_W, r_H⟩ : RectD) := by simpa using h61
   have hdec : decide (3 ≤ sizeR (gat encNode t i) (⟨(gat encNode t i).Pane, r_X, r_Y, r_W, r_H⟩ : RectD)) = true := decide_eq_true hs3
   rw [hdec] at hs60
   refine WC.skip (hK59 _ _ (WC.sr (WL.val rfl rfl rfl (Run.load Tryz.isAgg272 rfl rfl (SlF.var (SlF.st g_p hs60 v_p) rfl)) (WL.r 3 hs60 [0] rfl ?_))))
   have hF62 := St.front (L1 := (b_o, _) :: (b_f, _) :: L7) [_, _, _, _] hs60
   refine WL.call rfl rfl rfl (Run.callC Tryz.call263 rfl rfl rfl) (IH _ ?_ _ _ _ _ _ (i + 1) _ _ _ _ _ a _ _ _ _ _ _ _ _ _ (SlF.st f_t hF62 s_t) (SlF.st g_t hF62 v_t) (SlF.st g_p hF62 v_p) ho9 (St.ownA hF62) (St.nodupL hF62) (St.sepT hF62 f_t s_t) (St.sepT hF62 g_t v_t) (St.sepT hF62 g_p v_p) ?_ ?_ ?_ ?_ ?_ rfl) ?_
   · rw [← hm_]; simp only [Tr.flat, List.length_cons, List.length_append]; omega
   · exact hn
   · rfl
   · exact ha
   · exact Fine.first (hRR ▸ hr) hF.1 hs3
   · simp only [List.length_append, List.length_cons, List.length_nil]; simp only [Tr.flat, List.length_cons, List.length_append] at hz; omega
   rintro _ whs66 ⟨A63, c64, L65, rfl, hs66, ho67⟩
   replace hs66 := St.lend hF62 hs66
   replace hs66 := St.back [_, _, _, _] hs66
   simp only [List.cons_append, List.nil_append] at hs66
   refine ⟨_, rfl, WL.nil (WC.r1 hs66 [5] rfl (WC.cq rfl (fun h68 qh68 => ?_) (fun h68 qh68 => ?_)))⟩
   ·have hpl : putL (.split (gat encNode t i) a b) (⟨r_Pane, r_X, r_Y, r_W, r_H⟩ : RectD) = (⟨(gat encNode t i).Pane, r_X, r_Y, r_W, r_H⟩ :: ((putL a (firstR (gat encNode t i) (⟨(gat encNode t i).Pane, r_X, r_Y, r_W, r_H⟩ : RectD))).1 ++ (putL b (secondR (gat encNode t i) (⟨(gat encNode t i).Pane, r_X, r_Y, r_W, r_H⟩ : RectD))).1), (putL b (secondR (gat encNode t i) (⟨(gat encNode t i).Pane, r_X, r_Y, r_W, r_H⟩ : RectD))).2) := by rw [hRR]; simp only [putL, if_pos hs3, if_pos h68]
    rw [h68] at hs66
    refine WC.rH (((hs66.fb b_o).d1.fb b_f).d1.rm L65) hs66 (fun _ hs69 => ?_)
    refine WH.take 0 rfl (by kernel_rfl) rfl rfl rfl (((hs69.fb b_o).d1.fb b_f).d1.rm L65) (fun w_ hs_ => (Run.load Tryz.isAgg272 rfl rfl (SlF.var (SlF.st g_p (hs_ : St _ _ _ _) v_p) rfl))) ?_
    refine WH.take 1 rfl (by kernel_rfl) rfl rfl rfl (((hs69.fb b_o).d1.fb b_f).d1.rm L65) (fun w_ hs_ => (Run.load Tryz.isAgg56 rfl rfl (SlF.var (v := .slice A_t n_t c_t) (SlF.st g_t (hs_ : St _ _ _ _) v_t) rfl))) ?_
    refine WH.rn [2, 3, 5] (((hs69.fb b_o).d1.fb b_f).d1.rm L65) [1] rfl rfl (WH.o1 4 rfl (WL.cl Tryz.call165 rfl (k70_ _ _ _ _ _ _ (SlF.st f_t hs69 s_t) ?_) ?_))
    · first | assumption | rfl | omega
    rintro _ whs70 ⟨rfl, hs70⟩
    replace hs70 := hs69.call0 hs70
    refine ⟨_, rfl, WL.nil ⟨(((hs70.fb b_o).d1.fb b_f).d1.rm L65), WH.o1 6 rfl ?_⟩⟩
    have hF71 := St.front (L1 := (b_o, _) :: (b_f, _) :: L65) [_, _, _, _] hs70
    refine WL.call rfl rfl rfl (Run.callC Tryz.call263 rfl rfl rfl) (IH _ ?_ _ _ _ _ _ (i + 1 + a.flat.length) _ _ _ _ _ b _ _ _ _ _ _ _ _ _ (SlF.st f_t hF71 s_t) (SlF.st g_t hF71 v_t) (SlF.st g_p hF71 v_p) ho67 (St.ownA hF71) (St.nodupL hF71) (St.sepT hF71 f_t s_t) (St.sepT hF71 g_t v_t) (St.sepT hF71 g_p v_p) ?_ ?_ ?_ ?_ ?_ rfl) ?_
    · rw [← hm_]; simp only [Tr.flat, List.length_cons, List.length_append]; omega
    · exact hn
    · have h_ : endI t ((i : Int) + 1) = (i + 1 + a.flat.length : Nat) := ha.endI
      omega
    · exact hb
    · exact Fine.second (hRR ▸ hr) hF.1 hs3
    · simp only [List.length_append, List.length_cons, List.length_nil]; simp only [Tr.flat, List.length_cons, List.length_append] at hz
      refine Nat.le_trans (Nat.add_le_add_right (Nat.add_le_add_left putL_len _) _) ?_
      omega
    rintro _ whs75 ⟨A72, c73, L74, rfl, hs75, ho76⟩
    replace hs75 := St.lend hF71 hs75
    replace hs75 := St.back [_, _, _, _] hs75
    simp only [List.cons_append, List.nil_append] at hs75
    refine ⟨_, rfl, WL.nil ⟨(((hs75.fb b_o).d1.fb b_f).d1.rm L74), WH.dn (retK0 rfl ?_)⟩⟩
    rw [hpl]
    have hx_ := OwnF.eqOf (xs := zs ++ (⟨(gat encNode t i).Pane, r_X, r_Y, r_W, r_H⟩ :: ((putL a (firstR (gat encNode t i) (⟨(gat encNode t i).Pane, r_X, r_Y, r_W, r_H⟩ : RectD))).1 ++ (putL b (secondR (gat encNode t i) (⟨(gat encNode t i).Pane, r_X, r_Y, r_W, r_H⟩ : RectD))).1))) ho76 (by simp)
    rw [← hx_]
    exact ⟨_, _, _, rfl, St.keep1 (St.front (L1 := (b_o, _) :: (b_f, _) :: L74) [_, _, _, _] hs75), ho76⟩
   have hpl : putL (.split (gat encNode t i) a b) (⟨r_Pane, r_X, r_Y, r_W, r_H⟩ : RectD) = (⟨(gat encNode t i).Pane, r_X, r_Y, r_W, r_H⟩ :: (putL a (firstR (gat encNode t i) (⟨(gat encNode t i).Pane, r_X, r_Y, r_W, r_H⟩ : RectD))).1, false) := by
     have : ¬ (putL a (firstR (gat encNode t i) (⟨(gat encNode t i).Pane, r_X, r_Y, r_W, r_H⟩ : RectD))).2 = true := by simpa using h68
     rw [hRR]; simp only [putL, if_pos hs3, if_neg this]
   rw [h68] at hs66
   refine WC.skip (retK0 rfl ?_)
   rw [hpl]
   have hx_ := OwnF.eqOf (xs := zs ++ (⟨(gat encNode t i).Pane, r_X, r_Y, r_W, r_H⟩ :: (putL a (firstR (gat encNode t i) (⟨(gat encNode t i).Pane, r_X, r_Y, r_W, r_H⟩ : RectD))).1)) ho67 (by simp)
   rw [← hx_]
   exact ⟨_, _, _, rfl, St.keep1 (St.front (L1 := (b_o, _) :: (b_f, _) :: L65) [_, _, _, _] hs66), ho67⟩
theorem k118_ (A_t : Option Addr) (n_t c_t : Nat) (t : List NodeD) (at_ : Int) (i : Nat) (r_Pane r_X r_Y r_W r_H : Int) (S : Tr) (b_t b_o b_f b_p : Nat) (A_o : Option Addr) (c_o : Nat) (zs : List RectD) (L_o : Hp) (w : World) (f_t : SlF encNode w A_t n_t t) (g_t : SlF encH w (some ⟨b_t, 0, none⟩) 1 [⟨A_t, n_t, c_t⟩]) (g_p : SlF encFn w (some ⟨b_p, 0, none⟩) 1 [⟨.func 263, [.pointer (some ⟨b_t, 0, none⟩), .pointer (some ⟨b_o, 0, none⟩), .pointer (some ⟨b_f, 0, none⟩), .pointer (some ⟨b_p, 0, none⟩)]⟩]) (o_o : OwnF encRect 71 (.slice A_o zs.length c_o) zs L_o) (hh : ∀ p, p ∈ [(b_o, Obj.cells (List.toArray [.slice A_o (zs).length c_o]) 158 (0, 0)), (b_f, Obj.cells (List.toArray [.bool true]) 4 (0, 0))] ++ L_o → w.heap[p.1]? = some p.2) (hd : (([(b_o, Obj.cells (List.toArray [.slice A_o (zs).length c_o]) 158 (0, 0)), (b_f, Obj.cells (List.toArray [.bool true]) 4 (0, 0))] ++ L_o).map (·.1)).Nodup) (s_t : 0 < n_t → (adr A_t).block ∉ (([(b_o, Obj.cells (List.toArray [.slice A_o (zs).length c_o]) 158 (0, 0)), (b_f, Obj.cells (List.toArray [.bool true]) 4 (0, 0))] ++ L_o).map (·.1))) (v_t : 0 < 1 → (adr (some ⟨b_t, 0, none⟩)).block ∉ (([(b_o, Obj.cells (List.toArray [.slice A_o (zs).length c_o]) 158 (0, 0)), (b_f, Obj.cells (List.toArray [.bool true]) 4 (0, 0))] ++ L_o).map (·.1))) (v_p : 0 < 1 → (adr (some ⟨b_p, 0, none⟩)).block ∉ (([(b_o, Obj.cells (List.toArray [.slice A_o (zs).length c_o]) 158 (0, 0)), (b_f, Obj.cells (List.toArray [.bool true]) 4 (0, 0))] ++ L_o).map (·.1))) (hn : n_t ≤ 268435456) (hat : at_ = (i : Int)) (hS : At t i S) (hr : Fine (⟨r_Pane, r_X, r_Y, r_W, r_H⟩ : RectD)) (hz : zs.length + S.flat.length ≤ 268435456) :
    Calls Tryz.prog 263 #[i64 at_, .agg #[i64 r_Pane, i64 r_X, i64 r_Y, i64 r_W, i64 r_H], .pointer (some ⟨b_t, 0, none⟩), .pointer (some ⟨b_o, 0, none⟩), .pointer (some ⟨b_f, 0, none⟩), .pointer (some ⟨b_p, 0, none⟩)] w fun e w' => ∃ A c L1, e = .returned (.tuple #[]) ∧ St w (([(b_o, Obj.cells (List.toArray [.slice A_o (zs).length c_o]) 158 (0, 0)), (b_f, Obj.cells (List.toArray [.bool true]) 4 (0, 0))] ++ L_o).map (·.1)) ((b_o, Obj.cells (List.toArray [.slice A (zs ++ (putL S (⟨r_Pane, r_X, r_Y, r_W, r_H⟩ : RectD)).1).length c]) 158 (0, 0)) :: (b_f, Obj.cells (List.toArray [.bool (putL S (⟨r_Pane, r_X, r_Y, r_W, r_H⟩ : RectD)).2]) 4 (0, 0)) :: L1) w' ∧ OwnF encRect 71 (.slice A (zs ++ (putL S (⟨r_Pane, r_X, r_Y, r_W, r_H⟩ : RectD)).1).length c) (zs ++ (putL S (⟨r_Pane, r_X, r_Y, r_W, r_H⟩ : RectD)).1) L1 := k117_ _ A_t n_t c_t t at_ i r_Pane r_X r_Y r_W r_H S b_t b_o b_f b_p A_o c_o zs L_o w f_t g_t g_p o_o hh hd s_t v_t v_p hn hat hS hr hz rfl
theorem built_71_3_4 (x0 : Int) (x1 : Int) : Tryz.prog.built 71 [(3, .int .i64 x0), (4, .int .i64 x1)] = some (List.toArray [.int .i64 0, .int .i64 0, .int .i64 0, .int .i64 x0, .int .i64 x1]) := by kernel_rfl
theorem k119_ (A_t : Option Addr) (n_t c_t : Nat) (t : List NodeD) (w_ : Int) (h_ : Int) (w : World) (f_t : SlF encNode w A_t n_t t) (hn : n_t ≤ 268435456) (hk : treeOk t = true) (hw : within w_ 1 120 = true) (hh : within h_ 1 120 = true) :
    Calls Tryz.prog 215 #[.slice A_t n_t c_t, i64 w_, i64 h_] w fun e w' => ∃ A c L1, e = .returned (.tuple #[.slice A ((putL (theT t) ⟨0, 0, 0, w_, h_⟩).1).length c, .bool (putL (theT t) ⟨0, 0, 0, w_, h_⟩).2]) ∧ St w [] L1 w' ∧ OwnF encRect 71 (.slice A ((putL (theT t) ⟨0, 0, 0, w_, h_⟩).1).length c) ((putL (theT t) ⟨0, 0, 0, w_, h_⟩).1) L1 := by
 have hl := f_t.len
 refine enter 20 Tryz.func215 rfl Tryz.ntmps215 rfl rfl ?_
 have hs1 := St.init w
 refine WC.sr (WL.bx hs1 rfl (fun b2 _ hs3 => WL.r 2 hs3 [] rfl (WL.nil (WC.sr (WL.buildF (F := encRect) hs3 ([]) Tryz.runUnderlying158 Tryz.sizeOf71 Tryz.zeroValue71 rfl rfl rfl rfl rfl rfl rfl rfl rfl rfl rfl rfl (fun A7 c8 L4 whs5 hs5 ho6 => ?_))))))
 replace hs5 := St.back [_] hs5
 refine WL.al hs5 Tryz.zeroValue158 rfl rfl (fun b9 _ hs10 => WL.al hs10 Tryz.zeroValue4 rfl rfl (fun b11 _ hs12 => WL.st tbk hs12 1 rfl rfl (fun _ hs13 => WL.st tbk hs13 0 rfl rfl (fun _ hs14 => WL.nil (WC.sr (WL.al hs14 Tryz.zeroValue272 rfl rfl (fun b15 _ hs16 => WL.nil ?_)))))))
 refine WC.sr (WL.val rfl rfl rfl (Run.makeFunc rfl rfl) (WL.st tbk hs16 0 rfl rfl (fun _ hs17 => WL.nil (WC.sr (WL.r 3 hs17 [0] rfl ?_)))))
 refine WL.val rfl rfl rfl (Run.build rfl rfl rfl rfl (built_71_3_4 _ _)) ?_
 replace hs17 := ((((hs17.fb b11).fb b9).fb b2).fb b15)
 have hF18 := St.front (L1 := (b9, _) :: (b11, _) :: L4) [_, _] hs17
 refine WL.call rfl rfl rfl (Run.callC Tryz.call263 rfl rfl rfl) (k118_ _ _ _ _ _ 0 _ _ _ _ _ (theT t) _ _ _ _ _ _ _ _ _ (SlF.st0 f_t hF18) (SlF.own1 (hs17.own _ (nthL_mem (i := 1) rfl)).1) (SlF.own1 (hs17.own _ (nthL_mem (i := 0) rfl)).1) ho6 (St.ownA hF18) (St.nodupL hF18) (St.sep hF18 f_t) (fun _ => St.sepOwn hF18 (List.mem_append_left _ (List.mem_cons_of_mem _ List.mem_cons_self))) (fun _ => St.sepOwn hF18 (List.mem_append_left _ List.mem_cons_self)) ?_ ?_ ?_ ?_ ?_) ?_
 · omega
 · rfl
 · exact (theT_at hk).1
 · exact fine0 hw hh
 · rw [(theT_at hk).2.1]; simp; omega
 rintro _ whs22 ⟨A19, c20, L21, rfl, hs22, ho23⟩
 replace hs22 := St.lend hF18 hs22
 replace hs22 := St.back [_, _] hs22
 simp only [List.cons_append, List.nil_append] at hs22
 refine ⟨_, rfl, WL.nil (WC.q1 hs22 [2, 3] rfl (fun _ hs24 => WC.ret (retV2 rfl (resV.tmp rfl) (resV.tmp rfl) ?_)))⟩
 have hx_ := OwnF.eqOf (xs := (putL (theT t) ⟨0, 0, 0, w_, h_⟩).1) ho23 (by simp)
 rw [← hx_]
 first | exact ⟨_, _, _, rfl, (St.keep1 (hs24.fr L21)), ho23⟩ | exact ⟨A19, c20, _, by rw [OwnF.len_ ho23], (St.keep1 (hs24.fr L21)), by rw [OwnF.len_ ho23]; exact ho23⟩
theorem k120_ (A_t : Option Addr) (n_t c_t : Nat) (t : List NodeD) (w_ : Int) (h_ : Int) (w : World) (f_t : SlF encNode w A_t n_t t) (hn : n_t ≤ 268435456) :
    Calls Tryz.prog 173 #[.slice A_t n_t c_t, i64 w_, i64 h_] w fun e w' => ∃ A c L1, e = .returned (.tuple #[.slice A (areasL t w_ h_).length c, .bool (placesOk t w_ h_)]) ∧ St w [] L1 w' ∧ OwnF encRect 71 (.slice A (areasL t w_ h_).length c) (areasL t w_ h_) L1 := by
 have hl := f_t.len
 refine enter 27 Tryz.func173 rfl Tryz.ntmps173 rfl rfl ?_
 have hs1 := St.init w
 refine WC.r1 hs1 [] rfl (WC.seq (fun K2 hK2 => WC.sr (WL.r 1 hs1 [] rfl ?_)))
 refine WL.cl Tryz.call106 rfl (k107_ _ _ _ _ _ (SlF.st0 f_t hs1) ?_) ?_
 · first | assumption | rfl | omega
 rintro _ whs3 ⟨rfl, hs3⟩
 replace hs3 := hs1.call0 hs3
 refine ⟨_, rfl, WL.r 2 hs3 [] rfl ?_⟩
 apply WL.gO 3 Acts.nil hs3 rfl
 ·intro g4 J5
  have qg4 := g4
  try simp only [bf, within_iff, within_not] at qg4
  refine WL.runA tbk 1 (Acts.nil.cons (j := 3) rfl g4) hs3 [] rfl trivial (WL.call (wantF rfl g4) rfl rfl (Run.call Tryz.call58 rfl rfl rfl) (k0_ _ _ _ _) ?_)
  rintro _ whs6 ⟨rfl, hs6⟩
  replace hs6 := hs3.call0 hs6
  refine ⟨_, rfl, WL.runA tbk 1 (Acts.nil.cons (j := 3) rfl g4) hs6 [] rfl trivial (WL.eO 3 Acts.nil J5 hs6 g4 rfl rfl)⟩
 intro _ hs7
 refine WL.r 1 hs7 [] rfl ?_
 apply WL.gO 3 Acts.nil hs7 rfl
 ·intro g8 J9
  have qg8 := g8
  try simp only [bf, within_iff, within_not] at qg8
  refine WL.runA tbk 1 (Acts.nil.cons (j := 8) rfl g8) hs7 [] rfl trivial (WL.call (wantF rfl g8) rfl rfl (Run.call Tryz.call58 rfl rfl rfl) (k0_ _ _ _ _) ?_)
  rintro _ whs10 ⟨rfl, hs10⟩
  replace hs10 := hs7.call0 hs10
  refine ⟨_, rfl, WL.runA tbk 1 (Acts.nil.cons (j := 8) rfl g8) hs10 [] rfl trivial (WL.eO 3 Acts.nil J9 hs10 g8 rfl rfl)⟩
 intro _ hs11
 refine WL.nil (WC.cq rfl (fun h12 qh12 => ?_) (fun h12 qh12 => ?_))
 ·have hk : sidesOk t w_ h_ = false := by
    rw [← Bool.not_eq_true]; intro h_1
    simp only [sidesOk, Bool.and_eq_true] at h_1
    simp [h_1] at h12
  refine WC.r1 hs11 [] rfl (WC.ret (tkR ?_))
  clear hK2
  refine retV2 rfl (resV.tmp rfl) (resV.tmp rfl) ?_
  rw [show placesOk t w_ h_ = false by simp [placesOk, hk]]
  have hx_ := OwnF.eqOf (xs := areasL t w_ h_) (OwnF.nil encRect 71) (by simp [areasL, hk])
  rw [← hx_]
  exact ⟨_, _, _, rfl, hs11.nil, (OwnF.nil encRect 71)⟩
 have hk : treeOk t = true ∧ within w_ 1 120 = true ∧ within h_ 1 120 = true := by simp at h12; exact ⟨h12.1.1, h12.1.2, h12.2⟩
 have hs : sidesOk t w_ h_ = true := by simp [sidesOk, hk]
 refine WC.skip (hK2 _ _ (WC.sr (WL.r 3 hs11 [] rfl ?_)))
 refine WL.cl Tryz.call215 rfl (k119_ _ _ _ _ _ _ _ (SlF.st0 f_t hs11) ?_ ?_ ?_ ?_) ?_
 · omega
 · exact hk.1
 · exact hk.2.1
 · exact hk.2.2
 rintro _ whs13 ⟨A14, c15, L1_16, rfl, hs13, ho17⟩
 replace hs13 := hs11.callF hs13
 refine ⟨_, rfl, WL.r 4 hs13 [] rfl (WL.nil (WC.ret (retV2 rfl (resV.tmp rfl) (resV.tmp rfl) ?_)))⟩
 rw [show placesOk t w_ h_ = (putL (theT t) ⟨0, 0, 0, w_, h_⟩).2 by simp [placesOk, hs, put_eq hk.1]]
 have hx_ := OwnF.eqOf (xs := areasL t w_ h_) ho17 (by simp [areasL, hs])
 rw [← hx_]
 first | exact ⟨_, _, _, rfl, (St.keep1 hs13), ho17⟩ | exact ⟨A14, c15, _, by rw [OwnF.len_ ho17], (St.keep1 hs13), by rw [OwnF.len_ ho17]; exact ho17⟩
theorem k121_ (r_Pane : Int) (r_X : Int) (r_Y : Int) (r_W : Int) (r_H : Int) (w : World) :
    Calls Tryz.prog 175 #[.agg #[i64 r_Pane, i64 r_X, i64 r_Y, i64 r_W, i64 r_H]] w fun e w' => e = .returned (.bool (decide (r_Pane = 0))) ∧ St w [] [] w' := by
 refine enter 6 Tryz.func175 rfl Tryz.ntmps175 rfl rfl ?_
 have hs1 := St.init w
 refine WC.sr (WL.bx hs1 rfl (fun b2 _ hs3 => WL.r 1 hs3 [] rfl (WL.nil (WC.r1 hs3 [0] rfl (WC.ret (rtv rfl rfl hs3 ?_))))))
 rfl
theorem k122_ (A_s : Option Addr) (n_s c_s : Nat) (s : List RectD) (w : World) (f_s : SlF encRect w A_s n_s s) (hn : n_s ≤ 1099511627776) :
    Calls Tryz.prog 113 #[.slice A_s n_s c_s, .func (.func 175) #[] #[]] w fun e w' => e = .returned (.int .i64 (findI (fun r : RectD => decide (r.Pane = 0)) s)) ∧ St w [] [] w' := by
 refine enter 19 Tryz.func113 rfl Tryz.ntmps113 rfl rfl ?_
 have hs1 := St.init w
 refine WC.r1 hs1 [] rfl (WC.seq (fun K2 hK2 => WC.r1 hs1 [] rfl (WC.block ?_)))
 refine WC.lS [0, 1, 7] rfl hs1 (fun k_ f w' => ∃ (i : Nat), k_ = n_s - i ∧ (i ≤ n_s) ∧ (∀ j, j < i → (fun r : RectD => decide (r.Pane = 0)) (gat encRect s j) = false) ∧ Sub [(8, .int .i64 i)] f) ((fun (i : Nat) => n_s - i) (0)) ?_ ?_
 ·refine ⟨0, rfl, ?_, ?_, ⟨rfl, trivial⟩⟩
  · exact Nat.zero_le _
  · exact fun j hj => absurd hj (by omega)
 clear hs1
 rintro _ f w ⟨i, rfl, p0, p1, hG⟩ hF hs3
 refine WC.sub _ (hG.app hF) ?_
 clear hG hF
 refine WC.r1 hs3 [] rfl (WC.seq (fun K4 hK4 => ?_))
 refine WC.cond rfl (fun h5 => ?_) (fun h5 => ?_)
 ·have qh5 := h5
  try simp only [decide_eq_true_eq, decide_eq_false_iff_not] at qh5
  refine WC.skip (hK4 _ _ (WC.seq (fun K6 hK6 => WC.block (WC.r1 hs3 [] rfl (WC.sr (WL.r 3 hs3 [] rfl ?_))))))
  refine WL.val rfl rfl rfl (Run.idxN Tryz.runUnderlying158 Tryz.sizeOf71 rfl rfl rfl ?_ ?_ ?_) ?_
  · exact SlF.some_ (SlF.st0 f_s hs3)
  · omega
  · omega
  refine WL.val rfl rfl rfl (Run.loadA Tryz.isAgg71 Tryz.sizeOf71 rfl rfl (SlF.whole (SlF.st0 f_s hs3) ?_)) ?_
  · omega
  refine WL.cl Tryz.call175 rfl (k121_ _ _ _ _ _ _) ?_
  rintro _ whs7 ⟨rfl, hs7⟩
  replace hs7 := hs3.call0 hs7
  refine ⟨_, rfl, WL.nil (WC.cond rfl (fun h8 => ?_) (fun h8 => ?_))⟩
  ·have qh8 := h8
   try simp only [decide_eq_true_eq, decide_eq_false_iff_not] at qh8
   refine WC.r1 hs7 [] rfl (WC.ret (ibR (tkR (tkR (ibR (tkR ?_))))))
   clear hK6 hK2
   refine rtv rfl rfl hs7 ?_
   rw [findI_some (F := encRect) (by rw [f_s.len]; omega) p1 h8]
  have qh8 := h8
  try simp only [decide_eq_true_eq, decide_eq_false_iff_not] at qh8
  refine WC.skip (hK6 _ _ (WC.region (WL.r 2 hs7 [] rfl (WL.nil (tkN ?_)))))
  refine ⟨sbF rfl, hs7, _, ?_, i + 1, rfl, ?_, ?_, ⟨rfl, trivial⟩⟩
  · omega
  · omega
  · intro j hj; rcases Nat.lt_or_ge j i with h_ | h_
    · exact p1 j h_
    · obtain rfl : j = i := by omega
      exact h8
 have qh5 := h5
 try simp only [decide_eq_true_eq, decide_eq_false_iff_not] at qh5
 refine WC.exit (hK2 _ _ (WC.r1 hs3 [] rfl (WC.ret (rtv rfl rfl hs3 ?_))))
 rw [findI_none (F := encRect) (fun j hj => p1 j (by rw [f_s.len] at hj; omega))]
theorem k123_ (v_s : Value) (s : List RectD) (L_s : Hp) (w : World) (o_s : OwnF encRect 71 v_s s L_s) (h_s : Hh w L_s) (hn : s.length ≤ 268435456) :
    Calls Tryz.prog 174 #[v_s, .func (.func 175) #[] #[]] w fun e w' => ∃ A c L1, e = .returned (.slice A (s.filter (fun r : RectD => !decide (r.Pane = 0))).length c) ∧ St w (L_s.map (·.1)) L1 w' ∧ OwnF encRect 71 (.slice A (s.filter (fun r : RectD => !decide (r.Pane = 0))).length c) (s.filter (fun r : RectD => !decide (r.Pane = 0))) L1 := by
 obtain ⟨A_s, c_s, rfl⟩ := o_s.shape
 refine enter 42 Tryz.func174 rfl Tryz.ntmps174 rfl rfl ?_
 have hs1 := St.lent1 w L_s o_s h_s
 refine WC.r1 hs1 [] rfl (WC.sr (WL.r 2 hs1 [] rfl (WL.cl Tryz.call113 rfl (k122_ _ _ _ _ _ (SlF.ofOwn o_s (hs1.ow L_s)) ?_) ?_)))
 · first | assumption | rfl | omega
 rintro _ whs2 ⟨rfl, hs2⟩
 replace hs2 := hs1.call0 hs2
 refine ⟨_, rfl, WL.r 1 hs2 [] rfl (WL.nil (WC.seq (fun K3 hK3 => WC.r1 hs2 [] rfl ?_)))⟩
 refine WC.cq rfl (fun h4 qh4 => ?_) (fun h4 qh4 => ?_)
 ·have hall : s.filter (fun r : RectD => !decide (r.Pane = 0)) = s := by
    rcases findI_cases (p := fun r : RectD => decide (r.Pane = 0)) (xs := s) with ⟨_, h1_⟩ | ⟨i1, _, h1_, _⟩
    · exact filter_none h1_
    · omega
  refine WC.r1 hs2 [] rfl (WC.ret (tkR ?_))
  clear hK3
  refine retV1 rfl (resV.tmp rfl) ?_
  have hx_ := OwnF.eqOf (xs := s.filter (fun r : RectD => !decide (r.Pane = 0))) o_s (by rw [hall])
  rw [← hx_]
  first | exact ⟨_, _, _, rfl, (St.keep1 hs2), o_s⟩ | exact ⟨A_s, c_s, _, by rw [OwnF.len_ o_s], (St.keep1 hs2), by rw [OwnF.len_ o_s]; exact o_s⟩
 obtain ⟨i0, hi0, hf0, hp0, hb0⟩ : ∃ i0 : Nat, ∃ hi : i0 < s.length, findI (fun r : RectD => decide (r.Pane = 0)) s = (i0 : Int) ∧ decide (s[i0].Pane = 0) = true ∧ ∀ j (hj : j < i0), decide ((s[j]'(by omega)).Pane = 0) = false := by
   rcases findI_cases (p := fun r : RectD => decide (r.Pane = 0)) (xs := s) with ⟨h1_, _⟩ | ⟨i1, hi, h1_, h2_, h3_⟩
   · omega
   · exact ⟨i1, hi, h1_, h2_, h3_⟩
 rw [hf0]
 have hinit : s.take i0 = (s.take (i0 + 1)).filter (fun r : RectD => !decide (r.Pane = 0)) := by
   rw [filter_take (F := encRect) hi0]
   have hg : gat encRect s i0 = s[i0] := by have e_ := gat_get (F := encRect) hi0; rw [List.getElem?_eq_getElem hi0] at e_; exact (Option.some.inj e_).symm
   rw [if_neg (by rw [hg]; simpa using hp0), List.append_nil, filter_none]
   intro x hx
   obtain ⟨j, hj, rfl⟩ := List.mem_iff_getElem.1 hx
   rw [List.length_take] at hj
   rw [List.getElem_take]
   exact hb0 j (by omega)
 refine WC.skip (hK3 _ _ (WC.seq (fun K5 hK5 => WC.r1 hs2 [] rfl (WC.block ?_))))
 refine WC.lO [1, 4, 12] rfl hs2 (fun k_ f L_ => ∃ (zs : List RectD) (i j : Nat), k_ = s.length - j ∧ (i < j) ∧ (j ≤ s.length) ∧ (zs.length = s.length) ∧ (zs.take i = (s.take j).filter (fun r : RectD => !decide (r.Pane = 0))) ∧ (∀ k, j ≤ k → gat encRect zs k = gat encRect s k) ∧ OwnF encRect 71 (.slice A_s (s.length) c_s) (zs) L_ ∧ Sub [(0, .slice A_s (s.length) c_s), (5, .int .i64 i), (6, .int .i64 j)] f) (((fun (zs : List RectD) (i j : Nat) => s.length - j) (s) (i0) ((i0 + 1)))) ?_ ?_
 ·refine ⟨s, i0, (i0 + 1), rfl, ?_, ?_, ?_, ?_, ?_, o_s, ⟨rfl, rfl, rfl, trivial⟩⟩
  · omega
  · omega
  · rfl
  · exact hinit
  · exact fun k _ => rfl
 clear hs2
 rintro _ f w L8 ⟨zs, i, j, rfl, p0, p1, p2, p3, p4, ho9, hG⟩ hF hs10
 refine WC.sub _ (hG.app hF) ?_
 clear hG hF
 refine WC.seq (fun K11 hK11 => WC.r1 hs10 [] rfl ?_)
 refine WC.cq rfl (fun h12 qh12 => ?_) (fun h12 qh12 => ?_)
 ·refine WC.skip (hK11 _ _ (WC.seq (fun K13 hK13 => WC.block (WC.sr (WL.r 2 hs10 [] rfl ?_)))))
  refine WL.val rfl rfl rfl (Run.idxN Tryz.runUnderlying158 Tryz.sizeOf71 rfl rfl rfl ?_ ?_ ?_) ?_
  · exact SlF.some_ (SlF.ofOwn ho9 (hs10.ow L8))
  · omega
  · omega
  refine WL.val rfl rfl rfl (Run.loadA Tryz.isAgg71 Tryz.sizeOf71 rfl rfl (SlF.whole (SlF.ofOwn ho9 (hs10.ow L8)) ?_)) ?_
  · omega
  refine WL.al hs10 Tryz.zeroValue71 rfl rfl (fun b14 _ hs15 => WL.st tbk hs15 0 rfl rfl (fun _ hs16 => WL.nil (WC.sr (WL.r 2 hs16 [0] rfl (WL.cl Tryz.call175 rfl (k121_ _ _ _ _ _ _) ?_)))))
  rintro _ whs17 ⟨rfl, hs17⟩
  replace hs17 := hs16.call0 hs17
  refine ⟨_, rfl, WL.r 1 hs17 [] rfl (WL.nil (WC.cq rfl (fun h18 qh18 => ?_) (fun h18 qh18 => ?_)))⟩
  ·refine WC.sr (WL.r 3 hs17 [0] rfl (WL.val rfl rfl rfl (Run.idxN Tryz.runUnderlying158 Tryz.sizeOf71 rfl rfl rfl ?_ ?_ ?_) ?_))
   · exact SlF.some_ (SlF.ofOwn ho9 (hs17.ow L8))
   · omega
   · omega
   refine WL.storeF1 (x' := (gat encRect zs j)) (hs17.fr L8) ho9 Tryz.sizeOf71 rfl rfl rfl rfl rfl rfl rfl rfl rfl ?_ rfl (fun L19 whs20 hs20 ho21 _ => ?_)
   · omega
   replace hs20 := St.back [_] hs20
   refine WL.nil (WC.region (WL.r 3 hs20 [] rfl (WL.nil (hK13 _ _ (WC.region (WL.r 3 hs20 [] rfl (WL.nil ?_)))))))
   refine tkN ?_
   replace hs20 := hs20.d1
   refine ⟨sbF rfl, _, hs20, _, ?_, _, (i + 1), (j + 1), rfl, ?_, ?_, ?_, ?_, ?_, ho21, ⟨rfl, rfl, rfl, trivial⟩⟩
   · omega
   · omega
   · omega
   · first | omega | (rw [List.length_set]; omega)
   · first | (rw [set_take (by omega), p3, filter_take (F := encRect) (by omega), if_pos (by rw [← p4 j (Nat.le_refl _)]; simpa using h18), p4 j (Nat.le_refl _)]) | (rw [p3, filter_take (F := encRect) (by omega), if_neg (by rw [← p4 j (Nat.le_refl _)]; simpa using h18), List.append_nil])
   · intro k hk; first | (rw [gat_set_ne (by omega)]; exact p4 k (by omega)) | exact p4 k (by omega)
  refine WC.skip (hK13 _ _ (WC.region (WL.r 3 hs17 [] rfl (WL.nil (tkN ?_)))))
  replace hs17 := hs17.d1
  refine ⟨sbF rfl, _, hs17, _, ?_, _, i, (j + 1), rfl, ?_, ?_, ?_, ?_, ?_, ho9, ⟨rfl, rfl, rfl, trivial⟩⟩
  · omega
  · omega
  · omega
  · first | omega | (rw [List.length_set]; omega)
  · first | (rw [set_take (by omega), p3, filter_take (F := encRect) (by omega), if_pos (by rw [← p4 j (Nat.le_refl _)]; simpa using h18), p4 j (Nat.le_refl _)]) | (rw [p3, filter_take (F := encRect) (by omega), if_neg (by rw [← p4 j (Nat.le_refl _)]; simpa using h18), List.append_nil])
  · intro k hk; first | (rw [gat_set_ne (by omega)]; exact p4 k (by omega)) | exact p4 k (by omega)
 refine WC.exit (hK5 _ _ (WC.sr (WL.r 2 hs10 [] rfl ?_)))
 have hc_ := OwnF.cap ho9
 refine WL.val rfl rfl rfl (Run.sliceL (i) Tryz.runUnderlying158 Tryz.sizeOf71 rfl rfl rfl ?_ ?_) ?_
 · first | rfl | (omega)
 · refine ⟨?_, ?_, ?_⟩ <;> (omega)
 refine WL.clearF (lo := i) hs10 ho9 Tryz.underlying158 Tryz.zeroValue71 rfl rfl rfl rfl rfl ?_ (fun L22 whs23 hs23 ho24 _ => ?_)
 · omega
 refine WL.nil (WC.sr (WL.r 2 hs23 [] rfl ?_))
 have ho25 := OwnF.take (k := i) ho24 (by omega)
 have hcho25 := OwnF.cap ho25
 refine WL.val rfl rfl rfl (Run.sliceH0 (i) Tryz.runUnderlying158 Tryz.sizeOf71 rfl rfl rfl ?_ ?_) ?_
 · first | rfl | (omega)
 · first | (exact Nat.zero_le _) | (omega)
 refine WL.r 1 hs23 [] rfl (WL.nil (WC.ret (retV1 rfl (resV.tmp rfl) ?_)))
 have hx_ := OwnF.eqOf (xs := s.filter (fun r : RectD => !decide (r.Pane = 0))) ho25 (by first | (rw [List.take_left' (by rw [List.length_take]; omega), p3, List.take_of_length_le (by omega)]) | (rw [List.take_append_of_le_length (by rw [List.length_take]; omega), List.take_take, Nat.min_self, p3, List.take_of_length_le (by omega)]))
 rw [← hx_]
 first | exact ⟨_, _, _, rfl, (St.keep1 hs23), ho25⟩ | exact ⟨A_s, c_s, _, by rw [OwnF.len_ ho25], (St.keep1 hs23), by rw [OwnF.len_ ho25]; exact ho25⟩
theorem k124_ (A_t : Option Addr) (n_t c_t : Nat) (t : List NodeD) (w_ : Int) (h_ : Int) (w : World) (f_t : SlF encNode w A_t n_t t) (hn : n_t ≤ 268435456) :
    Calls Tryz.prog 112 #[.slice A_t n_t c_t, i64 w_, i64 h_] w fun e w' => ∃ A c L1, e = .returned (.tuple #[.slice A (placesL t w_ h_).length c, .bool (placesOk t w_ h_)]) ∧ St w [] L1 w' ∧ OwnF encRect 71 (.slice A (placesL t w_ h_).length c) (placesL t w_ h_) L1 := by
 have hal := areasL_len t w_ h_
 refine enter 21 Tryz.func112 rfl Tryz.ntmps112 rfl rfl ?_
 have hs1 := St.init w
 refine WC.r1 hs1 [] rfl (WC.sr (WL.r 3 hs1 [] rfl (WL.cl Tryz.call173 rfl (k120_ _ _ _ _ _ _ _ (SlF.st0 f_t hs1) ?_) ?_)))
 · first | assumption | rfl | omega
 rintro _ whs2 ⟨A3, c4, L1_5, rfl, hs2, ho6⟩
 replace hs2 := hs1.callF hs2
 refine ⟨_, rfl, WL.r 5 hs2 [] rfl (WL.nil (WC.seq (fun K7 hK7 => WC.r1 hs2 [] rfl ?_)))⟩
 refine WC.cq rfl (fun h8 qh8 => ?_) (fun h8 qh8 => ?_)
 ·have hk : placesOk t w_ h_ = false := by simpa using h8
  refine WC.r1 hs2 [] rfl (WC.ret (tkR ?_))
  clear hK7
  refine retV2 rfl (resV.tmp rfl) (resV.tmp rfl) ?_
  rw [hk]
  have hx_ := OwnF.eqOf (xs := placesL t w_ h_) (OwnF.nil encRect 71) (by simp [placesL, hk])
  rw [← hx_]
  exact ⟨_, _, _, rfl, hs2.nil, (OwnF.nil encRect 71)⟩
 have hk : placesOk t w_ h_ = true := by simpa using h8
 have haf := areas_filter hk
 refine WC.skip (hK7 _ _ (WC.sr (WL.r 1 hs2 [] rfl ?_)))
 refine WL.cl Tryz.call174 rfl (k123_ _ _ _ _ ho6 (hs2.ow L1_5) ?_) ?_
 · first | assumption | rfl | omega
 rintro _ whs9 ⟨A10, c11, L1_12, rfl, hs9, ho13⟩
 replace hs9 := St.lend hs2 hs9
 refine ⟨_, rfl, WL.r 2 hs9 [] rfl (WL.nil (WC.ret (retV2 rfl (resV.tmp rfl) (resV.tmp rfl) ?_)))⟩
 rw [hk]
 have hx_ := OwnF.eqOf (xs := placesL t w_ h_) ho13 (by rw [haf])
 rw [← hx_]
 first | exact ⟨_, _, _, rfl, (St.keep1 hs9), ho13⟩ | exact ⟨A10, c11, _, by rw [OwnF.len_ ho13], (St.keep1 hs9), by rw [OwnF.len_ ho13]; exact ho13⟩
theorem k125_ (A_t : Option Addr) (n_t c_t : Nat) (t : List NodeD) (w_ : Int) (h_ : Int) (w : World) (f_t : SlF encNode w A_t n_t t) (hn : n_t ≤ 268435456) :
    Calls Tryz.prog 111 #[.slice A_t n_t c_t, i64 w_, i64 h_] w fun e w' => ∃ A c L1, e = .returned (.tuple #[.slice A (placesL t w_ h_).length c, .bool (placesOk t w_ h_)]) ∧ St w [] L1 w' ∧ OwnF encRect 71 (.slice A (placesL t w_ h_).length c) (placesL t w_ h_) L1 := by
 have hl := f_t.len
 refine enter 40 Tryz.func111 rfl Tryz.ntmps111 rfl rfl ?_
 have hs1 := St.init w
 refine WC.r1 hs1 [] rfl (WC.seq (fun K2 hK2 => WC.sr (WL.r 1 hs1 [] rfl ?_)))
 refine WL.cl Tryz.call101 rfl (k103_ _ _ _ _ _ (SlF.st0 f_t hs1) ?_) ?_
 · first | assumption | rfl | omega
 rintro _ whs3 ⟨rfl, hs3⟩
 replace hs3 := hs1.call0 hs3
 refine ⟨_, rfl, WL.r 2 hs3 [] rfl (WL.pO tbk 2 Acts.nil hs3 [] rfl rfl rfl rfl (fun g_ => trivial) (WL.r 1 hs3 [] rfl (WL.pO tbk 2 Acts.nil hs3 [] rfl rfl rfl rfl (fun g_ => trivial) (WL.r 1 hs3 [] rfl (WL.pO tbk 2 Acts.nil hs3 [] rfl rfl rfl rfl (fun g_ => trivial) (WL.r 1 hs3 [] rfl ?_))))))⟩
 refine WL.pO tbk 2 Acts.nil hs3 [] rfl rfl rfl rfl (fun g_ => trivial) (WL.nil (WC.cq rfl (fun h4 qh4 => ?_) (fun h4 qh4 => ?_)))
 ·have hk : placesOk t w_ h_ = false := by
    rw [← Bool.not_eq_true]; intro h_1
    simp only [placesOk, sidesOk, Bool.and_eq_true, within_iff] at h_1
    obtain ⟨⟨⟨a1_, a2_⟩, a3_⟩, _⟩ := h_1
    simp only [a1_, Bool.not_true, Bool.false_or, Bool.or_eq_true, decide_eq_true_eq] at h4; omega
  refine WC.r1 hs3 [] rfl (WC.ret (tkR ?_))
  clear hK2
  refine retV2 rfl (resV.tmp rfl) (resV.tmp rfl) ?_
  rw [hk]
  have hx_ := OwnF.eqOf (xs := placesL t w_ h_) (OwnF.nil encRect 71) (by simp [placesL, hk])
  rw [← hx_]
  exact ⟨_, _, _, rfl, hs3.nil, (OwnF.nil encRect 71)⟩
 have hs : treeOk t = true ∧ within w_ 1 120 = true ∧ within h_ 1 120 = true := by
   simp only [Bool.or_eq_false_iff, Bool.not_eq_false', decide_eq_false_iff_not] at h4
   exact ⟨h4.1.1.1.1, within_iff.2 ⟨by omega, by omega⟩, within_iff.2 ⟨by omega, by omega⟩⟩
 have hso : sidesOk t w_ h_ = true := by simp [sidesOk, hs]
 refine WC.skip (hK2 _ _ (WC.sr (WL.r 3 hs3 [] rfl ?_)))
 refine WL.val rfl rfl rfl (Run.build rfl rfl rfl rfl (built_71_3_4 _ _)) (WL.cl Tryz.call172 rfl (k116_ _ _ _ _ _ 0 _ _ _ _ _ (theT t) _ (SlF.st0 f_t hs3) ?_ ?_ ?_ ?_) ?_)
 · omega
 · rfl
 · exact (theT_at hs.1).1
 · exact fine0 hs.2.1 hs.2.2
 rintro _ whs5 ⟨A6, c7, L1_8, rfl, hs5, ho9⟩
 replace hs5 := hs3.callF hs5
 refine ⟨_, rfl, WL.r 5 hs5 [] rfl (WL.nil (WC.seq (fun K10 hK10 => WC.r1 hs5 [] rfl ?_)))⟩
 refine WC.cq rfl (fun h11 qh11 => ?_) (fun h11 qh11 => ?_)
 ·have hk : placesOk t w_ h_ = false := by simpa [placesOk, hso] using h11
  refine WC.r1 hs5 [] rfl (WC.ret (tkR ?_))
  clear hK10
  refine retV2 rfl (resV.tmp rfl) (resV.tmp rfl) ?_
  rw [hk]
  have hx_ := OwnF.eqOf (xs := placesL t w_ h_) (OwnF.nil encRect 71) (by simp [placesL, hk])
  rw [← hx_]
  exact ⟨_, _, _, rfl, hs5.nil, (OwnF.nil encRect 71)⟩
 have hk : placesOk t w_ h_ = true := by simpa [placesOk, hso] using h11
 refine WC.skip (hK10 _ _ (WC.r1 hs5 [] rfl (WC.ret (retV2 rfl (resV.tmp rfl) (resV.tmp rfl) ?_))))
 rw [hk]
 have hx_ := OwnF.eqOf (xs := placesL t w_ h_) ho9 (by simp [placesL, hk])
 rw [← hx_]
 first | exact ⟨_, _, _, rfl, (St.keep1 hs5), ho9⟩ | exact ⟨A6, c7, _, by rw [OwnF.len_ ho9], (St.keep1 hs5), by rw [OwnF.len_ ho9]; exact ho9⟩
theorem built_71 : Tryz.prog.built 71 [] = some (List.toArray [.int .i64 0, .int .i64 0, .int .i64 0, .int .i64 0, .int .i64 0]) := by kernel_rfl
theorem k126_ (r_Pane : Int) (r_X : Int) (r_Y : Int) (r_W : Int) (r_H : Int) (b_p : Nat) (p : Int) (w : World) (f_p : SlF encI w (some ⟨b_p, 0, none⟩) 1 [p]) :
    Calls Tryz.prog 114 #[.agg #[i64 r_Pane, i64 r_X, i64 r_Y, i64 r_W, i64 r_H], .pointer (some ⟨b_p, 0, none⟩)] w fun e w' => e = .returned (.bool (decide (r_Pane = p))) ∧ St w [] [] w' := by
 refine enter 8 Tryz.func114 rfl Tryz.ntmps114 rfl rfl ?_
 have hs1 := St.init w
 refine WC.sr (WL.bx hs1 rfl (fun b2 _ hs3 => WL.r 1 hs3 [] rfl (WL.nil (WC.sr (WL.r 2 hs3 [0] rfl (WL.val rfl rfl rfl (Run.load Tryz.isAgg3 rfl rfl (SlF.var (SlF.st0 f_p hs3) rfl)) (WL.r 2 hs3 [] rfl ?_)))))))
 refine WL.nil (WC.ret (rtv rfl rfl hs3 ?_))
 rfl
theorem k127_ (A_s : Option Addr) (n_s c_s : Nat) (s : List RectD) (b_p : Nat) (p : Int) (w : World) (f_s : SlF encRect w A_s n_s s) (f_p : SlF encI w (some ⟨b_p, 0, none⟩) 1 [p]) (hn : n_s ≤ 1099511627776) :
    Calls Tryz.prog 113 #[.slice A_s n_s c_s, .func (.func 114) #[] #[.pointer (some ⟨b_p, 0, none⟩)]] w fun e w' => e = .returned (.int .i64 (findI (fun r : RectD => decide (r.Pane = p)) s)) ∧ St w [] [] w' := by
 refine enter 19 Tryz.func113 rfl Tryz.ntmps113 rfl rfl ?_
 have hs1 := St.init w
 refine WC.r1 hs1 [] rfl (WC.seq (fun K2 hK2 => WC.r1 hs1 [] rfl (WC.block ?_)))
 refine WC.lS [0, 1, 7] rfl hs1 (fun k_ f w' => ∃ (i : Nat), k_ = n_s - i ∧ (i ≤ n_s) ∧ (∀ j, j < i → (fun r : RectD => decide (r.Pane = p)) (gat encRect s j) = false) ∧ Sub [(8, .int .i64 i)] f) ((fun (i : Nat) => n_s - i) (0)) ?_ ?_
 ·refine ⟨0, rfl, ?_, ?_, ⟨rfl, trivial⟩⟩
  · exact Nat.zero_le _
  · exact fun j hj => absurd hj (by omega)
 clear hs1
 rintro _ f w ⟨i, rfl, p0, p1, hG⟩ hF hs3
 refine WC.sub _ (hG.app hF) ?_
 clear hG hF
 refine WC.r1 hs3 [] rfl (WC.seq (fun K4 hK4 => ?_))
 refine WC.cond rfl (fun h5 => ?_) (fun h5 => ?_)
 ·have qh5 := h5
  try simp only [decide_eq_true_eq, decide_eq_false_iff_not] at qh5
  refine WC.skip (hK4 _ _ (WC.seq (fun K6 hK6 => WC.block (WC.r1 hs3 [] rfl (WC.sr (WL.r 3 hs3 [] rfl ?_))))))
  refine WL.val rfl rfl rfl (Run.idxN Tryz.runUnderlying158 Tryz.sizeOf71 rfl rfl rfl ?_ ?_ ?_) ?_
  · exact SlF.some_ (SlF.st0 f_s hs3)
  · omega
  · omega
  refine WL.val rfl rfl rfl (Run.loadA Tryz.isAgg71 Tryz.sizeOf71 rfl rfl (SlF.whole (SlF.st0 f_s hs3) ?_)) ?_
  · omega
  refine WL.call rfl rfl rfl (Run.callC Tryz.call114 rfl rfl rfl) (k126_ _ _ _ _ _ _ _ _ (SlF.st0 f_p hs3)) ?_
  rintro _ whs7 ⟨rfl, hs7⟩
  replace hs7 := hs3.call0 hs7
  refine ⟨_, rfl, WL.nil (WC.cond rfl (fun h8 => ?_) (fun h8 => ?_))⟩
  ·have qh8 := h8
   try simp only [decide_eq_true_eq, decide_eq_false_iff_not] at qh8
   refine WC.r1 hs7 [] rfl (WC.ret (ibR (tkR (tkR (ibR (tkR ?_))))))
   clear hK6 hK2
   refine rtv rfl rfl hs7 ?_
   rw [findI_some (F := encRect) (by rw [f_s.len]; omega) p1 h8]
  have qh8 := h8
  try simp only [decide_eq_true_eq, decide_eq_false_iff_not] at qh8
  refine WC.skip (hK6 _ _ (WC.region (WL.r 2 hs7 [] rfl (WL.nil (tkN ?_)))))
  refine ⟨sbF rfl, hs7, _, ?_, i + 1, rfl, ?_, ?_, ⟨rfl, trivial⟩⟩
  · omega
  · omega
  · intro j hj; rcases Nat.lt_or_ge j i with h_ | h_
    · exact p1 j h_
    · obtain rfl : j = i := by omega
      exact h8
 have qh5 := h5
 try simp only [decide_eq_true_eq, decide_eq_false_iff_not] at qh5
 refine WC.exit (hK2 _ _ (WC.r1 hs3 [] rfl (WC.ret (rtv rfl rfl hs3 ?_))))
 rw [findI_none (F := encRect) (fun j hj => p1 j (by rw [f_s.len] at hj; omega))]
theorem k128_ (A_t : Option Addr) (n_t c_t : Nat) (t : List NodeD) (w_ : Int) (h_ : Int) (p : Int) (w : World) (f_t : SlF encNode w A_t n_t t) (hn : n_t ≤ 268435456) :
    Calls Tryz.prog 52 #[.slice A_t n_t c_t, i64 w_, i64 h_, i64 p] w fun e w' => e = .returned (.tuple #[.agg (encRect.enc (placeR t w_ h_ p)).toArray, .bool (decide (0 ≤ placeAt t w_ h_ p))]) ∧ St w [] [] w' := by
 have hpl := placesL_len t w_ h_
 have hpa := placeAt_lt t w_ h_ p
 refine enter 30 Tryz.func52 rfl Tryz.ntmps52 rfl rfl ?_
 have hs1 := St.init w
 refine WC.sr (WL.bx hs1 rfl (fun b2 _ hs3 => WL.al hs3 Tryz.zeroValue71 rfl rfl (fun b4 _ hs5 => WL.r 1 hs5 [] rfl (WL.nil (WC.sr (WL.r 3 hs5 [] rfl ?_))))))
 refine WL.cl Tryz.call112 rfl (k124_ _ _ _ _ _ _ _ (SlF.st0 f_t hs5) ?_) ?_
 · first | assumption | rfl | omega
 rintro _ whs6 ⟨A7, c8, L1_9, rfl, hs6, ho10⟩
 replace hs6 := hs5.callF hs6
 refine ⟨_, rfl, ?_⟩
 replace hs6 := St.back [_, _] hs6
 refine WL.r 5 hs6 [] rfl (WL.nil (WC.sr (WL.r 1 hs6 [] rfl (WL.val rfl rfl rfl (Run.makeFunc rfl rfl) (WL.cl Tryz.call113 rfl (k127_ _ _ _ _ _ _ _ (SlF.ofOwn ho10 (hs6.ow L1_9)) (SlF.own1 (hs6.own _ (nthL_mem (i := 1) rfl)).1) ?_) ?_)))))
 · first | assumption | rfl | omega
 rintro _ whs11 ⟨rfl, hs11⟩
 replace hs11 := hs6.call0 hs11
 refine ⟨_, rfl, WL.r 1 hs11 [] rfl (WL.nil (WC.seq (fun K12 hK12 => WC.r1 hs11 [] rfl ?_)))⟩
 refine WC.cD rfl (fun qh13 => ?_) (fun qh13 => ?_)
 ·have hk : ¬ 0 ≤ placeAt t w_ h_ p := by show ¬ 0 ≤ findI _ _; omega
  refine WC.sr ?_
  refine WL.val rfl rfl rfl (Run.build rfl rfl rfl rfl (built_71)) (WL.st tbk hs11 0 rfl rfl (fun _ hs14 => WL.r 1 hs14 [] rfl (WL.nil (WC.ret (tkR ?_)))))
  clear hK12
  refine retV2 rfl (resV.cellA tbk hs14 0 rfl rfl rfl rfl) (resV.tmp rfl) (⟨congrArg Ending.returned ?_, hs14.nil⟩)
  rw [placeR, if_neg hk, decide_eq_false hk]; rfl
 have hk : 0 ≤ placeAt t w_ h_ p := by show 0 ≤ findI _ _; omega
 have hpe : findI (fun r : RectD => decide (r.Pane = p)) (placesL t w_ h_) = placeAt t w_ h_ p := rfl
 refine WC.skip (hK12 _ _ (WC.sr (WL.r 2 hs11 [] rfl ?_)))
 refine WL.val rfl rfl rfl (Run.idxK ((placeAt t w_ h_ p).toNat) Tryz.runUnderlying158 Tryz.sizeOf71 rfl rfl rfl ?_ ?_ ?_) ?_
 · exact SlF.some_ (SlF.ofOwn ho10 (hs11.ow L1_9))
 · omega
 · omega
 refine WL.val rfl rfl rfl (Run.loadA Tryz.isAgg71 Tryz.sizeOf71 rfl rfl (SlF.whole (SlF.ofOwn ho10 (hs11.ow L1_9)) ?_)) ?_
 · omega
 refine WL.st tbk hs11 0 rfl rfl (fun _ hs15 => WL.r 1 hs15 [] rfl (WL.nil (WC.ret (retV2 rfl (resV.cellA tbk hs15 0 rfl rfl rfl rfl) (resV.tmp rfl) (⟨congrArg Ending.returned ?_, hs15.nil⟩)))))
 rw [placeR, if_pos hk, decide_eq_true hk]; rfl
theorem k129_ (A_t : Option Addr) (n_t c_t : Nat) (t : List NodeD) (w_ : Int) (h_ : Int) (p : Int) (w : World) (f_t : SlF encNode w A_t n_t t) (hn : n_t ≤ 268435456) :
    Calls Tryz.prog 51 #[.slice A_t n_t c_t, i64 w_, i64 h_, i64 p] w fun e w' => e = .returned (.tuple #[.agg (encRect.enc (placeR t w_ h_ p)).toArray, .bool (decide (0 ≤ placeAt t w_ h_ p))]) ∧ St w [] [] w' := by
 have hpl := placesL_len t w_ h_
 refine enter 34 Tryz.func51 rfl Tryz.ntmps51 rfl rfl ?_
 have hs1 := St.init w
 refine WC.sr (WL.al hs1 Tryz.zeroValue71 rfl rfl (fun b2 _ hs3 => WL.r 1 hs3 [] rfl (WL.nil (WC.sr (WL.r 3 hs3 [] rfl ?_)))))
 refine WL.cl Tryz.call111 rfl (k125_ _ _ _ _ _ _ _ (SlF.st0 f_t hs3) ?_) ?_
 · first | assumption | rfl | omega
 rintro _ whs4 ⟨A5, c6, L1_7, rfl, hs4, ho8⟩
 replace hs4 := hs3.callF hs4
 refine ⟨_, rfl, ?_⟩
 replace hs4 := St.back [_] hs4
 refine WL.r 5 hs4 [] rfl (WL.nil (WC.seq (fun K9 hK9 => WC.r1 hs4 [] rfl (WC.block ?_))))
 refine WC.lS [3, 8, 21, 22] rfl hs4 (fun k_ f w' => ∃ (i : Nat), k_ = (placesL t w_ h_).length - i ∧ (i ≤ (placesL t w_ h_).length) ∧ (∀ j, j < i → (fun r : RectD => decide (r.Pane = p)) (gat encRect (placesL t w_ h_) j) = false) ∧ Sub [(23, .int .i64 i)] f) ((fun (i : Nat) => (placesL t w_ h_).length - i) (0)) ?_ ?_
 ·refine ⟨0, rfl, ?_, ?_, ⟨rfl, trivial⟩⟩
  · exact Nat.zero_le _
  · exact fun j hj => absurd hj (by omega)
 clear hs4
 rintro _ f w ⟨i, rfl, p0, p1, hG⟩ hF hs10
 refine WC.sub _ (hG.app hF) ?_
 clear hG hF
 refine WC.r1 hs10 [] rfl (WC.seq (fun K11 hK11 => ?_))
 refine WC.cq rfl (fun h12 qh12 => ?_) (fun h12 qh12 => ?_)
 ·refine WC.skip (hK11 _ _ (WC.seq (fun K13 hK13 => WC.block (WC.sr ?_))))
  refine WL.val rfl rfl rfl (Run.idxN Tryz.runUnderlying158 Tryz.sizeOf71 rfl rfl rfl ?_ ?_ ?_) ?_
  · exact SlF.some_ (SlF.ofOwn ho8 (hs10.ow L1_7))
  · omega
  · omega
  refine WL.val rfl rfl rfl (Run.loadA Tryz.isAgg71 Tryz.sizeOf71 rfl rfl (SlF.whole (SlF.ofOwn ho8 (hs10.ow L1_7)) ?_)) ?_
  · omega
  refine WL.al hs10 Tryz.zeroValue71 rfl rfl (fun b14 _ hs15 => WL.st tbk hs15 0 rfl rfl (fun _ hs16 => WL.nil (WC.r1 hs16 [0] rfl ?_)))
  refine WC.cq rfl (fun h17 qh17 => ?_) (fun h17 qh17 => ?_)
  ·have hfi : placeAt t w_ h_ p = (i : Int) := findI_some (F := encRect) (by omega) p1 h17
   refine WC.sr (WL.r 1 hs16 [0] rfl (WL.st tbk hs16 1 rfl rfl (fun _ hs18 => WL.r 1 hs18 [] rfl (WL.nil (WC.ret (ibR (tkR (tkR (ibR (tkR ?_))))))))))
   clear hK13 hK9
   refine retV2 rfl (resV.cellA tbk hs18 1 rfl rfl rfl rfl) (resV.tmp rfl) (⟨congrArg Ending.returned ?_, hs18.nil⟩)
   rw [placeR, hfi, if_pos (by omega), decide_eq_true (by omega)]; rfl
  refine WC.skip (hK13 _ _ (WC.region (WL.r 2 hs16 [] rfl (WL.nil (tkN ?_)))))
  refine ⟨sbF rfl, (hs16.drop (by repeat (first | exact List.Sublist.refl _ | exact List.sublist_append_left _ _ | exact List.Sublist.trans (List.sublist_append_left _ _) (List.sublist_append_left _ _) | apply List.Sublist.cons | refine List.Sublist.trans ?_ (sR _)))), _, ?_, i + 1, rfl, ?_, ?_, ⟨rfl, trivial⟩⟩
  · omega
  · omega
  · intro j hj; rcases Nat.lt_or_ge j i with h_0 | h_0
    · exact p1 j h_0
    · obtain rfl : j = i := by omega
      exact h17
 have hfi : placeAt t w_ h_ p = -1 := findI_none (F := encRect) (fun j hj => p1 j (by omega))
 refine WC.exit (hK9 _ _ (WC.sr ?_))
 refine WL.val rfl rfl rfl (Run.build rfl rfl rfl rfl (built_71)) (WL.st tbk hs10 0 rfl rfl (fun _ hs19 => WL.r 1 hs19 [] rfl (WL.nil (WC.ret (retV2 rfl (resV.cellA tbk hs19 0 rfl rfl rfl rfl) (resV.tmp rfl) (⟨congrArg Ending.returned ?_, hs19.nil⟩))))))
 rw [placeR, hfi]; rfl
theorem k130_ (s : StateR) (p : Int) (w : World) (f_s : okStateR 549755813888 w s) (hT : totState s.dat ≤ 1048576) :
    Calls Tryz.prog 17 #[.agg #[i64 s.W, i64 s.H, i64 s.Limit, i64 s.Next, .slice s.Panes.A s.Panes.n s.Panes.c, .slice s.Wins.A s.Wins.n s.Wins.c, .slice s.Sess.A s.Sess.n s.Sess.c], i64 p] w fun e w' => e = .returned (.tuple #[.int .i64 (areaD s.dat p).1, .int .i64 (areaD s.dat p).2]) ∧ St w [] [] w' := by
 have nb_s_Panes := f_s.Panes_n
 have nl_s_Panes := f_s.Panes.sl.len
 have nb_s_Wins := f_s.Wins_n
 have nl_s_Wins := f_s.Wins.sl.len
 have nb_s_Sess := f_s.Sess_n
 have nl_s_Sess := f_s.Sess.sl.len
 have hsm0 : smState 1048576 s.dat := totState_sm hT
 have hWn : ∀ y, y ∈ s.Wins.xs → y.Tree.n ≤ 1048576 := fun y hy => by have h1 := (f_s.Wins.all y hy).Tree.len; have h2 : y.Tree.xs.length ≤ 1048576 := (hsm0.2.2.2.1 _ (List.mem_map_of_mem hy)).2; omega
 refine enter 47 Tryz.func17 rfl Tryz.ntmps17 rfl rfl ?_
 have hs1 := St.init w
 refine WC.sr (WL.bx hs1 rfl (fun b2 _ hs3 => WL.r 2 hs3 [] rfl (WL.nil (WC.sr (WL.r 2 hs3 [0] rfl ?_)))))
 refine WL.cl Tryz.call14 rfl (k111_ s _ _ (okStateR.st0 f_s hs3) ?_) ?_
 · first | assumption | rfl | omega
 rintro _ whs4 ⟨rfl, hs4⟩
 replace hs4 := hs3.call0 hs4
 refine ⟨_, rfl, WL.r 1 hs4 [] rfl (WL.nil (WC.seq (fun K5 hK5 => WC.r1 hs4 [] rfl ?_)))⟩
 refine WC.cq rfl (fun h6 qh6 => ?_) (fun h6 qh6 => ?_)
 ·have hfd : s.dat.Wins.find? (winHas p) = none := by rw [find_findI, if_neg (by have h9 := h6; simp at h9; omega)]
  have hAD : areaD s.dat p = (0, 0) := by unfold areaD; rw [hfd]
  refine WC.r1 hs4 [] rfl (WC.ret (tkR ?_))
  clear hK5
  refine retV2 rfl (resV.tmp rfl) (resV.tmp rfl) (⟨congrArg Ending.returned ?_, hs4.nil⟩)
  rw [hAD]
 have hk0 : 0 ≤ (findI (winHas p) s.dat.Wins) := by have h9 := h6; simp at h9; omega
 have hlt : (findI (winHas p) s.dat.Wins).toNat < s.Wins.xs.length := by have h9 := findI_lt (p := winHas p) (xs := s.dat.Wins); have h8 : s.dat.Wins.length = s.Wins.xs.length := List.length_map _; omega
 have hfd : s.dat.Wins.find? (winHas p) = some (gat encWinR s.Wins.xs (findI (winHas p) s.dat.Wins).toNat).dat := by rw [find_findI, if_pos hk0, show s.dat.Wins = s.Wins.xs.map WinR.dat from rfl, List.getElem?_map, gat_get (F := encWinR) (by exact hlt)]; rfl
 have hAD : areaD s.dat p = areaW s.dat p (gat encWinR s.Wins.xs (findI (winHas p) s.dat.Wins).toNat).dat := by unfold areaD; rw [hfd]
 have hWi := hWn (gat encWinR s.Wins.xs (findI (winHas p) s.dat.Wins).toNat) (gat_mem hlt)
 have hwl : (findI (winHas p) s.dat.Wins) < s.Wins.n := by omega
 refine WC.skip (hK5 _ _ (WC.sr (WL.r 3 hs4 [0] rfl ?_)))
 refine WL.val rfl rfl rfl (Run.idxK ((findI (winHas p) s.dat.Wins).toNat) Tryz.runUnderlying30 Tryz.sizeOf58 rfl rfl rfl ?_ ?_ ?_) ?_
 · exact SlF.some_ (SlF.st0 f_s.Wins.sl hs4)
 · omega
 · omega
 refine WL.val rfl rfl rfl (Run.loadA Tryz.isAgg58 Tryz.sizeOf58 rfl rfl (SlF.whole (SlF.st0 f_s.Wins.sl hs4) ?_)) ?_
 · omega
 refine WL.al hs4 Tryz.zeroValue58 rfl rfl (fun b7 _ hs8 => WL.st tbk hs8 0 rfl rfl (fun _ hs9 => WL.nil (WC.seq (fun K10 hK10 => WC.sr (WL.r 3 hs9 [0] rfl (WL.pA tbk 4 Acts.nil hs9 [0] rfl rfl rfl rfl (fun g_ => ⟨rfl, trivial⟩) (WL.nil ?_)))))))
 refine WC.cq rfl (fun h11 qh11 => ?_) (fun h11 qh11 => ?_)
 ·have hz : ((gat encWinR s.Wins.xs (findI (winHas p) s.dat.Wins).toNat).Zoom && decide ((gat encWinR s.Wins.xs (findI (winHas p) s.dat.Wins).toNat).Active = p)) = true := h11
  have hAW : areaW s.dat p (gat encWinR s.Wins.xs (findI (winHas p) s.dat.Wins).toNat).dat = (s.W, s.H) := if_pos hz
  refine WC.q1 hs9 [1, 1] rfl (fun _ hs12 => WC.ret (tkR ?_))
  clear hK10
  refine retV2 rfl (resV.tmp rfl) (resV.tmp rfl) (⟨congrArg Ending.returned ?_, hs12.nil⟩)
  rw [hAD, hAW]
 have hz : ¬ ((gat encWinR s.Wins.xs (findI (winHas p) s.dat.Wins).toNat).Zoom && decide ((gat encWinR s.Wins.xs (findI (winHas p) s.dat.Wins).toNat).Active = p)) = true := by have h9 := h11; rw [h9]; decide
 have hAW : areaW s.dat p (gat encWinR s.Wins.xs (findI (winHas p) s.dat.Wins).toNat).dat = ((placeR (gat encWinR s.Wins.xs (findI (winHas p) s.dat.Wins).toNat).Tree.xs s.W s.H p).W, (placeR (gat encWinR s.Wins.xs (findI (winHas p) s.dat.Wins).toNat).Tree.xs s.W s.H p).H) := if_neg hz
 refine WC.skip (hK10 _ _ (WC.sr (WL.r 7 hs9 [0, 1, 1] rfl ?_)))
 refine WL.cl Tryz.call52 rfl (k128_ _ _ _ _ _ _ _ _ (SlF.st0 (SlN.nth f_s.Wins (by omega)).Tree hs9) ?_) ?_
 · first | assumption | rfl | omega
 rintro _ whs13 ⟨rfl, hs13⟩
 replace hs13 := hs9.call0 hs13
 refine ⟨_, rfl, WL.r 3 hs13 [] rfl (WL.al hs13 Tryz.zeroValue71 rfl rfl (fun b14 _ hs15 => WL.st tbk hs15 0 rfl rfl (fun _ hs16 => WL.r 1 hs16 [] rfl (WL.nil (WC.q1 hs16 [0, 0] rfl (fun _ hs17 => WC.ret ?_))))))⟩
 refine retV2 rfl (resV.tmp rfl) (resV.tmp rfl) (⟨congrArg Ending.returned ?_, hs17.nil⟩)
 rw [hAD, hAW]
theorem k131_ (s : StateR) (p : Int) (w : World) (f_s : okStateR 549755813888 w s) (hT : totState s.dat ≤ 1048576) :
    Calls Tryz.prog 16 #[.agg #[i64 s.W, i64 s.H, i64 s.Limit, i64 s.Next, .slice s.Panes.A s.Panes.n s.Panes.c, .slice s.Wins.A s.Wins.n s.Wins.c, .slice s.Sess.A s.Sess.n s.Sess.c], i64 p] w fun e w' => e = .returned (.tuple #[.int .i64 (areaD s.dat p).1, .int .i64 (areaD s.dat p).2]) ∧ St w [] [] w' := by
 have nb_s_Panes := f_s.Panes_n
 have nl_s_Panes := f_s.Panes.sl.len
 have nb_s_Wins := f_s.Wins_n
 have nl_s_Wins := f_s.Wins.sl.len
 have nb_s_Sess := f_s.Sess_n
 have nl_s_Sess := f_s.Sess.sl.len
 have hsm0 : smState 1048576 s.dat := totState_sm hT
 have hWn : ∀ y, y ∈ s.Wins.xs → y.Tree.n ≤ 1048576 := fun y hy => by have h1 := (f_s.Wins.all y hy).Tree.len; have h2 : y.Tree.xs.length ≤ 1048576 := (hsm0.2.2.2.1 _ (List.mem_map_of_mem hy)).2; omega
 refine enter 47 Tryz.func16 rfl Tryz.ntmps16 rfl rfl ?_
 have hs1 := St.init w
 refine WC.sr (WL.bx hs1 rfl (fun b2 _ hs3 => WL.r 2 hs3 [] rfl (WL.nil (WC.sr (WL.r 2 hs3 [0] rfl ?_)))))
 refine WL.cl Tryz.call12 rfl (k112_ s _ _ (okStateR.st0 f_s hs3) ?_) ?_
 · first | assumption | rfl | omega
 rintro _ whs4 ⟨rfl, hs4⟩
 replace hs4 := hs3.call0 hs4
 refine ⟨_, rfl, WL.r 1 hs4 [] rfl (WL.nil (WC.seq (fun K5 hK5 => WC.r1 hs4 [] rfl ?_)))⟩
 refine WC.cq rfl (fun h6 qh6 => ?_) (fun h6 qh6 => ?_)
 ·have hfd : s.dat.Wins.find? (winHas p) = none := by rw [find_findI, if_neg (by have h9 := h6; simp at h9; omega)]
  have hAD : areaD s.dat p = (0, 0) := by unfold areaD; rw [hfd]
  refine WC.r1 hs4 [] rfl (WC.ret (tkR ?_))
  clear hK5
  refine retV2 rfl (resV.tmp rfl) (resV.tmp rfl) (⟨congrArg Ending.returned ?_, hs4.nil⟩)
  rw [hAD]
 have hk0 : 0 ≤ (findI (winHas p) s.dat.Wins) := by have h9 := h6; simp at h9; omega
 have hlt : (findI (winHas p) s.dat.Wins).toNat < s.Wins.xs.length := by have h9 := findI_lt (p := winHas p) (xs := s.dat.Wins); have h8 : s.dat.Wins.length = s.Wins.xs.length := List.length_map _; omega
 have hfd : s.dat.Wins.find? (winHas p) = some (gat encWinR s.Wins.xs (findI (winHas p) s.dat.Wins).toNat).dat := by rw [find_findI, if_pos hk0, show s.dat.Wins = s.Wins.xs.map WinR.dat from rfl, List.getElem?_map, gat_get (F := encWinR) (by exact hlt)]; rfl
 have hAD : areaD s.dat p = areaW s.dat p (gat encWinR s.Wins.xs (findI (winHas p) s.dat.Wins).toNat).dat := by unfold areaD; rw [hfd]
 have hWi := hWn (gat encWinR s.Wins.xs (findI (winHas p) s.dat.Wins).toNat) (gat_mem hlt)
 have hwl : (findI (winHas p) s.dat.Wins) < s.Wins.n := by omega
 refine WC.skip (hK5 _ _ (WC.sr (WL.r 3 hs4 [0] rfl ?_)))
 refine WL.val rfl rfl rfl (Run.idxK ((findI (winHas p) s.dat.Wins).toNat) Tryz.runUnderlying30 Tryz.sizeOf58 rfl rfl rfl ?_ ?_ ?_) ?_
 · exact SlF.some_ (SlF.st0 f_s.Wins.sl hs4)
 · omega
 · omega
 refine WL.val rfl rfl rfl (Run.loadA Tryz.isAgg58 Tryz.sizeOf58 rfl rfl (SlF.whole (SlF.st0 f_s.Wins.sl hs4) ?_)) ?_
 · omega
 refine WL.al hs4 Tryz.zeroValue58 rfl rfl (fun b7 _ hs8 => WL.st tbk hs8 0 rfl rfl (fun _ hs9 => WL.nil (WC.seq (fun K10 hK10 => WC.sr (WL.r 3 hs9 [0] rfl (WL.pA tbk 4 Acts.nil hs9 [0] rfl rfl rfl rfl (fun g_ => ⟨rfl, trivial⟩) (WL.nil ?_)))))))
 refine WC.cq rfl (fun h11 qh11 => ?_) (fun h11 qh11 => ?_)
 ·have hz : ((gat encWinR s.Wins.xs (findI (winHas p) s.dat.Wins).toNat).Zoom && decide ((gat encWinR s.Wins.xs (findI (winHas p) s.dat.Wins).toNat).Active = p)) = true := h11
  have hAW : areaW s.dat p (gat encWinR s.Wins.xs (findI (winHas p) s.dat.Wins).toNat).dat = (s.W, s.H) := if_pos hz
  refine WC.q1 hs9 [1, 1] rfl (fun _ hs12 => WC.ret (tkR ?_))
  clear hK10
  refine retV2 rfl (resV.tmp rfl) (resV.tmp rfl) (⟨congrArg Ending.returned ?_, hs12.nil⟩)
  rw [hAD, hAW]
 have hz : ¬ ((gat encWinR s.Wins.xs (findI (winHas p) s.dat.Wins).toNat).Zoom && decide ((gat encWinR s.Wins.xs (findI (winHas p) s.dat.Wins).toNat).Active = p)) = true := by have h9 := h11; rw [h9]; decide
 have hAW : areaW s.dat p (gat encWinR s.Wins.xs (findI (winHas p) s.dat.Wins).toNat).dat = ((placeR (gat encWinR s.Wins.xs (findI (winHas p) s.dat.Wins).toNat).Tree.xs s.W s.H p).W, (placeR (gat encWinR s.Wins.xs (findI (winHas p) s.dat.Wins).toNat).Tree.xs s.W s.H p).H) := if_neg hz
 refine WC.skip (hK10 _ _ (WC.sr (WL.r 7 hs9 [0, 1, 1] rfl ?_)))
 refine WL.cl Tryz.call51 rfl (k129_ _ _ _ _ _ _ _ _ (SlF.st0 (SlN.nth f_s.Wins (by omega)).Tree hs9) ?_) ?_
 · first | assumption | rfl | omega
 rintro _ whs13 ⟨rfl, hs13⟩
 replace hs13 := hs9.call0 hs13
 refine ⟨_, rfl, WL.r 3 hs13 [] rfl (WL.al hs13 Tryz.zeroValue71 rfl rfl (fun b14 _ hs15 => WL.st tbk hs15 0 rfl rfl (fun _ hs16 => WL.r 1 hs16 [] rfl (WL.nil (WC.q1 hs16 [0, 0] rfl (fun _ hs17 => WC.ret ?_))))))⟩
 refine retV2 rfl (resV.tmp rfl) (resV.tmp rfl) (⟨congrArg Ending.returned ?_, hs17.nil⟩)
 rw [hAD, hAW]
theorem within_of {x a b : Int} (h : a ≤ x ∧ x ≤ b) : within x a b = true := within_iff.2 h
structure ScrFine (s : ScrD) : Prop where
 gM : gridOk s.Main = true
 gA : gridOk s.Alt = true
 dim : s.Main.W = s.W ∧ s.Main.H = s.H ∧ s.Alt.W = s.W ∧ s.Alt.H = s.H
 pos : (0 ≤ s.X ∧ s.X < s.W) ∧ 0 ≤ s.Y ∧ s.Y < s.H
 sav : (0 ≤ s.SaveX ∧ s.SaveX < s.W) ∧ 0 ≤ s.SaveY ∧ s.SaveY < s.H
 wrp : s.Wrap = true → s.X = s.W - 1
 aA : attrOk s.A.Fg s.A.Bg = true
 aS : attrOk s.SaveA.Fg s.SaveA.Bg = true
 reg : (0 ≤ s.Top ∧ s.Top ≤ s.Bot) ∧ s.Bot < s.H ∧ (s.Top = s.Bot → s.H = 1)
 lim : (0 ≤ s.Limit ∧ s.Limit ≤ 100) ∧ (s.Back.length : Int) ≤ s.Limit
 tab : isAsc s.Tabs 0 (s.W - 1) = true
 row : s.Back.all rowOk = true
theorem ScrFine.of {s : ScrD} (h : scrOk s = true) : ScrFine s := by
 obtain ⟨h1, h2, h3, h4, h5, h6⟩ := scrOk_P h
 have hb := scrOk_bnd h
 have hm := scrOk_main h
 have ha := scrOk_attr h
 refine ⟨hm.1, hm.2, ⟨hb.1.2.2.1, hb.1.2.2.2.1, hb.1.2.2.2.2⟩, hb.2.1, hb.2.2.1, ?_, ha.1, ha.2, ⟨⟨hb.2.2.2.1.1, hb.2.2.2.1.2.1⟩, hb.2.2.2.1.2.2, ?_⟩, hb.2.2.2.2, h5, h6⟩
 ·intro hw
  unfold scrP2 at h2
  rw [hw] at h2
  simp only [Bool.and_eq_true, Bool.not_true, Bool.false_or, decide_eq_true_eq] at h2
  exact h2.2.1
 ·intro he
  unfold scrP3 at h3
  rw [he] at h3
  simp only [Bool.and_eq_true, decide_true, Bool.not_true, Bool.false_or, decide_eq_true_eq] at h3
  exact h3.2.2
theorem ScrFine.ok {s : ScrD} (h : ScrFine s) : scrOk s = true := by
 have b := gridOk_bnd h.gM
 obtain ⟨d1, d2, d3, d4⟩ := h.dim
 have hp := h.pos
 have hs := h.sav
 have hr := h.reg
 have hl := h.lim
 refine scrOk_all ?_ ?_ ?_ ?_ h.tab h.row
 ·unfold scrP1 gridFit
  simp [h.gM, h.gA, d1, d2, d3, d4]
 ·unfold scrP2 gridHas
  rw [within_of (by omega), within_of (by omega), within_of (by omega), within_of (by omega), h.aA, h.aS]
  have hw := h.wrp
  cases hq : s.Wrap
  ·rfl
  ·simp [hw hq]
 ·unfold scrP3
  simp only [Bool.and_eq_true, decide_eq_true_eq, Bool.or_eq_true, Bool.not_eq_true', decide_eq_false_iff_not]
  refine ⟨hr.1, hr.2.1, ?_⟩
  by_cases he : s.Top = s.Bot
  ·exact .inr (hr.2.2 he)
  ·exact .inl he
 ·unfold scrP4
  rw [within_of hl.1, Bool.true_and, decide_eq_true_eq]
  exact hl.2
theorem grid_len {g : GridD} (hg : gridOk g = true) : (g.Cells.length : Int) = g.W * g.H := by
 unfold gridOk at hg; rw [Bool.and_eq_true, Bool.and_eq_true, decide_eq_true_eq] at hg; exact hg.1.2
theorem idx_lt {g : GridD} {r : Int} {x : Nat} (hg : gridOk g = true) (h0 : 0 ≤ r) (h1 : r < g.H) (hx : x < g.W.toNat) : r.toNat * g.W.toNat + x < g.Cells.length := by
 have b := gridOk_bnd hg
 have l := grid_len hg
 have e : ((g.H.toNat * g.W.toNat : Nat) : Int) = g.W * g.H := by rw [Int.natCast_mul, Int.toNat_of_nonneg (by omega), Int.toNat_of_nonneg (by omega), Int.mul_comm]
 have m := Nat.mul_le_mul_right g.W.toNat (show r.toNat + 1 ≤ g.H.toNat by omega)
 rw [Nat.add_mul, Nat.one_mul] at m
 omega
def putD (s : ScrD) (g : GridD) : ScrD := if s.OnAlt = true then { s with Alt := g } else { s with Main := g }
theorem ScrFine.put {s : ScrD} {g : GridD} (h : ScrFine s) (hg : gridOk g = true) (hd : g.W = s.W ∧ g.H = s.H) : ScrFine (putD s g) := by
 unfold putD
 split
 ·exact ⟨h.gM, hg, ⟨h.dim.1, h.dim.2.1, hd⟩, h.pos, h.sav, h.wrp, h.aA, h.aS, h.reg, h.lim, h.tab, h.row⟩
 ·exact ⟨hg, h.gA, ⟨hd.1, hd.2, h.dim.2.2⟩, h.pos, h.sav, h.wrp, h.aA, h.aS, h.reg, h.lim, h.tab, h.row⟩
def keepD (s : ScrD) (n : Int) : ScrD := if s.OnAlt = false ∧ s.Top = 0 then keepRows s (min n (s.Bot + 1)).toNat else s
def backD (s : ScrD) : ScrD := { s with X := s.SaveX, Y := s.SaveY, A := s.SaveA, Wrap := false }
theorem rowAt_ok {g : GridD} {i : Nat} (hg : gridOk g = true) (hi : (i : Int) < g.H) : rowOk (rowAt g i) = true := by
 have b := gridOk_bnd hg
 have l := grid_len hg
 have h2 := idx_lt (r := (i : Int)) (x := 0) hg (by omega) hi (by omega)
 have h3 := idx_lt (r := (i : Int)) (x := g.W.toNat - 1) hg (by omega) hi (by omega)
 rw [Int.toNat_natCast] at h2 h3
 have hl : (rowAt g i).Cells.length = g.W.toNat := by
  show ((g.Cells.drop _).take _).length = _
  rw [List.length_take, List.length_drop]; omega
 unfold rowOk
 rw [Bool.and_eq_true]
 refine ⟨within_of (by omega), ?_⟩
 have hc := (gridOk_cells hg).2
 unfold cellsOk at hc ⊢
 rw [List.all_eq_true] at hc ⊢
 exact fun x hx => hc x (List.mem_of_mem_drop (List.mem_of_mem_take hx))
theorem ScrFine.keepRows {s : ScrD} {n : Nat} (h : ScrFine s) (hn : (n : Int) ≤ s.H) : ScrFine (keepRows s n) := by
 refine ⟨h.gM, h.gA, h.dim, h.pos, h.sav, h.wrp, h.aA, h.aS, h.reg, ⟨h.lim.1, ?_⟩, h.tab, ?_⟩
 ·show ((lastN _ _).length : Int) ≤ s.Limit
  rw [lastN_len]; have := h.lim.1; omega
 ·show (lastN _ _).all rowOk = true
  rw [List.all_eq_true]
  intro x hx
  rcases List.mem_append.1 (List.mem_of_mem_drop hx) with hx | hx
  ·exact List.all_eq_true.1 h.row x hx
  ·obtain ⟨i, hi, rfl⟩ := List.mem_map.1 hx
   exact rowAt_ok h.gM (by rw [h.dim.2.1]; have := List.mem_range.1 hi; omega)
theorem ScrFine.keep {s : ScrD} {n : Int} (h : ScrFine s) : ScrFine (keepD s n) := by
 unfold keepD
 split
 ·exact h.keepRows (by have := h.reg; omega)
 ·exact h
theorem ScrFine.y {s : ScrD} {y : Int} (h : ScrFine s) (hy : 0 ≤ y ∧ y < s.H) : ScrFine { s with Y := y } :=
 ⟨h.gM, h.gA, h.dim, ⟨h.pos.1, hy⟩, h.sav, h.wrp, h.aA, h.aS, h.reg, h.lim, h.tab, h.row⟩
theorem ScrFine.back {s : ScrD} (h : ScrFine s) : ScrFine (backD s) :=
 ⟨h.gM, h.gA, h.dim, h.sav, h.sav, fun h9 => Bool.noConfusion h9, h.aS, h.aS, h.reg, h.lim, h.tab, h.row⟩
def fitP (s : StateD) (p : PaneD) : PaneD := if p.Term.S.W = (areaD s p.Id).1 ∧ p.Term.S.H = (areaD s p.Id).2 then p else if termSizeOk p.Term (areaD s p.Id).1 (areaD s p.Id).2 = true then { p with Term := termSizeRes p.Term (areaD s p.Id).1 (areaD s p.Id).2 } else p
def fitD (s : StateD) : StateD := { s with Panes := s.Panes.map (fitP s) }
theorem fitP_tot (s : StateD) (p : PaneD) : 3 * (1 + totPane (fitP s p)) ≤ 20233 * (1 + totPane p) := by
 unfold fitP
 split
 ·omega
 ·split
  ·rename_i hk
   have hk2 := hk
   unfold termSizeOk at hk2
   rw [Bool.and_eq_true] at hk2
   obtain ⟨hT, hs⟩ := hk2
   obtain ⟨h1, h2⟩ := termOk_P hT
   have h3 := vpOk_len h1
   obtain ⟨g1, g2⟩ := scrOk_main h2
   have l1 := grid_len g1
   have l2 := grid_len g2
   have b1 := (gridOk_bnd g1).2.2.1
   have b2 := (gridOk_bnd g2).2.2.1
   have h5 := scrSizeRes_tot (s := p.Term.S) (w := (areaD s p.Id).1) (h := (areaD s p.Id).2)
   unfold scrSizeRes scrSizeOk at h5
   rw [h2, hs] at h5
   simp only [Bool.and_self, if_true, totScr] at h5
   unfold termSizeRes
   rw [if_pos hk]
   simp only [totPane, totTerm]
   omega
  ·omega
theorem tots_fit {s : StateD} : ∀ (l : List PaneD), 3 * tots totPane (l.map (fitP s)) ≤ 20233 * tots totPane l
 | [] => Nat.le_refl _
 | p :: l => by
  have h1 := tots_fit (s := s) l
  have h2 := fitP_tot s p
  simp only [tots, List.map_cons, List.length_cons, List.sum_cons] at h1 ⊢
  omega
theorem fitD_tot {s : StateD} (h : totState s ≤ 1048576) : totState (fitD s) ≤ 7071946069 := by
 have h1 := tots_fit (s := s) s.Panes
 unfold fitD
 simp only [totState] at h ⊢
 omega
def mpTo {α : Type} (f : α → α) (i : Nat) (xs : List α) : List α := (xs.take i).map f ++ xs.drop i
theorem mpTo_len {α : Type} {f : α → α} {i : Nat} {xs : List α} : (mpTo f i xs).length = xs.length := by
 unfold mpTo
 rw [List.length_append, List.length_map, List.length_take, List.length_drop]
 omega
theorem mpTo_full {α : Type} {f : α → α} {i : Nat} {xs : List α} (h : xs.length ≤ i) : mpTo f i xs = xs.map f := by
 unfold mpTo
 rw [List.take_of_length_le h, List.drop_of_length_le h, List.append_nil]
theorem mpTo_get {α : Type} {f : α → α} {i : Nat} {xs : List α} (h : i < xs.length) : (mpTo f i xs)[i]? = xs[i]? := by
 unfold mpTo
 have hl : ((xs.take i).map f).length = i := by rw [List.length_map, List.length_take]; omega
 rw [List.getElem?_append_right (by omega), hl, Nat.sub_self, List.getElem?_drop, Nat.add_zero]
theorem mpTo_set {α : Type} {f : α → α} {i : Nat} {xs : List α} {x : α} (h : xs[i]? = some x) : (mpTo f i xs).set i (f x) = mpTo f (i + 1) xs := by
 have hi : i < xs.length := by rcases Nat.lt_or_ge i xs.length with h9 | h9; exact h9; rw [List.getElem?_eq_none h9] at h; cases h
 unfold mpTo
 have hl : ((xs.take i).map f).length = i := by rw [List.length_map, List.length_take]; omega
 rw [List.set_append_right _ _ (by omega), hl, Nat.sub_self, List.take_add_one, h, List.map_append, List.drop_eq_getElem_cons hi, List.set_cons_zero, List.append_assoc]
 rfl
theorem mp_elt {α β : Type} {F : Enc α} {d : α → β} {f : β → β} {xs ys : List α} {i : Nat} (e : xs.map d = mpTo f i (ys.map d)) (h : i < ys.length) : d (gat F xs i) = d (gat F ys i) := by
 have hl := congrArg List.length e
 rw [List.length_map, mpTo_len, List.length_map] at hl
 have e1 : (xs.map d)[i]? = (mpTo f i (ys.map d))[i]? := by rw [e]
 rw [mpTo_get (by rw [List.length_map]; exact h), List.getElem?_map, List.getElem?_map, gat_get (F := F) h, gat_get (F := F) (by omega)] at e1
 exact Option.some.inj e1
theorem mp_set {α β : Type} {F : Enc α} {d : α → β} {f : β → β} {xs ys : List α} {i : Nat} {x : α} (e : xs.map d = mpTo f i (ys.map d)) (h : i < ys.length) (hx : d x = f (d (gat F ys i))) : (xs.set i x).map d = mpTo f (i + 1) (ys.map d) := by
 rw [List.map_set, e, hx]
 exact mpTo_set (by rw [List.getElem?_map, gat_get (F := F) h]; rfl)
theorem mp_same {α β : Type} {F : Enc α} {d : α → β} {f : β → β} {xs ys : List α} {i : Nat} (e : xs.map d = mpTo f i (ys.map d)) (h : i < ys.length) (hx : f (d (gat F ys i)) = d (gat F ys i)) : xs.map d = mpTo f (i + 1) (ys.map d) := by
 have hl := congrArg List.length e
 rw [List.length_map, mpTo_len, List.length_map] at hl
 have h1 := mp_set (F := F) (x := gat F xs i) e h (by rw [hx]; exact mp_elt e h)
 rw [← h1]
 congr 1
 apply List.ext_getElem?
 intro j
 by_cases hj : j = i
 ·subst hj
  rw [List.getElem?_set_self (by omega), gat_get (F := F) (by omega)]
 ·rw [List.getElem?_set_ne (Ne.symm hj)]
theorem mpTo_mem {α : Type} {f : α → α} {i : Nat} {xs : List α} {y : α} (h : y ∈ mpTo f i xs) : ∃ x, x ∈ xs ∧ (y = f x ∨ y = x) := by
 unfold mpTo at h
 rw [List.mem_append] at h
 rcases h with h | h
 ·obtain ⟨x, hx, rfl⟩ := List.mem_map.1 h
  exact ⟨x, List.mem_of_mem_take hx, .inl rfl⟩
 ·exact ⟨y, List.mem_of_mem_drop h, .inr rfl⟩
theorem termSizeRes_sm {t : TermD} {w h : Int} (hk : termSizeOk t w h = true) : smTerm 549755813888 (termSizeRes t w h) := by
 unfold termSizeRes
 rw [if_pos hk]
 unfold termSizeOk at hk
 rw [Bool.and_eq_true] at hk
 obtain ⟨h1, h2⟩ := termOk_P hk.1
 have h3 := vpOk_len h1
 have h5 := scrSizeRes_tot (s := t.S) (w := w) (h := h)
 have h6 : smScr 549755813888 (scrSizeRes t.S w h) := totScr_sm (by omega)
 unfold scrSizeRes scrSizeOk at h6
 rw [h2, hk.2] at h6
 exact ⟨⟨by show t.P.Args.length ≤ _; omega, by show t.P.Part.length ≤ _; omega⟩, h6⟩
theorem fitP_sm {s : StateD} {p : PaneD} (h : smPane 549755813888 p) : smPane 549755813888 (fitP s p) := by
 unfold fitP
 split
 ·exact h
 ·split
  ·rename_i hk
   exact ⟨h.1, h.2.1, termSizeRes_sm hk⟩
  ·exact h
theorem mpFit_sm {i : Nat} {d : StateD} {s : StateR} (h : smState 549755813888 s.dat) : smState 549755813888 ({ s.dat with Panes := mpTo (fitP d) i (s.Panes.xs.map PaneR.dat) } : StateD) := by
 refine ⟨?_, ?_, h.2.2⟩
 ·show (mpTo (fitP d) i (s.Panes.xs.map PaneR.dat)).length ≤ _
  rw [mpTo_len]; exact h.1
 ·intro y hy
  obtain ⟨x, hx, hy⟩ := mpTo_mem hy
  rcases hy with rfl | rfl
  ·exact fitP_sm (h.2.1 x hx)
  ·exact h.2.1 y hx
theorem built_164_0 (x0 : Int) : Tryz.prog.built 164 [(0, .int .i64 x0)] = some (List.toArray [.int .i64 x0, .int .i64 0, .int .i64 0, .bool false, .bool false, .bool false]) := by kernel_rfl
theorem built_76 : Tryz.prog.built 76 [] = some (List.toArray [.int .i64 0, .int .i64 0, .slice none 0 0]) := by kernel_rfl
theorem built_76_0_1 (x0 : Int) (x1 : Int) : Tryz.prog.built 76 [(0, .int .i64 x0), (1, .int .i64 x1)] = some (List.toArray [.int .i64 x0, .int .i64 x1, .slice none 0 0]) := by kernel_rfl
theorem k132_  (w : World) :
    Calls Tryz.prog 115 #[] w fun e w' => e = .returned (.agg #[i64 32, i64 0, i64 0, .bool false, .bool false, .bool false]) ∧ St w [] [] w' := by
 refine enter 2 Tryz.func115 rfl Tryz.ntmps115 rfl rfl ?_
 have hs1 := St.init w
 refine WC.sr (WL.al hs1 Tryz.zeroValue164 rfl rfl (fun b2 _ hs3 => WL.nil (WC.sr ?_)))
 refine WL.val rfl rfl rfl (Run.build rfl rfl rfl rfl (built_164_0 _)) (WL.st tbk hs3 0 rfl rfl (fun _ hs4 => WL.nil (WC.ret (retV1 rfl (resV.cellA tbk hs4 0 rfl rfl rfl rfl) (⟨congrArg Ending.returned ?_, hs4.nil⟩)))))
 rfl
theorem k133_ (w_ : Int) (h_ : Int) (w : World) :
    Calls Tryz.prog 53 #[i64 w_, i64 h_] w fun e w' => ∃ r0 L0, e = .returned (.tuple #[.agg #[i64 r0.W, i64 r0.H, .slice r0.Cells.A r0.Cells.n r0.Cells.c], .bool (isSize w_ h_)]) ∧ St w [] (L0) w' ∧ ownGridR r0 L0 ∧ r0.dat = gridRes w_ h_ := by
 refine enter 46 Tryz.func53 rfl Tryz.ntmps53 rfl rfl ?_
 have hs1 := St.init w
 refine WC.sr (WL.al hs1 Tryz.zeroValue76 rfl rfl (fun b2 _ hs3 => WL.r 1 hs3 [] rfl (WL.nil (WC.seq (fun K4 hK4 => WC.sr (WL.r 3 hs3 [] rfl (WL.pO tbk 2 Acts.nil hs3 [] rfl rfl rfl rfl (fun g_ => trivial) ?_)))))))
 refine WL.r 1 hs3 [] rfl (WL.pO tbk 2 Acts.nil hs3 [] rfl rfl rfl rfl (fun g_ => trivial) (WL.r 1 hs3 [] rfl (WL.pO tbk 2 Acts.nil hs3 [] rfl rfl rfl rfl (fun g_ => trivial) (WL.r 1 hs3 [] rfl ?_))))
 apply WL.gO 4 Acts.nil hs3 rfl
 ·intro g5 J6
  have qg5 := g5
  try simp only [bf, within_iff, within_not] at qg5
  refine WL.runA tbk 4 (Acts.nil.cons (j := 14) rfl g5) hs3 [] rfl ⟨?_, trivial⟩ ?_
  · (have h9 := mul_size (w := w_) (h := h_) (by omega) (by omega); constructor <;> omega)
  exact WL.eO 4 Acts.nil J6 hs3 g5 rfl rfl
 intro _ hs7
 refine WL.nil (WC.cq rfl (fun h8 qh8 => ?_) (fun h8 qh8 => ?_))
 ·have hm : isSize w_ h_ = false := by rw [← Bool.not_eq_true, isSize_iff]; have h8 := h8; simp at h8; omega
  refine WC.sr ?_
  refine WL.val rfl rfl rfl (Run.build rfl rfl rfl rfl (built_76)) (WL.st tbk hs7 0 rfl rfl (fun _ hs9 => WL.r 1 hs9 [] rfl (WL.nil (WC.ret (tkR ?_)))))
  clear hK4
  refine retV2 rfl (resV.cellA tbk hs9 0 rfl rfl rfl rfl) (resV.tmp rfl) ?_
  rw [show isSize w_ h_ = false from hm]
  have hv : gridRes w_ h_ = grid0 := by unfold gridRes; rw [hm]; rfl
  refine ⟨⟨0, 0, ⟨none, 0, 0, []⟩⟩, _, rfl, (St.keep1 (hs9.fr ([] : Hp))), ?_, ?_⟩
  · exact (OwnF.nil _ _)
  · rw [hv]; rfl
 have hm : isSize w_ h_ = true := by rw [isSize_iff]; have h8 := h8; simp at h8; omega
 obtain ⟨hw, hh, hm1, hm2⟩ := isSize_bnd hm
 refine WC.skip (hK4 _ _ (WC.sr (WL.r 2 hs7 [] rfl ?_)))
 refine WL.val rfl rfl rfl (Run.build rfl rfl rfl rfl (built_76_0_1 _ _)) (WL.al hs7 Tryz.zeroValue76 rfl rfl (fun b11 _ hs12 => WL.st tbk hs12 0 rfl rfl (fun _ hs13 => WL.nil (WC.seq (fun K14 hK14 => WC.r1 hs13 [] rfl (WC.block ?_))))))
 have hM20 := (St.grp1 (L1 := ([] : Hp)) [_] (((hs13.fb b2).fr ([] : Hp)).fb b11))
 refine WC.lV [0, 1, 4, 5, 6, 27] rfl hM20 (fun k_ (a_ : Hp) f => ∃ (i : Nat) (zs : List CellD) (A16 : Option Addr) (c17 : Nat) (L18 : Hp), k_ = (w_ * h_).toNat - i ∧ a_ = [(b11, .cells (List.toArray [i64 w_, i64 h_, .slice A16 zs.length c17]) 76 (0, 0))] ++ L18 ∧ (i ≤ (w_ * h_).toNat) ∧ (zs = List.replicate i blankC) ∧ OwnF encCell 164 (.slice A16 (zs).length c17) (zs) L18 ∧ Sub [(7, .int .i64 i)] f) (((fun (i : Nat) (zs : List CellD) => (w_ * h_).toNat - i) (0) ([]))) ?_ ?_
 ·refine ⟨0, [], none, 0, ([] : Hp), rfl, rfl, ?_, ?_, (OwnF.nil _ _), ⟨rfl, trivial⟩⟩
  · omega
  · rfl
 rintro _ _ f w ⟨i, zs, A16, c17, L18, rfl, rfl, p0, p1, ho19, hG⟩ hF hs21
 refine WC.sub _ (hG.app hF) ?_
 clear hG hF
 replace hs21 := St.ungrp1 [_] hs21
 have hs22 := ((hs21.fb b2).fb b11)
 have hzl : zs.length = i := by rw [p1]; simp
 refine WC.seq (fun K23 hK23 => WC.r1 hs22 [] rfl ?_)
 refine WC.cq rfl (fun h24 qh24 => ?_) (fun h24 qh24 => ?_)
 ·refine WC.skip (hK23 _ _ (WC.seq (fun K25 hK25 => WC.block (WC.rH (hs22.d1.rm L18) hs22 (fun _ hs26 => ?_)))))
  refine WH.rn [0] (hs26.d1.rm L18) [] rfl rfl (WH.all [1, 2] (by kernel_rfl) rfl (WHs.cons (i := 1) rfl ?_ (WHs.cons (i := 2) rfl ?_ WHs.nil)))
  ·refine WL.r 1 hs26 [0] rfl (WL.nil ⟨(hs26.d1.rm L18), WH.o1 2 rfl (WL.cl Tryz.call115 rfl (k132_ _) ?_)⟩)
   rintro _ whs27 ⟨rfl, hs27⟩
   replace hs27 := hs26.call0 hs27
   refine ⟨_, rfl, WL.nil ⟨(hs27.d1.rm L18), WH.o1 3 rfl (WL.buildF (F := encCell) hs27 ([blankC]) Tryz.runUnderlying74 Tryz.sizeOf164 Tryz.zeroValue164 rfl rfl rfl rfl rfl rfl rfl rfl rfl rfl rfl rfl (fun A31 c32 L28 whs29 hs29 ho30 => ?_))⟩⟩
   replace hs29 := St.back [_, _] hs29
   refine WL.nil ⟨((hs29.d1.rm L28).rm L18), WH.o1 4 rfl (WL.appendG (hs29.fr L18) ho19 (SlF.src (SlF.ofOwn ho30 (hs29.ow L28)) Tryz.underlying74) Tryz.underlying74 inf164 rfl rfl rfl rfl rfl rfl rfl rfl rfl rfl ?_ (fun A36 c37 L33 whs34 hs34 ho35 => ?_))⟩
   · simp; omega
   replace hs34 := St.back [_, _] hs34
   refine WL.nil ⟨((hs34.d1.rm L33).rm L28), WH.rn [5] ((hs34.d1.rm L33).rm L28) [] rfl rfl (WH.o1 6 rfl (WL.st tbk hs34 0 rfl rfl (fun _ hs38 => WL.nil ⟨((hs38.d1.rm L33).rm L28), WH.dn (hK25 _ _ (WC.region ?_))⟩)))⟩
   refine WL.r 3 hs38 [] rfl (WL.nil (tkN ?_))
   replace hs38 := (hs38.rm L28)
   have hF39 := (St.grp1 (L1 := L33) [_] (((hs38.fb b2).fr L33).fb b11))
   refine ⟨sbF rfl, _, hF39, _, ?_, i + 1, _, A36, c37, L33, rfl, rfl, ?_, ?_, ho35, ⟨rfl, trivial⟩⟩
   · omega
   · omega
   · rw [p1]; exact List.replicate_succ'.symm
  refine WL.cl Tryz.call115 rfl (k132_ _) ?_
  rintro _ whs40 ⟨rfl, hs40⟩
  replace hs40 := hs26.call0 hs40
  refine ⟨_, rfl, WL.nil ⟨(hs40.d1.rm L18), WH.all [1, 3] (by kernel_rfl) rfl (WHs.cons (i := 1) rfl ?_ (WHs.cons (i := 3) rfl ?_ WHs.nil))⟩⟩
  ·refine WL.r 1 hs40 [0] rfl (WL.nil ⟨(hs40.d1.rm L18), WH.o1 3 rfl (WL.buildF (F := encCell) hs40 ([blankC]) Tryz.runUnderlying74 Tryz.sizeOf164 Tryz.zeroValue164 rfl rfl rfl rfl rfl rfl rfl rfl rfl rfl rfl rfl (fun A44 c45 L41 whs42 hs42 ho43 => ?_))⟩)
   replace hs42 := St.back [_, _] hs42
   refine WL.nil ⟨((hs42.d1.rm L41).rm L18), WH.o1 4 rfl (WL.appendG (hs42.fr L18) ho19 (SlF.src (SlF.ofOwn ho43 (hs42.ow L41)) Tryz.underlying74) Tryz.underlying74 inf164 rfl rfl rfl rfl rfl rfl rfl rfl rfl rfl ?_ (fun A49 c50 L46 whs47 hs47 ho48 => ?_))⟩
   · simp; omega
   replace hs47 := St.back [_, _] hs47
   refine WL.nil ⟨((hs47.d1.rm L46).rm L41), WH.rn [5] ((hs47.d1.rm L46).rm L41) [] rfl rfl (WH.o1 6 rfl (WL.st tbk hs47 0 rfl rfl (fun _ hs51 => WL.nil ⟨((hs51.d1.rm L46).rm L41), WH.dn (hK25 _ _ (WC.region ?_))⟩)))⟩
   refine WL.r 3 hs51 [] rfl (WL.nil (tkN ?_))
   replace hs51 := (hs51.rm L41)
   have hF52 := (St.grp1 (L1 := L46) [_] (((hs51.fb b2).fr L46).fb b11))
   refine ⟨sbF rfl, _, hF52, _, ?_, i + 1, _, A49, c50, L46, rfl, rfl, ?_, ?_, ho48, ⟨rfl, trivial⟩⟩
   · omega
   · omega
   · rw [p1]; exact List.replicate_succ'.symm
  refine WL.buildF (F := encCell) hs40 ([blankC]) Tryz.runUnderlying74 Tryz.sizeOf164 Tryz.zeroValue164 rfl rfl rfl rfl rfl rfl rfl rfl rfl rfl rfl rfl (fun A56 c57 L53 whs54 hs54 ho55 => ?_)
  replace hs54 := St.back [_, _] hs54
  refine WL.nil ⟨((hs54.d1.rm L53).rm L18), WH.o1 1 rfl (WL.r 1 hs54 [0] rfl (WL.nil ⟨((hs54.d1.rm L53).rm L18), WH.o1 4 rfl (WL.appendG (hs54.fr L18) ho19 (SlF.src (SlF.ofOwn ho55 (hs54.ow L53)) Tryz.underlying74) Tryz.underlying74 inf164 rfl rfl rfl rfl rfl rfl rfl rfl rfl rfl ?_ (fun A61 c62 L58 whs59 hs59 ho60 => ?_))⟩))⟩
  · simp; omega
  replace hs59 := St.back [_, _] hs59
  refine WL.nil ⟨((hs59.d1.rm L58).rm L53), WH.rn [5] ((hs59.d1.rm L58).rm L53) [] rfl rfl (WH.o1 6 rfl (WL.st tbk hs59 0 rfl rfl (fun _ hs63 => WL.nil ⟨((hs63.d1.rm L58).rm L53), WH.dn (hK25 _ _ (WC.region ?_))⟩)))⟩
  refine WL.r 3 hs63 [] rfl (WL.nil (tkN ?_))
  replace hs63 := (hs63.rm L53)
  have hF64 := (St.grp1 (L1 := L58) [_] (((hs63.fb b2).fr L58).fb b11))
  refine ⟨sbF rfl, _, hF64, _, ?_, i + 1, _, A61, c62, L58, rfl, rfl, ?_, ?_, ho60, ⟨rfl, trivial⟩⟩
  · omega
  · omega
  · rw [p1]; exact List.replicate_succ'.symm
 refine WC.exit (hK14 _ _ (WC.sr (WL.r 1 hs22 [0] rfl (WL.st tbk hs22 1 rfl rfl (fun _ hs65 => WL.r 1 hs65 [] rfl (WL.nil (WC.ret ?_)))))))
 refine retV2 rfl (resV.cellA tbk hs65 1 rfl rfl rfl rfl) (resV.tmp rfl) ?_
 rw [hm]
 have hv : gridRes w_ h_ = gridNew w_ h_ := by unfold gridRes; rw [hm]; rfl
 refine ⟨⟨w_, h_, SlD.of ho19⟩, _, rfl, (St.keep1 (hs65.fr L18)), ?_, ?_⟩
 · exact ho19
 · rw [hv]; show GridD.mk w_ h_ zs = _; rw [p1, show i = (w_ * h_).toNat by omega]; rfl
theorem k134_  (w : World) :
    Calls Tryz.prog 239 #[] w fun e w' => e = .returned (.agg #[i64 32, i64 0, i64 0, .bool false, .bool false, .bool false]) ∧ St w [] [] w' := by
 refine enter 2 Tryz.func239 rfl Tryz.ntmps239 rfl rfl ?_
 have hs1 := St.init w
 refine WC.sr (WL.al hs1 Tryz.zeroValue164 rfl rfl (fun b2 _ hs3 => WL.nil (WC.sr ?_)))
 refine WL.val rfl rfl rfl (Run.build rfl rfl rfl rfl (built_164_0 _)) (WL.st tbk hs3 0 rfl rfl (fun _ hs4 => WL.nil (WC.ret (retV1 rfl (resV.cellA tbk hs4 0 rfl rfl rfl rfl) (⟨congrArg Ending.returned ?_, hs4.nil⟩)))))
 rfl
theorem k135_ (c : Nat) (w : World) (hc : c < 4294967296) :
    Calls Tryz.prog 297 #[.int .u64 ((1 : Nat) : Int), .int .u64 (c : Int)] w fun e w' => e = .returned (.tuple #[.int .u64 ((0 : Nat) : Int), .int .u64 (c : Int)]) ∧ St w [] [] w' := by
 refine enter 51 Tryz.func297 rfl Tryz.ntmps297 rfl rfl ?_
 have hs1 := St.init w
 refine WC.r1 hs1 [] rfl (WC.sr (WL.r 1 hs1 [] rfl (WL.val rfl rfl rfl (Run.maskU (1) rfl rfl rfl ?_) ?_)))
 · omega
 refine WL.r 1 hs1 [] rfl (WL.nil (WC.sr (WL.r 1 hs1 [] rfl (WL.val rfl rfl rfl (Run.shrU (1) (0) rfl rfl rfl ?_ ?_ ?_) ?_))))
 · omega
 · omega
 · show _ / 4294967296 = _; omega
 refine WL.r 1 hs1 [] rfl (WL.nil (WC.sr (WL.r 1 hs1 [] rfl (WL.val rfl rfl rfl (Run.maskU (c) rfl rfl rfl ?_) ?_))))
 · omega
 refine WL.r 1 hs1 [] rfl (WL.nil (WC.sr (WL.r 1 hs1 [] rfl (WL.val rfl rfl rfl (Run.shrU (c) (0) rfl rfl rfl ?_ ?_ ?_) ?_))))
 · omega
 · omega
 · show _ / 4294967296 = _; omega
 refine WL.r 1 hs1 [] rfl (WL.nil (WC.sr (WL.r 2 hs1 [] rfl (WL.val rfl rfl rfl (Run.asN (c) (Run.mulW rfl rfl rfl) ?_) ?_))))
 · exact wrapU _ (by omega) (by omega)
 refine WL.r 1 hs1 [] rfl (WL.nil (WC.sr (WL.r 2 hs1 [] rfl (WL.val rfl rfl rfl (Run.asN (0) (Run.mulW rfl rfl rfl) ?_) ?_))))
 · exact wrapU _ (by omega) (by omega)
 refine WL.r 1 hs1 [] rfl (WL.val rfl rfl rfl (Run.shrU (c) (0) rfl rfl rfl ?_ ?_ ?_) ?_)
 · omega
 · omega
 · show _ / 4294967296 = _; omega
 refine WL.val rfl rfl rfl (Run.asN (0) (Run.addW rfl rfl rfl) ?_) ?_
 · exact wrapU _ (by omega) (by omega)
 refine WL.r 1 hs1 [] rfl (WL.nil (WC.sr (WL.r 1 hs1 [] rfl (WL.val rfl rfl rfl (Run.maskU (0) rfl rfl rfl ?_) ?_))))
 · omega
 refine WL.r 1 hs1 [] rfl (WL.nil (WC.sr (WL.r 1 hs1 [] rfl (WL.val rfl rfl rfl (Run.shrU (0) (0) rfl rfl rfl ?_ ?_ ?_) ?_))))
 · omega
 · omega
 · show _ / 4294967296 = _; omega
 refine WL.r 1 hs1 [] rfl (WL.nil (WC.sr (WL.r 3 hs1 [] rfl (WL.val rfl rfl rfl (Run.asN (0) (Run.mulW rfl rfl rfl) ?_) ?_))))
 · exact wrapU _ (by omega) (by omega)
 refine WL.val rfl rfl rfl (Run.asN (0) (Run.addW rfl rfl rfl) ?_) ?_
 · exact wrapU _ (by omega) (by omega)
 refine WL.r 1 hs1 [] rfl (WL.nil (WC.sr (WL.r 2 hs1 [] rfl (WL.val rfl rfl rfl (Run.asN (0) (Run.mulW rfl rfl rfl) ?_) ?_))))
 · exact wrapU _ (by omega) (by omega)
 refine WL.r 1 hs1 [] rfl (WL.val rfl rfl rfl (Run.asN (0) (Run.addW rfl rfl rfl) ?_) ?_)
 · exact wrapU _ (by omega) (by omega)
 refine WL.r 1 hs1 [] rfl (WL.val rfl rfl rfl (Run.shrU (0) (0) rfl rfl rfl ?_ ?_ ?_) ?_)
 · omega
 · omega
 · show _ / 4294967296 = _; omega
 refine WL.val rfl rfl rfl (Run.asN (0) (Run.addW rfl rfl rfl) ?_) ?_
 · exact wrapU _ (by omega) (by omega)
 refine WL.r 1 hs1 [] rfl (WL.nil (WC.sr (WL.r 2 hs1 [] rfl (WL.val rfl rfl rfl (Run.asN (c) (Run.mulW rfl rfl rfl) ?_) ?_))))
 · exact wrapU _ (by omega) (by omega)
 refine WL.r 1 hs1 [] rfl (WL.nil (WC.ret (retV2 rfl (resV.tmp rfl) (resV.tmp rfl) (⟨congrArg Ending.returned ?_, hs1.nil⟩))))
 rfl
theorem k136_ (c : Nat) (w : World) (hc : c < 4294967296) :
    Calls Tryz.prog 274 #[.int .u64 ((1 : Nat) : Int), .int .u64 (c : Int)] w fun e w' => e = .returned (.tuple #[.int .u64 ((0 : Nat) : Int), .int .u64 (c : Int)]) ∧ St w [] [] w' := by
 refine enter 30 Tryz.func274 rfl Tryz.ntmps274 rfl rfl ?_
 have hs1 := St.init w
 refine WC.r1 hs1 [] rfl (WC.seq (fun K2 hK2 => WC.condF rfl rfl (WC.skip (hK2 _ _ (WC.sr (WL.r 2 hs1 [] rfl ?_))))))
 refine WL.cl Tryz.call297 rfl (k135_ _ _ ?_) ?_
 · first | assumption | rfl | omega
 rintro _ whs4 ⟨rfl, hs4⟩
 replace hs4 := hs1.call0 hs4
 refine ⟨_, rfl, WL.r 5 hs4 [] rfl (WL.nil (WC.r1 hs4 [] rfl (WC.ret (retV2 rfl (resV.tmp rfl) (resV.tmp rfl) (⟨congrArg Ending.returned ?_, hs4.nil⟩)))))⟩
 rfl
theorem k137_ (A_x : Option Addr) (n_x c_x : Nat) (x : List CellD) (q_ : Int) (w : World) (f_x : SlF encCell w A_x n_x x) (hx : n_x = 1) (hc : 1 ≤ q_ ∧ q_ ≤ 4000) :
    Calls Tryz.prog 238 #[.slice A_x n_x c_x, i64 q_] w fun e w' => ∃ A c L1, e = .returned (.slice A (List.replicate q_.toNat (gat encCell x 0)).length c) ∧ St w [] L1 w' ∧ OwnF encCell 164 (.slice A (List.replicate q_.toNat (gat encCell x 0)).length c) (List.replicate q_.toNat (gat encCell x 0)) L1 := by
 have hx1 := hx ▸ f_x.len
 refine enter 48 Tryz.func238 rfl Tryz.ntmps238 rfl rfl ?_
 have hs1 := St.init w
 refine WC.r1 hs1 [] rfl (WC.seq (fun K2 hK2 => WC.r1 hs1 [] rfl (WC.condF rfl (decide_eq_false (by omega)) (WC.skip (hK2 _ _ (WC.sr (WL.r 2 hs1 [] rfl ?_)))))))
 refine WL.val rfl rfl rfl (Run.asN (1) (Run.conv Tryz.runUnderlying3 Tryz.runUnderlying233 rfl rfl) ?_) ?_
 · exact wrapU _ (by omega) (by decide)
 refine WL.r 1 hs1 [] rfl (WL.val rfl rfl rfl (Run.asN (q_.toNat) (Run.conv Tryz.runUnderlying3 Tryz.runUnderlying233 rfl rfl) ?_) ?_)
 · exact wrapU _ (by omega) (by omega)
 refine WL.cl Tryz.call274 rfl (k136_ _ _ ?_) ?_
 · first | assumption | rfl | omega
 rintro _ whs4 ⟨rfl, hs4⟩
 replace hs4 := hs1.call0 hs4
 refine ⟨_, rfl, WL.r 5 hs4 [] rfl (WL.nil (WC.seq (fun K5 hK5 => WC.sr (WL.r 1 hs4 [] rfl (WL.val rfl rfl rfl (Run.gtr rfl rfl rfl) (WL.r 1 hs4 [] rfl ?_))))))⟩
 apply WL.gO 2 Acts.nil hs4 rfl
 ·intro g6 J7
  have qg6 := g6
  try simp only [bf, within_iff, within_not] at qg6
  refine WL.runA tbk 1 (Acts.nil.cons (j := 2) rfl g6) hs4 [] rfl trivial (WL.val (wantF rfl g6) rfl rfl (Run.gtr rfl rfl rfl) (WL.eO 2 Acts.nil J7 hs4 g6 rfl rfl))
 intro _ hs8
 refine WL.nil ?_
 refine WC.condF rfl (by (try simp only [bf]); constructor <;> omega) (WC.skip (hK5 _ _ (WC.sr (WL.r 1 hs8 [] rfl ?_))))
 refine WL.val rfl rfl rfl (Run.asN (q_.toNat) (Run.conv Tryz.runUnderlying233 Tryz.runUnderlying3 rfl rfl) ?_) ?_
 · exact wrap_in (by constructor <;> omega)
 refine WL.makeF (F := encCell) hs8 Tryz.underlying74 inf164 rfl rfl rfl rfl rfl rfl rfl rfl rfl ?_ ?_ (fun A13 c14 L10 whs11 hs11 ho12 => ?_)
 · have e_ : Tryz.t164.bytes = 32 := rfl
   rw [e_]; omega
 · omega
 refine WL.r 1 hs11 [] rfl (WL.nil (WC.sr (WL.r 2 hs11 [] rfl (WL.copyF (lo := 0) hs11 ho12 (SlF.st0 f_x hs11) Tryz.underlying74 Tryz.underlying74 inf164 rfl rfl rfl rfl rfl rfl rfl (.inr ⟨rfl, rfl⟩) ?_ ?_ (fun L15 _ hs16 ho17 => ?_)))))
 · first | omega | (simp; omega)
 · first | omega | (simp; omega)
 refine WL.r 1 hs16 [] rfl (WL.nil (WC.seq (fun K18 hK18 => WC.block ?_)))
 refine WC.lO [4, 10, 26] rfl hs16 (fun k_ f L_ => ∃ (m : Nat), k_ = q_.toNat - m ∧ (1 ≤ m) ∧ (m ≤ q_.toNat) ∧ OwnF encCell 164 (.slice A13 (q_.toNat) c14) (List.replicate m (gat encCell x 0) ++ List.replicate (q_.toNat - m) encCell.dflt) L_ ∧ Sub [(7, .slice A13 (q_.toNat) c14), (8, .int .i64 m)] f) (((fun (m : Nat) => q_.toNat - m) (1))) ?_ ?_
 ·refine ⟨1, rfl, ?_, ?_, (rep_first (n := q_.toNat) (by omega) hx hx1 ▸ ho17), ⟨rfl, ?_, trivial⟩⟩
  · omega
  · omega
  · (refine congrArg some (congrArg (Value.int _) ?_); omega)
 clear hs16
 rintro _ f w L21 ⟨m, rfl, p0, p1, ho22, hG⟩ hF hs23
 refine WC.sub _ (hG.app hF) ?_
 clear hG hF
 have hlm : (List.replicate m (gat encCell x 0) ++ List.replicate (q_.toNat - m) encCell.dflt).length = q_.toNat := by simp; omega
 refine WC.seq (fun K24 hK24 => WC.r1 hs23 [] rfl ?_)
 refine WC.cq rfl (fun h25 qh25 => ?_) (fun h25 qh25 => ?_)
 ·refine WC.skip (hK24 _ _ (WC.block (WC.rH (hs23.rm L21) hs23 (fun _ hs26 => ?_))))
  refine WH.rn [0, 1, 2] (hs26.rm L21) [] rfl rfl ?_
  have hc_ := OwnF.cap ho22
  refine WH.take 3 rfl (by kernel_rfl) rfl rfl rfl (hs26.rm L21) (fun w_ hs_ => (Run.sliceL (m) Tryz.runUnderlying74 Tryz.sizeOf164 rfl rfl rfl ?_ ?_)) ?_
  · first | rfl | (omega)
  · refine ⟨?_, ?_, ?_⟩ <;> (omega)
  refine WH.rn [4, 5] (hs26.rm L21) [] rfl rfl ?_
  have hc_ := OwnF.cap ho22
  refine WH.take 6 rfl (by kernel_rfl) rfl rfl rfl (hs26.rm L21) (fun w_ hs_ => (Run.sliceH (m) Tryz.runUnderlying74 Tryz.sizeOf164 rfl rfl rfl ?_ ?_)) ?_
  · first | rfl | (omega)
  · refine ⟨?_, ?_, ?_⟩ <;> (omega)
  refine WH.o1 7 rfl ?_
  refine WL.copyF (lo := m) hs26 ho22 (SlF.cutH (m) (SlF.ofOwn ho22 (hs26.ow L21)) (by refine ⟨?_, ?_, ?_⟩ <;> (omega))) Tryz.underlying74 Tryz.underlying74 inf164 rfl rfl rfl rfl rfl rfl rfl (.inl rfl) ?_ ?_ (fun L27 _ hs28 ho29 => ?_)
  · first | omega | (simp; omega)
  · first | omega | (simp; omega)
  refine WL.nil ⟨(hs28.rm L27), WH.rn [8, 9] (hs28.rm L27) [] rfl rfl (WH.dn (ibN (tkN (⟨sbF rfl, _, hs28, _, ?_, (m + min m (q_.toNat - m)), rfl, ?_, ?_, (rep_next p0 p1 ▸ ho29), ⟨rfl, ?_, trivial⟩⟩))))⟩
  · omega
  · omega
  · omega
  · (refine congrArg some (congrArg (Value.int _) ?_); omega)
 refine WC.exit (hK18 _ _ (WC.r1 hs23 [] rfl (WC.ret (retV1 rfl (resV.tmp rfl) ?_))))
 have hx_ := OwnF.eqOf (xs := List.replicate q_.toNat (gat encCell x 0)) ho22 (by rw [show m = q_.toNat by omega, Nat.sub_self]; simp)
 rw [← hx_]
 first | exact ⟨_, _, _, rfl, (St.keep1 hs23), ho22⟩ | exact ⟨A13, c14, _, by rw [OwnF.len_ ho22], (St.keep1 hs23), by rw [OwnF.len_ ho22]; exact ho22⟩
theorem k138_ (w_ : Int) (h_ : Int) (w : World) (hs : isSize w_ h_ = true) :
    Calls Tryz.prog 197 #[i64 w_, i64 h_] w fun e w' => ∃ r L1, e = .returned (.agg #[i64 r.W, i64 r.H, .slice r.Cells.A r.Cells.n r.Cells.c]) ∧ St w [] L1 w' ∧ ownGridR r L1 ∧ r.dat = gridNew w_ h_ := by
 obtain ⟨hw, hh, hm1, hm2⟩ := isSize_bnd hs
 refine enter 14 Tryz.func197 rfl Tryz.ntmps197 rfl rfl ?_
 have hs1 := St.init w
 refine WC.sr (WL.al hs1 Tryz.zeroValue76 rfl rfl (fun b2 _ hs3 => WL.nil (WC.sr (WL.r 2 hs3 [] rfl (WL.cl Tryz.call239 rfl (k134_ _) ?_)))))
 rintro _ whs4 ⟨rfl, hs4⟩
 replace hs4 := hs3.call0 hs4
 refine ⟨_, rfl, WL.buildF (F := encCell) hs4 ([blankC]) Tryz.runUnderlying74 Tryz.sizeOf164 Tryz.zeroValue164 rfl rfl rfl rfl rfl rfl rfl rfl rfl rfl rfl rfl (fun A8 c9 L5 whs6 hs6 ho7 => ?_)⟩
 replace hs6 := St.back [_] hs6
 refine WL.r 3 hs6 [] rfl (WL.cl Tryz.call238 rfl (k137_ _ _ _ _ _ _ (SlF.ofOwn ho7 (hs6.ow L5)) ?_ ?_) ?_)
 iterate 2 first | assumption | rfl | omega
 rintro _ whs10 ⟨A11, c12, L1_13, rfl, hs10, ho14⟩
 replace hs10 := hs6.callF hs10
 refine ⟨_, rfl, ?_⟩
 replace hs10 := St.back [_] hs10
 refine WL.val rfl rfl rfl (Run.build rfl rfl rfl rfl (built_76_0_1_2 _ _ _ _ _)) (WL.st tbk hs10 0 rfl rfl (fun _ hs15 => WL.nil (WC.ret (retV1 rfl (resV.cellA tbk hs15 0 rfl rfl rfl rfl) ?_))))
 refine ⟨⟨w_, h_, SlD.of ho14⟩, _, rfl, (St.keep1 (hs15.fr L1_13)), ?_, ?_⟩
 · exact ho14
 · rfl
theorem k139_ (w_ : Int) (w : World) (hw : 1 ≤ w_ ∧ w_ ≤ 120) :
    Calls Tryz.prog 199 #[i64 w_] w fun e w' => ∃ A c L1, e = .returned (.slice A (tabsL w_).length c) ∧ St w [] L1 w' ∧ OwnF encI 3 (.slice A (tabsL w_).length c) (tabsL w_) L1 := by
 refine enter 16 Tryz.func199 rfl Tryz.ntmps199 rfl rfl ?_
 have hs1 := St.init w
 refine WC.r1 hs1 [] rfl (WC.sr (WL.buildF (F := encI) hs1 ([]) Tryz.runUnderlying60 Tryz.sizeOf3 Tryz.zeroValue3 rfl rfl rfl rfl rfl rfl rfl rfl rfl rfl rfl rfl (fun A5 c6 L2 whs3 hs3 ho4 => WL.r 1 hs3 [] rfl (WL.nil (WC.seq (fun K7 hK7 => WC.r1 hs3 [] rfl (WC.block ?_)))))))
 refine WC.lO [0, 2] rfl hs3 (fun k_ f L_ => ∃ (i : Nat) (A8 : Option Addr) (c9 : Nat), k_ = 121 - i ∧ (i = 0 ∨ 8 * (i : Int) < w_) ∧ (i ≤ 120) ∧ OwnF encI 3 (.slice A8 (((List.range i).map (fun i : Nat => 8 * ((i : Int) + 1))).length) c9) (((List.range i).map (fun i : Nat => 8 * ((i : Int) + 1)))) L_ ∧ Sub [(3, .slice A8 (((List.range i).map (fun i : Nat => 8 * ((i : Int) + 1))).length) c9), (4, .int .i64 (8 * ((i : Int) + 1)))] f) (((fun (i : Nat) => 121 - i) (0))) ?_ ?_
 ·refine ⟨0, _, _, rfl, ?_, ?_, ho4, ⟨?_, ?_, trivial⟩⟩
  · exact .inl rfl
  · omega
  · rfl
  · rfl
 clear hs3
 rintro _ f w L10 ⟨i, A8, c9, rfl, p0, p1, ho11, hG⟩ hF hs12
 refine WC.sub _ (hG.app hF) ?_
 clear hG hF
 have hlt : (((List.range i).map (fun i : Nat => 8 * ((i : Int) + 1)))).length = i := by simp
 refine WC.seq (fun K13 hK13 => WC.r1 hs12 [] rfl ?_)
 refine WC.cq rfl (fun h14 qh14 => ?_) (fun h14 qh14 => ?_)
 ·refine WC.skip (hK13 _ _ (WC.seq (fun K15 hK15 => WC.block (WC.region (WL.r 2 hs12 [] rfl (WL.buildSlice hs12 Tryz.runUnderlying60 Tryz.sizeOf3 Tryz.zeroValue3 rfl rfl rfl rfl rfl rfl rfl rfl rfl rfl (fun b16 whs17 hs17 => ?_)))))))
  refine WL.appendG (hs17.fr L10) ho11 (srcI1 Tryz.underlying60 (hs17.own _ (nthL_mem (i := 0) rfl)).1) Tryz.underlying60 inf3 rfl rfl rfl rfl rfl rfl rfl rfl rfl rfl ?_ (fun A21 c22 L18 whs19 hs19 ho20 => ?_)
  · simp; omega
  replace hs19 := St.back [_] hs19
  refine WL.r 1 hs19 [] rfl (WL.nil (hK15 _ _ (WC.region (WL.r 3 hs19 [] rfl (WL.nil (tkN ?_))))))
  replace hs19 := hs19.d1
  refine ⟨sbF rfl, _, hs19, _, ?_, i + 1, _, _, rfl, ?_, ?_, (tabsL_take (w := w_) (by omega) ▸ ho20), ⟨?_, ?_, trivial⟩⟩
  · omega
  · right; omega
  · omega
  · (rw [tabsL_take (w := w_) (i := i) (by omega)]; rfl)
  · (refine congrArg some (congrArg (Value.int _) ?_); omega)
 refine WC.exit (hK7 _ _ (WC.r1 hs12 [] rfl (WC.ret (retV1 rfl (resV.tmp rfl) ?_))))
 have hx_ := OwnF.eqOf (xs := tabsL w_) ho11 (by exact tabsL_end (by omega) p0)
 rw [← hx_]
 first | exact ⟨_, _, _, rfl, (St.keep1 hs12), ho11⟩ | exact ⟨A8, c9, _, by rw [OwnF.len_ ho11], (St.keep1 hs12), by rw [OwnF.len_ ho11]; exact ho11⟩
theorem k140_ (g : GridR) (y : Int) (w : World) (f_g : okGridR 549755813888 w g) (h0 : 0 ≤ y * g.W) (h1 : y * g.W ≤ (y + 1) * g.W) (h2 : (y + 1) * g.W ≤ g.Cells.n) (h3 : -1 ≤ y ∧ y ≤ 1048576) :
    Calls Tryz.prog 236 #[.agg #[i64 g.W, i64 g.H, .slice g.Cells.A g.Cells.n g.Cells.c], i64 y] w fun e w' => e = .returned (.slice (cutA g.Cells.A (y * g.W).toNat 6 g.Cells.c) (((y + 1) * g.W).toNat - (y * g.W).toNat) (g.Cells.c - (y * g.W).toNat)) ∧ St w [] [] w' := by
 have nb_g_Cells := f_g.Cells_n
 have nl_g_Cells := f_g.Cells.len
 have hcap := f_g.Cells_c
 refine enter 17 Tryz.func236 rfl Tryz.ntmps236 rfl rfl ?_
 have hs1 := St.init w
 refine WC.sr (WL.bx hs1 rfl (fun b2 _ hs3 => WL.r 1 hs3 [] rfl (WL.nil (WC.sr (WL.r 11 hs3 [0, 0, 0] rfl ?_)))))
 refine WL.val rfl rfl rfl (Run.sliceLH ((y * g.W).toNat) (((y + 1) * g.W).toNat) Tryz.runUnderlying74 Tryz.sizeOf164 rfl rfl rfl rfl ?_ ?_ ?_) ?_
 · first | rfl | (omega)
 · first | rfl | (omega)
 · refine ⟨?_, ?_, ?_⟩ <;> (omega)
 refine WL.r 1 hs3 [] rfl (WL.nil (WC.ret (rtv rfl rfl hs3 ?_)))
 rfl
theorem k141_ (n : Int) (w : World) :
    Calls Tryz.prog 225 #[i64 n] w fun e w' => e = .returned (.bool (within n (-100000) 100000)) ∧ St w [] [] w' := by
 refine enter 9 Tryz.func225 rfl Tryz.ntmps225 rfl rfl ?_
 have hs1 := St.init w
 refine WC.r1 hs1 [] rfl (WC.sr (WL.r 3 hs1 [] rfl (WL.pA tbk 2 Acts.nil hs1 [] rfl rfl rfl rfl (fun g_ => trivial) (WL.r 1 hs1 [] rfl (WL.nil (WC.ret (retV1 rfl (resV.tmp rfl) ?_)))))))
 refine ⟨congrArg Ending.returned ?_, hs1.nil⟩
 rfl
theorem k142_ (n hi : Int) (w : World) :
    Calls Tryz.prog 190 #[i64 n, i64 hi] w fun e w' => e = .returned (.int .i64 (if n < 0 then 0 else min n hi)) ∧ St w [] [] w' := by
 refine enter 12 Tryz.func190 rfl Tryz.ntmps190 rfl rfl ?_
 have hs1 := St.init w
 refine WC.r1 hs1 [] rfl (WC.seq (fun K2 hK2 => WC.r1 hs1 [] rfl ?_))
 refine WC.cD rfl (fun qh3 => ?_) (fun qh3 => ?_)
 ·refine WC.r1 hs1 [] rfl (WC.ret (tkR ?_))
  clear hK2
  refine rtv rfl rfl hs1 ?_
  congr 1; (repeat' split) <;> omega
 refine WC.skip (hK2 _ _ (WC.seq (fun K4 hK4 => WC.r1 hs1 [] rfl ?_)))
 refine WC.cD rfl (fun qh5 => ?_) (fun qh5 => ?_)
 ·refine WC.r1 hs1 [] rfl (WC.ret (tkR ?_))
  clear hK4
  refine rtv rfl rfl hs1 ?_
  congr 1; (repeat' split) <;> omega
 refine WC.skip (hK4 _ _ (WC.r1 hs1 [] rfl (WC.ret (rtv rfl rfl hs1 ?_))))
 congr 1; (repeat' split) <;> omega
theorem k143_ (g : GridR) (h : GridR) (x : Int) (y : Int) (w : World) (f_g : okGridR 549755813888 w g) (f_h : okGridR 549755813888 w h) (hg : gridOk g.dat = true) (hh : gridOk h.dat = true) (hx : -100000 ≤ x ∧ x ≤ 100000) (hy : -100000 ≤ y ∧ y ≤ 100000) :
    Calls Tryz.prog 198 #[.agg #[i64 g.W, i64 g.H, .slice g.Cells.A g.Cells.n g.Cells.c], .agg #[i64 h.W, i64 h.H, .slice h.Cells.A h.Cells.n h.Cells.c], i64 x, i64 y] w fun e w' => ∃ r L1, e = .returned (.agg #[i64 r.W, i64 r.H, .slice r.Cells.A r.Cells.n r.Cells.c]) ∧ St w [] L1 w' ∧ ownGridR r L1 ∧ r.dat = gPaste g.dat h.dat x y := by
 have nb_g_Cells := f_g.Cells_n
 have nl_g_Cells := f_g.Cells.len
 have nb_h_Cells := f_h.Cells_n
 have nl_h_Cells := f_h.Cells.len
 have hgb : (1 ≤ g.W ∧ g.W ≤ 120) ∧ (1 ≤ g.H ∧ g.H ≤ 120) ∧ 1 ≤ g.W * g.H ∧ g.W * g.H ≤ 4000 := gridOk_bnd hg
 have hhb : (1 ≤ h.W ∧ h.W ≤ 120) ∧ (1 ≤ h.H ∧ h.H ≤ 120) ∧ 1 ≤ h.W * h.H ∧ h.W * h.H ≤ 4000 := gridOk_bnd hh
 have hgl : (g.Cells.xs.length : Int) = g.W * g.H := by have h_ := hg; unfold gridOk at h_; rw [Bool.and_eq_true, Bool.and_eq_true, decide_eq_true_eq] at h_; exact h_.1.2
 have hhl : (h.Cells.xs.length : Int) = h.W * h.H := by have h_ := hh; unfold gridOk at h_; rw [Bool.and_eq_true, Bool.and_eq_true, decide_eq_true_eq] at h_; exact h_.1.2
 have hsmg : smGrid 1048576 g.dat := by show g.Cells.xs.length ≤ 1048576; omega
 refine enter 50 Tryz.func198 rfl Tryz.ntmps198 rfl rfl ?_
 have hs1 := St.init w
 refine WC.sr (WL.bx hs1 rfl (fun b2 _ hs3 => WL.bx hs3 rfl (fun b4 _ hs5 => WL.al hs5 Tryz.zeroValue76 rfl rfl (fun b6 _ hs7 => WL.nil (WC.sr (WL.r 1 hs7 [2] rfl ?_))))))
 refine WL.cl Tryz.call227 rfl (k80_ g _ (okGridR.st0 f_g hs7) ?_) ?_
 · first | assumption | rfl | omega | (rw [q1.1]; omega)
 rintro _ whs8 ⟨r9, L1_10, rfl, hs8, ho11, hd12⟩
 replace hs8 := hs7.callF hs8
 refine ⟨_, rfl, ?_⟩
 replace hs8 := St.back [_, _, _] hs8
 skip
 refine WL.al hs8 Tryz.zeroValue76 rfl rfl (fun b13 _ hs14 => WL.st tbk hs14 0 rfl rfl (fun _ hs15 => WL.nil (WC.seq (fun K16 hK16 => WC.r1 hs15 [2] rfl (WC.block ?_)))))
 have hM21 := (St.grp1 (L1 := L1_10) [_] (((((hs15.fb b2).fb b4).fb b6).fr L1_10).fb b13))
 refine WC.lV [2, 3, 5, 8, 9, 15] rfl hM21 (fun k_ (a_ : Hp) f => ∃ (a : Nat) (r : GridR) (L19 : Hp), k_ = h.H.toNat - a ∧ a_ = [(b13, .cells (List.toArray [i64 r.W, i64 r.H, .slice r.Cells.A r.Cells.n r.Cells.c]) 76 (0, 0))] ++ L19 ∧ ((a : Int) ≤ h.H) ∧ (r.W = g.W ∧ r.H = g.H ∧ r.Cells.xs.length = g.Cells.xs.length) ∧ (∀ k, k < g.Cells.xs.length → cat r.Cells.xs k = pasteTo g.dat h.dat x y (a * h.W.toNat) k) ∧ ownGridR r L19 ∧ Sub [(16, .int .i64 a)] f) (((fun (a : Nat) => h.H.toNat - a) (0))) ?_ ?_
 ·refine ⟨0, r9, L1_10, rfl, rfl, ?_, ?_, ?_, ho11, ⟨rfl, trivial⟩⟩
  · omega
  · exact ⟨congrArg GridD.W hd12, congrArg GridD.H hd12, congrArg (fun d : GridD => d.Cells.length) hd12⟩
  · intro k hk; rw [Nat.zero_mul, pasteTo_zero]; exact congrArg (fun d : GridD => cat d.Cells k) hd12
 rintro _ _ f w ⟨a, r, L19, rfl, rfl, p0, p1, p2, ho20, hG⟩ hF hs22
 refine WC.sub _ (hG.app hF) ?_
 clear hG hF
 replace hs22 := St.ungrp1 [_] hs22
 have hs23 := ((((hs22.fb b2).fb b4).fb b6).fb b13)
 have hsmr : smGrid 549755813888 r.dat := by show r.Cells.xs.length ≤ 549755813888; omega
 refine WC.r1 hs23 [] rfl (WC.seq (fun K24 hK24 => ?_))
 refine WC.cq rfl (fun h25 qh25 => ?_) (fun h25 qh25 => ?_)
 ·refine WC.skip (hK24 _ _ (WC.seq (fun K26 hK26 => WC.block (WC.r1 hs23 [] rfl (WC.r1 hs23 [2] rfl (WC.block ?_))))))
  have hM31 := (St.grp1 (L1 := L19) [_] (((((hs23.fb b2).fb b4).fb b6).fr L19).fb b13))
  refine WC.lV [2, 3, 5, 8, 9, 10, 15, 16, 17, 18, 19, 20] rfl hM31 (fun k_ (a_ : Hp) f => ∃ (c : Nat) (r : GridR) (L29 : Hp), k_ = h.W.toNat - c ∧ a_ = [(b13, .cells (List.toArray [i64 r.W, i64 r.H, .slice r.Cells.A r.Cells.n r.Cells.c]) 76 (0, 0))] ++ L29 ∧ ((c : Int) ≤ h.W) ∧ (r.W = g.W ∧ r.H = g.H ∧ r.Cells.xs.length = g.Cells.xs.length) ∧ (∀ k, k < g.Cells.xs.length → cat r.Cells.xs k = pasteTo g.dat h.dat x y (a * h.W.toNat + c) k) ∧ ownGridR r L29 ∧ Sub [(21, .int .i64 c)] f) (((fun (c : Nat) => h.W.toNat - c) (0))) ?_ ?_
  ·refine ⟨0, r, L19, rfl, rfl, ?_, ?_, ?_, ho20, ⟨rfl, trivial⟩⟩
   · omega
   · exact p1
   · rw [Nat.add_zero]; exact p2
  rintro _ _ f w ⟨c, r, L29, rfl, rfl, q0, q1, q2, ho30, hG⟩ hF hs32
  refine WC.sub _ (hG.app hF) ?_
  clear hG hF
  replace hs32 := St.ungrp1 [_] hs32
  have hs33 := ((((hs32.fb b2).fb b4).fb b6).fb b13)
  have hsmr : smGrid 549755813888 r.dat := by show r.Cells.xs.length ≤ 549755813888; omega
  refine WC.r1 hs33 [] rfl (WC.seq (fun K34 hK34 => ?_))
  refine WC.cq rfl (fun h35 qh35 => ?_) (fun h35 qh35 => ?_)
  ·have hcw : (c : Int) < h.W := by omega
   have haw : (a : Int) < h.H := by omega
   have hk0 : ∀ k, k < g.Cells.xs.length → k < g.W.toNat * g.H.toNat := fun k hk => by have e9 : ((g.W.toNat * g.H.toNat : Nat) : Int) = g.W * g.H := by { rw [Int.natCast_mul, Int.toNat_of_nonneg (by omega), Int.toNat_of_nonneg (by omega)] }; omega
   refine WC.skip (hK34 _ _ (WC.seq (fun K36 hK36 => WC.block (WC.r1 hs33 [] rfl (WC.sr (WL.r 7 hs33 [0] rfl ?_))))))
   refine WL.cl Tryz.call232 rfl (k56_ r _ _ _ (ownGridR.ok (B := 549755813888) ho30 (hs33.ow L29) hsmr) ?_ ?_) ?_
   iterate 2 first | assumption | rfl | omega | (rw [q1.1]; omega)
   rintro _ whs37 ⟨rfl, hs37⟩
   replace hs37 := hs33.call0 hs37
   refine ⟨_, rfl, WL.nil (WC.cq rfl (fun h38 qh38 => ?_) (fun h38 qh38 => ?_))⟩
   ·have hin : (0 ≤ x + (c : Int) ∧ x + (c : Int) < g.W) ∧ 0 ≤ y + (a : Int) ∧ y + (a : Int) < g.H := by have h9 := h38; unfold gridHas at h9; rw [Bool.and_eq_true, within_iff, within_iff] at h9; obtain ⟨h91, h92⟩ := h9; have e1 : r.dat.W = g.W := q1.1; have e2 : r.dat.H = g.H := q1.2.1; rw [e1] at h91; rw [e2] at h92; omega
    have hrw : r.W = g.W := q1.1
    have hy1 : (y + (a : Int) + 1) * g.W = (y + (a : Int)) * g.W + g.W := by rw [Int.add_mul, Int.one_mul]
    have hy0 : 0 ≤ (y + (a : Int)) * g.W := Int.mul_nonneg hin.2.1 (by omega)
    have hy2 : (y + (a : Int) + 1) * g.W ≤ g.H * g.W := Int.mul_le_mul_of_nonneg_right (by omega) (by omega)
    rw [Int.mul_comm g.H g.W] at hy2
    have ha1 : ((a : Int) + 1) * h.W = (a : Int) * h.W + h.W := by rw [Int.add_mul, Int.one_mul]
    have ha0 : 0 ≤ (a : Int) * h.W := Int.mul_nonneg (by omega) (by omega)
    have ha2 : ((a : Int) + 1) * h.W ≤ h.H * h.W := Int.mul_le_mul_of_nonneg_right (by omega) (by omega)
    rw [Int.mul_comm h.H h.W] at ha2
    have hlr := f_g.Cells.len
    have hlh := f_h.Cells.len
    have hch := f_h.Cells_c
    have hnr := ownGridR.len ‹ownGridR r _›
    have hcr := OwnF.cap ‹ownGridR r _›
    have hz1 : (y + (a : Int) + 1) * r.W = (y + (a : Int) + 1) * g.W := by rw [hrw]
    have hix : ((y + (a : Int)) * r.W).toNat + (x + (c : Int)).toNat = (y + (a : Int)).toNat * g.dat.W.toNat + (x + (c : Int)).toNat := by rw [hrw, Int.toNat_mul hin.2.1 (by omega)]; rfl
    have hz0 : (y + (a : Int)) * r.W = (y + (a : Int)) * g.W := by rw [hrw]
    refine WC.rG 15 (hs37.rm L29) hs37 hs37 (fun _ hs39 => ?_)
    refine WG.rn [0, 1, 2, 3, 5, 6, 7, 8, 9, 11] hs39 [0, 2] rfl rfl (WG.o1 4 rfl rfl (WL.cl Tryz.call236 rfl (k140_ r _ _ (ownGridR.ok (B := 549755813888) ho30 (hs39.ow L29) hsmr) ?_ ?_ ?_ ?_) ?_))
    iterate 4 first | assumption | rfl | omega | (rw [q1.1]; omega)
    rintro _ whs40 ⟨rfl, hs40⟩
    replace hs40 := hs39.call0 hs40
    refine ⟨_, rfl, WL.nil ⟨hs40, WG.o1 10 rfl rfl (WL.cl Tryz.call236 rfl (k140_ h _ _ (okGridR.st0 f_h hs40) ?_ ?_ ?_ ?_) ?_)⟩⟩
    iterate 4 first | assumption | rfl | omega | (rw [q1.1]; omega)
    rintro _ whs41 ⟨rfl, hs41⟩
    replace hs41 := hs40.call0 hs41
    refine ⟨_, rfl, WL.nil ⟨hs41, ?_⟩⟩
    refine WG.tk 12 rfl (by kernel_rfl) rfl rfl rfl hs41 (fun w_ hs_ => (Run.idxN Tryz.runUnderlying74 Tryz.sizeOf164 rfl rfl rfl ?_ ?_ ?_)) ?_
    · exact SlF.some_ (SlF.cutC (lo := ((a : Int) * h.W).toNat) (hi := (((a : Int) + 1) * h.W).toNat) (SlF.st0 f_h.Cells (hs_ : St _ _ _ _)) (by refine ⟨?_, ?_, ?_⟩ <;> (omega)))
    · first | omega | (simp; omega)
    · first | omega | (simp; omega)
    refine WG.tk 13 rfl (by kernel_rfl) rfl rfl rfl hs41 (fun w_ hs_ => (Run.loadA Tryz.isAgg164 Tryz.sizeOf164 rfl rfl (SlF.whole (SlF.cutC (lo := ((a : Int) * h.W).toNat) (hi := (((a : Int) + 1) * h.W).toNat) (SlF.st0 f_h.Cells (hs_ : St _ _ _ _)) (by refine ⟨?_, ?_, ?_⟩ <;> (omega))) ?_))) ?_
    · first | omega | (simp; omega)
    refine WG.tk 14 rfl (by kernel_rfl) rfl rfl rfl hs41 (fun w_ hs_ => (Run.idx Tryz.runUnderlying74 Tryz.sizeOf164 rfl rfl rfl ?_ ?_ ?_)) ?_
    · exact SlF.some_ (SlF.cutC (lo := ((y + (a : Int)) * r.W).toNat) (hi := (((y + (a : Int)) + 1) * r.W).toNat) (ownGridR.ok (B := 549755813888) ho30 ((hs_ : St _ _ _ _).ow L29) hsmr).Cells (by refine ⟨?_, ?_, ?_⟩ <;> (omega)))
    · first | omega | (simp; omega)
    · first | omega | (simp; omega)
    refine WG.oK rfl (WL.storeC (x' := _) (lo := ((y + (a : Int)) * r.W).toNat) (hs41.fr L29) ho30 Tryz.sizeOf164 rfl rfl rfl rfl rfl rfl rfl rfl rfl ?_ rfl (fun L42 whs43 hs43 ho44 _ => ?_))
    · first | omega | (simp; omega)
    replace hs43 := St.back [_, _, _, _] hs43
    refine WL.nil ⟨(hs43.rm L42), WH.dn (hK36 _ _ (WC.region (WL.r 2 hs43 [] rfl (WL.nil (tkN ?_)))))⟩
    have hF45 := (St.grp1 (L1 := L42) [_] (((((hs43.fb b2).fb b4).fb b6).fr L42).fb b13))
    refine ⟨sbF rfl, _, hF45, _, ?_, c + 1, ⟨r.W, r.H, SlD.of ho44⟩, L42, rfl, rfl, ?_, ?_, ?_, ho44, ⟨rfl, trivial⟩⟩
    · omega
    · omega
    · first | exact q1 | exact ⟨q1.1, q1.2.1, by simp only [List.length_set]; exact q1.2.2⟩
    · intro k hk; first | (show cat _ k = pasteTo g.dat h.dat x y (a * h.dat.W.toNat + c + 1) k; have _ := hin; rw [pasteTo_in (g := g.dat) (h := h.dat) hcw haw hin.1 hin.2.1]; show gat encCell (r.Cells.xs.set _ _) k = _; rw [gat_set2 (by omega), hix, gat_cut (by omega), toNat_mul_nat (by omega)]; split; rfl; exact q2 k hk) | (show cat _ k = pasteTo g.dat h.dat x y (a * h.dat.W.toNat + c + 1) k; rw [pasteTo_out (g := g.dat) (h := h.dat) hcw (by show 0 < g.W.toNat; omega) (by show k < g.W.toNat * g.H.toNat; exact hk0 k hk) hout]; exact q2 k hk)
   have hout : ¬ ((0 ≤ x + (c : Int) ∧ x + (c : Int) < g.dat.W) ∧ 0 ≤ y + (a : Int) ∧ y + (a : Int) < g.dat.H) := by show ¬ ((0 ≤ x + (c : Int) ∧ x + (c : Int) < g.W) ∧ 0 ≤ y + (a : Int) ∧ y + (a : Int) < g.H); intro h8; have h9 := h38; rw [← Bool.not_eq_true] at h9; apply h9; unfold gridHas; rw [Bool.and_eq_true, within_iff, within_iff]; have e1 : r.dat.W = g.W := q1.1; have e2 : r.dat.H = g.H := q1.2.1; rw [e1, e2]; omega
   refine WC.skip (hK36 _ _ (WC.region (WL.r 2 hs37 [] rfl (WL.nil (tkN ?_)))))
   have hF46 := (St.grp1 (L1 := L29) [_] (((((hs37.fb b2).fb b4).fb b6).fr L29).fb b13))
   refine ⟨sbF rfl, _, hF46, _, ?_, c + 1, r, L29, rfl, rfl, ?_, ?_, ?_, ho30, ⟨rfl, trivial⟩⟩
   · omega
   · omega
   · first | exact q1 | exact ⟨q1.1, q1.2.1, by simp only [List.length_set]; exact q1.2.2⟩
   · intro k hk; first | (show cat _ k = pasteTo g.dat h.dat x y (a * h.dat.W.toNat + c + 1) k; have _ := hin; rw [pasteTo_in (g := g.dat) (h := h.dat) hcw haw hin.1 hin.2.1]; show gat encCell (r.Cells.xs.set _ _) k = _; rw [gat_set2 (by omega), hix, gat_cut (by omega), toNat_mul_nat (by omega)]; split; rfl; exact q2 k hk) | (show cat _ k = pasteTo g.dat h.dat x y (a * h.dat.W.toNat + c + 1) k; rw [pasteTo_out (g := g.dat) (h := h.dat) hcw (by show 0 < g.W.toNat; omega) (by show k < g.W.toNat * g.H.toNat; exact hk0 k hk) hout]; exact q2 k hk)
  refine WC.exit (hK26 _ _ (WC.region (WL.r 2 hs33 [] rfl (WL.nil (tkN ?_)))))
  have hF47 := (St.grp1 (L1 := L29) [_] (((((hs33.fb b2).fb b4).fb b6).fr L29).fb b13))
  refine ⟨sbF rfl, _, hF47, _, ?_, a + 1, r, L29, rfl, rfl, ?_, ?_, ?_, ho30, ⟨rfl, trivial⟩⟩
  · omega
  · omega
  · exact q1
  · intro k hk; rw [q2 k hk, show c = h.W.toNat by omega, Nat.add_mul, Nat.one_mul]
 refine WC.exit (hK16 _ _ (WC.sr (WL.r 1 hs23 [0] rfl (WL.st tbk hs23 1 rfl rfl (fun _ hs48 => WL.nil (WC.ret (retV1 rfl (resV.cellA tbk hs48 1 rfl rfl rfl rfl) ?_)))))))
 refine ⟨r, _, rfl, (St.keep1 (hs48.fr L19)), ?_, ?_⟩
 · exact ho20
 · show GridD.mk r.W r.H r.Cells.xs = _; rw [p1.1, p1.2.1]; unfold gPaste gmap; congr 1; refine ext_gat (F := encCell) (by rw [p1.2.2]; rfl) (fun k hk => ?_); rw [← pasteTo_all (i := a * h.W.toNat) (by show h.H.toNat * h.W.toNat ≤ _; rw [show a = h.H.toNat by omega]; exact Nat.le_refl _)]; exact p2 k hk
theorem k144_ (w_ : Int) (w : World) (hw : 1 ≤ w_ ∧ w_ ≤ 120) :
    Calls Tryz.prog 191 #[i64 w_] w fun e w' => ∃ A c L1, e = .returned (.slice A (tabsL w_).length c) ∧ St w [] L1 w' ∧ OwnF encI 3 (.slice A (tabsL w_).length c) (tabsL w_) L1 := by
 refine enter 16 Tryz.func191 rfl Tryz.ntmps191 rfl rfl ?_
 have hs1 := St.init w
 refine WC.r1 hs1 [] rfl (WC.sr (WL.buildF (F := encI) hs1 ([]) Tryz.runUnderlying60 Tryz.sizeOf3 Tryz.zeroValue3 rfl rfl rfl rfl rfl rfl rfl rfl rfl rfl rfl rfl (fun A5 c6 L2 whs3 hs3 ho4 => WL.r 1 hs3 [] rfl (WL.nil (WC.seq (fun K7 hK7 => WC.r1 hs3 [] rfl (WC.block ?_)))))))
 refine WC.lO [0, 2] rfl hs3 (fun k_ f L_ => ∃ (i : Nat) (A8 : Option Addr) (c9 : Nat), k_ = 121 - i ∧ (i = 0 ∨ 8 * (i : Int) < w_) ∧ (i ≤ 120) ∧ OwnF encI 3 (.slice A8 (((List.range i).map (fun i : Nat => 8 * ((i : Int) + 1))).length) c9) (((List.range i).map (fun i : Nat => 8 * ((i : Int) + 1)))) L_ ∧ Sub [(3, .slice A8 (((List.range i).map (fun i : Nat => 8 * ((i : Int) + 1))).length) c9), (4, .int .i64 (8 * ((i : Int) + 1)))] f) (((fun (i : Nat) => 121 - i) (0))) ?_ ?_
 ·refine ⟨0, _, _, rfl, ?_, ?_, ho4, ⟨?_, ?_, trivial⟩⟩
  · exact .inl rfl
  · omega
  · rfl
  · rfl
 clear hs3
 rintro _ f w L10 ⟨i, A8, c9, rfl, p0, p1, ho11, hG⟩ hF hs12
 refine WC.sub _ (hG.app hF) ?_
 clear hG hF
 have hlt : (((List.range i).map (fun i : Nat => 8 * ((i : Int) + 1)))).length = i := by simp
 refine WC.seq (fun K13 hK13 => WC.r1 hs12 [] rfl ?_)
 refine WC.cq rfl (fun h14 qh14 => ?_) (fun h14 qh14 => ?_)
 ·refine WC.skip (hK13 _ _ (WC.seq (fun K15 hK15 => WC.block (WC.region (WL.r 2 hs12 [] rfl (WL.buildSlice hs12 Tryz.runUnderlying60 Tryz.sizeOf3 Tryz.zeroValue3 rfl rfl rfl rfl rfl rfl rfl rfl rfl rfl (fun b16 whs17 hs17 => ?_)))))))
  refine WL.appendG (hs17.fr L10) ho11 (srcI1 Tryz.underlying60 (hs17.own _ (nthL_mem (i := 0) rfl)).1) Tryz.underlying60 inf3 rfl rfl rfl rfl rfl rfl rfl rfl rfl rfl ?_ (fun A21 c22 L18 whs19 hs19 ho20 => ?_)
  · simp; omega
  replace hs19 := St.back [_] hs19
  refine WL.r 1 hs19 [] rfl (WL.nil (hK15 _ _ (WC.region (WL.r 3 hs19 [] rfl (WL.nil (tkN ?_))))))
  replace hs19 := hs19.d1
  refine ⟨sbF rfl, _, hs19, _, ?_, i + 1, _, _, rfl, ?_, ?_, (tabsL_take (w := w_) (by omega) ▸ ho20), ⟨?_, ?_, trivial⟩⟩
  · omega
  · right; omega
  · omega
  · (rw [tabsL_take (w := w_) (i := i) (by omega)]; rfl)
  · (refine congrArg some (congrArg (Value.int _) ?_); omega)
 refine WC.exit (hK7 _ _ (WC.r1 hs12 [] rfl (WC.ret (retV1 rfl (resV.tmp rfl) ?_))))
 have hx_ := OwnF.eqOf (xs := tabsL w_) ho11 (by exact tabsL_end (by omega) p0)
 rw [← hx_]
 first | exact ⟨_, _, _, rfl, (St.keep1 hs12), ho11⟩ | exact ⟨A8, c9, _, by rw [OwnF.len_ ho11], (St.keep1 hs12), by rw [OwnF.len_ ho11]; exact ho11⟩
theorem k145_ (v_s : Value) (s : List RowR) (L_s : Hp) (i : Int) (j : Int) (w : World) (o_s : OwnN encRowR ownRowR 181 v_s s L_s) (h_s : Hh w L_s) (hd_ : ((L_s).map (·.1)).Nodup) (hi : i = 0) (hj : 0 < j ∧ j ≤ s.length) (hn : s.length ≤ 549755813888) :
    Calls Tryz.prog 237 #[v_s, i64 i, i64 j] w fun e w' => ∃ A c n xs L1, e = .returned (.slice A n c) ∧ St w (L_s.map (·.1)) L1 w' ∧ OwnN encRowR ownRowR 181 (.slice A n c) xs L1 ∧ xs = s.drop j.toNat := by
 obtain ⟨A_s, c_s, rfl⟩ := o_s.shape
 refine enter 33 Tryz.func237 rfl Tryz.ntmps237 rfl rfl ?_
 have hs1 := St.takes1 w L_s h_s hd_
 refine WC.r1 hs1 [] rfl (WC.sr (WL.r 5 hs1 [] rfl ?_))
 have hc_ := OwnN.cap o_s
 refine WL.val rfl rfl rfl (Run.slice3 0 j.toNat s.length Tryz.runUnderlying87 Tryz.sizeOf181 rfl rfl rfl rfl rfl ?_ ?_ ?_ ?_) ?_
 · omega
 · omega
 · rfl
 · omega
 refine WL.nil (WC.seq (fun K2 hK2 => WC.r1 hs1 [] rfl ?_))
 refine WC.cq rfl (fun h3 qh3 => ?_) (fun h3 qh3 => ?_)
 ·exfalso; omega
 refine WC.skip (hK2 _ _ (WC.sr ?_))
 obtain ⟨L4, L5, hs8, ho6, ho7⟩ := OwnN.open_ hs1 o_s
 refine WL.r 3 hs8 [] rfl (WL.nil (WC.seq (fun K9 hK9 => WC.rH (hs8.rm L4) hs8 (fun _ hs10 => ?_))))
 refine WH.rn [0, 1] (hs10.rm L4) [] rfl rfl ?_
 refine WH.take 2 rfl (by kernel_rfl) rfl rfl rfl (hs10.rm L4) (fun w_ hs_ => (Run.sliceH0 0 Tryz.runUnderlying87 Tryz.sizeOf181 rfl rfl rfl ?_ ?_)) ?_
 · exact hi
 · exact Nat.zero_le _
 refine WH.rn [3, 4] (hs10.rm L4) [] rfl rfl ?_
 have hc_ := OwnF.cap ho6
 refine WH.take 5 rfl (by kernel_rfl) rfl rfl rfl (hs10.rm L4) (fun w_ hs_ => (Run.sliceL (j.toNat) Tryz.runUnderlying87 Tryz.sizeOf181 rfl rfl rfl ?_ ?_)) ?_
 · first | rfl | (omega)
 · refine ⟨?_, ?_, ?_⟩ <;> (omega)
 refine WH.o1 6 rfl ?_
 refine WL.appendR hs10 (OwnF.take (k := 0) ho6 (Nat.zero_le _)) (SlF.src (SlF.cutL (j.toNat) (SlF.ofOwn ho6 (hs10.ow L4)) (by refine ⟨?_, ?_, ?_⟩ <;> (omega))) Tryz.underlying87) Tryz.underlying87 inf181 rfl rfl rfl rfl rfl rfl rfl ?_ ?_ (fun L11 whs12 hs12 ho13 => ?_)
 · rw [List.length_drop]; omega
 · omega
 have hdl : 0 + (s.drop j.toNat).length = s.length - j.toNat := by rw [List.length_drop]; omega
 rw [hdl, List.take_zero, List.nil_append] at ho13
 rw [hdl]
 refine WL.nil ⟨(hs12.rm L11), WH.rn [7] (hs12.rm L11) [] rfl rfl (WH.dn (hK9 _ _ (WC.sr (WL.r 4 hs12 [] rfl ?_))))⟩
 refine WL.val rfl rfl rfl (Run.sliceT (s.length - j.toNat) s.length Tryz.runUnderlying87 Tryz.sizeOf181 rfl rfl rfl rfl ?_ ?_ ?_) ?_
 · omega
 · omega
 · omega
 refine WL.clearT hs12 ho13 Tryz.underlying87 Tryz.zeroValue181 rfl rfl rfl rfl rfl ?_ (fun L14 whs15 hs15 ho16 => ?_)
 · omega
 refine WL.nil (WC.r1 hs15 [] rfl (WC.ret (retV1 rfl (resV.tmp rfl) ?_)))
 obtain ⟨L17, hs18, ho19⟩ := OwnN.foldD ((hs15.fr L5).fr L14) ho16 ho7
 exact ⟨_, _, _, _, _, rfl, St.keep1 hs18, ho19, rfl⟩
theorem k146_ (u_0 u_1 u_2 u_3 : Value) (b_s : Nat) (s : ScrR) (L_s : Hp) (n : Nat) (w : World) (hb_s : w.heap[b_s]? = some (Obj.cells (List.toArray (u_0 :: u_1 :: u_2 :: u_3 :: (cScr s))) 91 (0, 0))) (o_s : ownScrR s L_s) (h_s : Hh w L_s) (hd_ : (b_s :: L_s.map (·.1)).Nodup) (hm : gridOk s.Main.dat = true) (hlim : 0 ≤ s.Limit ∧ s.Limit ≤ 1048576) (hb : (s.Back.xs.length : Int) ≤ s.Limit) (hn : (n : Int) ≤ s.Main.H) (hsm : smScr 1048576 s.dat) :
    Calls Tryz.prog 196 #[.pointer (some ⟨b_s, 4, none⟩), .int .i64 n] w fun e w' => ∃ r L1, e = .returned (.tuple #[]) ∧ St w (b_s :: L_s.map (·.1)) ([(b_s, Obj.cells (List.toArray (u_0 :: u_1 :: u_2 :: u_3 :: (cScr r))) 91 (0, 0))] ++ L1) w' ∧ ownScrR r L1 ∧ r.dat = keepRows s.dat n := by
 have hsmB : smScr 549755813888 s.dat := smScr_mono hsm (by decide)
 have hgb : (1 ≤ s.Main.W ∧ s.Main.W ≤ 120) ∧ (1 ≤ s.Main.H ∧ s.Main.H ≤ 120) ∧ 1 ≤ s.Main.W * s.Main.H ∧ s.Main.W * s.Main.H ≤ 4000 := gridOk_bnd hm
 have hgl : (s.Main.Cells.xs.length : Int) = s.Main.W * s.Main.H := by have h_ := hm; unfold gridOk at h_; rw [Bool.and_eq_true, Bool.and_eq_true, decide_eq_true_eq] at h_; exact h_.1.2
 refine enter 49 Tryz.func196 rfl Tryz.ntmps196 rfl rfl ?_
 have hs1 := St.takeP w b_s _ L_s hb_s h_s hd_
 refine WC.seq (fun K2 hK2 => WC.r1 hs1 [] rfl (WC.block ?_))
 have hM7 := (St.grp1 (L1 := L_s) [_] ((hs1.fr L_s).fb b_s))
 refine WC.lV [0, 6] rfl hM7 (fun k_ (a_ : Hp) f => ∃ (i : Nat) (r : ScrR) (L5 : Hp), k_ = n - i ∧ a_ = [(b_s, .cells (List.toArray (u_0 :: u_1 :: u_2 :: u_3 :: (cScr r))) 91 (0, 0))] ++ L5 ∧ (i ≤ n) ∧ (r.dat = keepTo s.dat i) ∧ ownScrR r L5 ∧ Sub [(7, .int .i64 i)] f) (((fun (i : Nat) => n - i) (0))) ?_ ?_
 ·refine ⟨0, s, L_s, rfl, rfl, ?_, ?_, o_s, ⟨rfl, trivial⟩⟩
  · omega
  · exact keepTo_zero.symm
 rintro _ _ f w ⟨i, r, L5, rfl, rfl, p0, p1, ho6, hG⟩ hF hs8
 refine WC.sub _ (hG.app hF) ?_
 clear hG hF
 replace hs8 := St.ungrp1 [_] hs8
 have hsmr : smScr 549755813888 r.dat := by rw [p1]; exact keepTo_sm (smScr_mono hsm (by decide)) hm (by simp only [ScrR.dat, List.length_map]; omega) (by decide)
 have hrb : r.Back.xs.length = s.Back.xs.length + i := by have h9 := congrArg (fun d : ScrD => d.Back.length) p1; simpa [ScrR.dat, keepTo] using h9
 have hrm : r.Main.dat = s.Main.dat := congrArg ScrD.Main p1
 have hrW : r.Main.W = s.Main.W := congrArg GridD.W hrm
 have hrC : r.Main.Cells.xs = s.Main.Cells.xs := congrArg GridD.Cells hrm
 have hrL : r.Limit = s.Limit := congrArg ScrD.Limit p1
 obtain ⟨⟨hrn1, hrn2⟩, _, _, hrn3, hrn4⟩ := ownScrR.lens ‹ownScrR r _›
 refine WC.r1 hs8 [] rfl (WC.seq (fun K9 hK9 => ?_))
 refine WC.cD rfl (fun qh10 => ?_) (fun qh10 => ?_)
 ·have hv0 : 0 ≤ (i : Int) * r.Main.W := Int.mul_nonneg (by omega) (by omega)
  have hv1 : ((i : Int) + 1) * r.Main.W = (i : Int) * r.Main.W + r.Main.W := by rw [Int.add_mul, Int.one_mul]
  have hv2 : ((i : Int) + 1) * r.Main.W ≤ s.Main.H * s.Main.W := by rw [hrW]; exact Int.mul_le_mul_of_nonneg_right (by omega) (by omega)
  rw [Int.mul_comm s.Main.H] at hv2
  have hrl : r.Main.Cells.xs.length = s.Main.Cells.xs.length := congrArg List.length hrC
  have hrow : (RowD.mk ((r.Main.Cells.xs.drop ((i : Int) * r.Main.W).toNat).take ((((i : Int) + 1) * r.Main.W).toNat - ((i : Int) * r.Main.W).toNat))) = rowAt s.dat.Main i := by
    have e1 : ((i : Int) * r.Main.W).toNat = i * s.Main.W.toNat := by rw [hrW]; exact toNat_mul_nat (by omega)
    have e2 : (((i : Int) + 1) * r.Main.W).toNat - i * s.Main.W.toNat = s.Main.W.toNat := by rw [← e1]; omega
    rw [e1, e2, hrC]; rfl
  refine WC.skip (hK9 _ _ (WC.seq (fun K11 hK11 => WC.block (WC.r1 hs8 [] rfl (WC.rG 17 (hs8.d1.rm L5) (hs8.rm L5) hs8 (fun _ hs12 => ?_))))))
  refine WG.rn [0, 1, 2, 3, 4, 5, 6, 7, 8, 9] (hs12.rm L5) [0, 0] rfl rfl (WG.o1 10 rfl rfl (WL.cl Tryz.call236 rfl (k140_ r.Main _ _ (ownScrR.ok (B := 549755813888) ho6 (hs12.ow L5) hsmr).Main ?_ ?_ ?_ ?_) ?_))
  iterate 4 first | assumption | rfl | omega
  rintro _ whs13 ⟨rfl, hs13⟩
  replace hs13 := hs12.call0 hs13
  refine ⟨_, rfl, WL.nil ⟨(hs13.rm L5), WG.o1 11 rfl rfl ?_⟩⟩
  refine WL.cl Tryz.call228 rfl (k79_ _ _ _ _ _ (SlF.cutC (lo := ((i : Int) * r.Main.W).toNat) (hi := (((i : Int) + 1) * r.Main.W).toNat) (ownScrR.ok (B := 549755813888) ho6 (hs13.ow L5) hsmr).Main.Cells (by refine ⟨?_, ?_, ?_⟩ <;> (omega))) ?_) ?_
  · first | assumption | rfl | omega
  rintro _ whs14 ⟨A15, c16, L1_17, rfl, hs14, ho18⟩
  replace hs14 := hs13.callF hs14
  refine ⟨_, rfl, ?_⟩
  replace hs14 := St.back [_] hs14
  refine WL.nil ⟨((hs14.rm L1_17).rm L5), ?_⟩
  refine WG.tk 12 rfl (by kernel_rfl) rfl rfl rfl ((hs14.rm L1_17).rm L5) (fun w_ hs_ => (Run.build rfl rfl rfl rfl (built_181_0 _ _ _))) ?_
  refine WG.o1 13 rfl rfl (WL.buildSlice hs14 Tryz.runUnderlying87 Tryz.sizeOf181 Tryz.zeroValue181 rfl rfl rfl rfl rfl rfl rfl rfl rfl rfl (fun b19 whs20 hs20 => WL.nil ⟨((hs20.d1.rm L1_17).rm L5), WG.o1 14 rfl rfl ?_⟩))
  obtain ⟨L21, L22, L23, L24, hs29, ho25, ho26, ho27, ho28⟩ := ownScrR.op hs20 ho6
  have hs30 := ((hs29.fb b_s).fb b19)
  obtain ⟨L31, L32, hs35, ho33, ho34⟩ := OwnN.open_ (hs30.fr L24) ho28
  have hs36 := ((hs35.fb b_s).fb b19)
  refine WL.appendG (hs36.fr L31) ho33 (srcF (F := encRowR) (ys := [(⟨SlD.of ho18⟩ : RowR)]) Tryz.underlying87 rfl rfl (hs36.own _ (nthL_mem (i := 0) rfl)).1) Tryz.underlying87 inf181 rfl rfl rfl rfl rfl rfl rfl rfl rfl rfl ?_ (fun A40 c41 L37 whs38 hs38 ho39 => ?_)
  · simp; omega
  replace hs38 := St.back [_, _] hs38
  obtain ⟨L42, hs43, hb44⟩ := Bag.put (x := (⟨SlD.of ho18⟩ : RowR)) ((hs38.fr L1_17).fr L32) ho34 ho18
  have hs45 := ((hs43.fb b_s).fb b19)
  obtain ⟨L47, hs46, ho48⟩ := OwnN.fold ((hs45.fr L42).fr L37) ho39 hb44
  have hs49 := ((hs46.fb b_s).fb b19)
  refine WL.nil ⟨((((hs49.d1.rm L47).rm L21).rm L22).rm L23), WG.rn [15, 16] ((((hs49.d1.rm L47).rm L21).rm L22).rm L23) [] rfl rfl (WG.oK rfl (WL.st tbk hs49 1 rfl rfl (fun _ hs50 => WL.nil ⟨((((hs50.d1.d1.rm L47).rm L21).rm L22).rm L23), WH.dn (hK11 _ _ (WC.region ?_))⟩)))⟩
  refine WL.r 2 hs50 [] rfl (WL.nil (tkN ?_))
  obtain ⟨L52, hs51, ho53⟩ := ownScrR.fl hs50 ho25 ho26 ho27 ho48
  have hs54 := ((hs51.fb b_s).fb b19)
  replace hs54 := hs54.d1
  have hF55 := (St.grp1 (L1 := L52) [_] ((hs54.fr L52).fb b_s))
  refine ⟨sbF rfl, _, hF55, _, ?_, i + 1, ⟨r.W, r.H, ⟨r.Main.W, r.Main.H, SlD.of ho25⟩, ⟨r.Alt.W, r.Alt.H, SlD.of ho26⟩, r.OnAlt, r.X, r.Y, r.Wrap, ⟨r.A.Fg, r.A.Bg, r.A.Bold, r.A.Under, r.A.Turn⟩, r.Top, r.Bot, r.NoWrap, r.Hide, r.SaveX, r.SaveY, ⟨r.SaveA.Fg, r.SaveA.Bg, r.SaveA.Bold, r.SaveA.Under, r.SaveA.Turn⟩, SlD.of ho27, r.Limit, SlD.ofN ho48⟩, L52, rfl, rfl, ?_, ?_, (by exact ho53), ⟨rfl, trivial⟩⟩
  · omega
  · omega
  · rw [keepTo_succ (r := ⟨_⟩) hrow, ← p1]; simp only [ScrR.dat, List.map_append, List.map_cons, List.map_nil]; rfl
 have hin : i = n := by omega
 rw [hin] at p1
 have hrd : r.dat.Back.length = r.Back.xs.length := List.length_map _
 refine WC.exit (hK2 _ _ (WC.q1 hs8 [0, 0] rfl (fun _ hs56 => WC.r1 hs56 [] rfl ?_)))
 refine WC.cD rfl (fun qh57 => ?_) (fun qh57 => ?_)
 ·refine WC.region (WL.r 6 hs56 [0] rfl ?_)
  obtain ⟨L59, L60, L61, L62, hs67, ho63, ho64, ho65, ho66⟩ := ownScrR.op hs56 ho6
  have hs68 := (hs67.fb b_s)
  refine WL.cl Tryz.call237 rfl (k145_ _ _ _ _ _ _ ho66 (hs68.ow L62) (St.nodupL (hs68.fr L62)) ?_ ?_ ?_) ?_
  iterate 3 first | assumption | rfl | omega
  rintro _ whs58 ⟨A69, c70, n71, xs72, L1_73, rfl, hs58, ho74, hd75⟩
  replace hs58 := St.lend (hs68.fr L62) hs58
  refine ⟨_, rfl, ?_⟩
  replace hs58 := St.back [_] hs58
  refine WL.r 2 hs58 [] rfl (WL.st tbk hs58 0 rfl rfl (fun _ hs76 => WL.nil (retK0 rfl ?_)))
  obtain ⟨L78, hs77, ho79⟩ := ownScrR.fl hs76 ho63 ho64 ho65 ho74
  have hs80 := (hs77.fb b_s)
  refine ownScrR.retp4 rfl ((hs80.fr L78).fb b_s) ho79 ?_
  · refine Eq.trans ?_ (keepTo_drop p1 (k := ((r.Back.n : Int) - r.Limit).toNat) (by show _ = _ - s.Limit.toNat; omega)); simp only [ScrR.dat, hd75, List.map_drop]
 refine WC.skip (retK0 rfl (⟨r, _, rfl, St.keepP (L1 := L5) ((hs56.fr L5).fb b_s), ho6, ?_⟩))
 · exact keepTo_all p1 (by show _ ≤ s.Limit.toNat; omega)
theorem k147_ (u_0 u_1 u_2 u_3 : Value) (b_s : Nat) (s : ScrR) (L_s : Hp) (w_ : Int) (h_ : Int) (w : World) (hb_s : w.heap[b_s]? = some (Obj.cells (List.toArray (u_0 :: u_1 :: u_2 :: u_3 :: (cScr s))) 91 (0, 0))) (o_s : ownScrR s L_s) (h_s : Hh w L_s) (hd_ : (b_s :: L_s.map (·.1)).Nodup) (hok : scrOk s.dat = true) (hs : isSize w_ h_ = true) (hsm : smScr 1048576 s.dat) :
    Calls Tryz.prog 151 #[.pointer (some ⟨b_s, 4, none⟩), i64 w_, i64 h_] w fun e w' => ∃ r L1, e = .returned (.tuple #[]) ∧ St w (b_s :: L_s.map (·.1)) ([(b_s, Obj.cells (List.toArray (u_0 :: u_1 :: u_2 :: u_3 :: (cScr r))) 91 (0, 0))] ++ L1) w' ∧ ownScrR r L1 ∧ r.dat = scrSizeOf s.dat w_ h_ := by
 have hsmB : smScr 549755813888 s.dat := smScr_mono hsm (by decide)
 obtain ⟨hb1, hb2, hb3, hb4, hb5, hb6⟩ := scrOk_bnd hok
 obtain ⟨hm, hma⟩ := scrOk_main hok
 simp only [ScrR.dat, GridR.dat, List.length_map] at hb1 hb2 hb3 hb4 hb5 hb6
 obtain ⟨hw1, hh1, hwh, hwh2⟩ := isSize_bnd hs
 have hsg : smGrid 549755813888 (gridNew w_ h_) := gridNew_sm hs (by decide)
 have hsk : smScr 549755813888 (keepRows s.dat (sizeD s.dat h_).toNat) := keepRows_sm hsmB hm (by decide) (by show s.Limit.toNat ≤ _; omega)
 have hn0 : (sizeD s.dat h_).toNat = (max 0 (s.Y - h_ + 1)).toNat := rfl
 refine enter 112 Tryz.func151 rfl Tryz.ntmps151 rfl rfl ?_
 have hs1 := St.takeP w b_s _ L_s hb_s h_s hd_
 refine WC.sr (WL.r 7 hs1 [0] rfl (WL.val rfl rfl rfl (Run.asN ((sizeD s.dat h_).toNat) (Run.max rfl rfl rfl) ?_) ?_))
 · rw [hn0]; omega
 refine WL.r 1 hs1 [] rfl (WL.nil (WC.seq (fun K2 hK2 => WC.r1 hs1 [0] rfl ?_)))
 refine WC.cq rfl (fun h3 qh3 => ?_) (fun h3 qh3 => ?_)
 ·have hon : ¬ s.dat.OnAlt = true := by show ¬ s.OnAlt = true; have h9 := h3; simpa using h9
  refine WC.region (WL.r 2 hs1 [] rfl ?_)
  have hF4 := ((hs1.fr L_s).fb b_s)
  refine WL.cl Tryz.call196 rfl (k146_ _ _ _ _ _ s _ _ _ (St.headP hF4) o_s (St.ownP hF4) (St.nodupP hF4) ?_ ?_ ?_ ?_ ?_) ?_
  iterate 5 first | assumption | rfl | omega | (rw [hs]; exact gridOk_new hs) | (rw [hrM]; assumption) | (rw [hrA]; assumption)
  rintro _ whs5 ⟨r6, L7, rfl, hs5, ho8, hd9⟩
  replace hs5 := St.lendP hF4 hs5
  refine ⟨_, rfl, ?_⟩
  have hrM : r6.Main.dat = s.Main.dat := congrArg ScrD.Main hd9
  have hrA : r6.Alt.dat = s.Alt.dat := congrArg ScrD.Alt hd9
  have hrX : r6.X = s.X := congrArg ScrD.X hd9
  have hrY : r6.Y = s.Y := congrArg ScrD.Y hd9
  have hrU : r6.SaveX = s.SaveX := congrArg ScrD.SaveX hd9
  have hrV : r6.SaveY = s.SaveY := congrArg ScrD.SaveY hd9
  refine WL.nil (hK2 _ _ (WC.seq (fun K10 hK10 => WC.rG 24 hs5.d1 hs5 hs5 (fun _ hs11 => ?_))))
  refine WG.rn [0, 1, 2, 3, 5, 6, 7, 8, 9, 10, 12, 13, 15, 16, 17, 18, 19, 20] hs11 [0, 0] rfl rfl (WG.o1 4 rfl rfl (WL.cl Tryz.call197 rfl (k138_ _ _ _ ?_) ?_))
  · first | assumption | rfl | omega | (rw [hd9]; exact gridOk_new hs) | (rw [hrM]; assumption) | (rw [hrA]; assumption)
  rintro _ whs12 ⟨r13, L1_14, rfl, hs12, ho15, hd16⟩
  replace hs12 := hs11.callF hs12
  refine ⟨_, rfl, ?_⟩
  replace hs12 := St.back [_] hs12
  have hg27d := hd16
  have hg27 : gridOk _ = true := (congrArg gridOk hd16).trans (gridOk_new hs)
  refine WL.nil ⟨(hs12.rm L1_14), WG.o1 11 rfl rfl ?_⟩
  refine WL.cl Tryz.call198 rfl (k143_ r13 r6.Main _ _ _ (ownGridR.ok (B := 549755813888) ho15 (hs12.ow L1_14) (by rw [hd16]; assumption)) (ownScrR.ok (B := 549755813888) ho8 (hs12.ow L7) (by rw [hd9]; assumption)).Main ?_ ?_ ?_ ?_) ?_
  iterate 4 first | assumption | rfl | omega | (rw [hd16]; exact gridOk_new hs) | (rw [hrM]; assumption) | (rw [hrA]; assumption)
  rintro _ whs17 ⟨r18, L1_19, rfl, hs17, ho20, hd21⟩
  replace hs17 := hs12.callF hs17
  refine ⟨_, rfl, ?_⟩
  replace hs17 := St.back [_] hs17
  skip
  refine WL.nil ⟨((hs17.rm L1_19).rm L1_14), WG.o1 14 rfl rfl (WL.cl Tryz.call197 rfl (k138_ _ _ _ ?_) ?_)⟩
  · first | assumption | rfl | omega | (rw [hd21]; exact gridOk_new hs) | (rw [hrM]; assumption) | (rw [hrA]; assumption)
  rintro _ whs22 ⟨r23, L1_24, rfl, hs22, ho25, hd26⟩
  replace hs22 := hs17.callF hs22
  refine ⟨_, rfl, ?_⟩
  replace hs22 := St.back [_] hs22
  have hg37d := hd26
  have hg37 : gridOk _ = true := (congrArg gridOk hd26).trans (gridOk_new hs)
  refine WL.nil ⟨(((hs22.rm L1_24).rm L1_19).rm L1_14), WG.o1 21 rfl rfl ?_⟩
  refine WL.cl Tryz.call198 rfl (k143_ r23 r6.Alt _ _ _ (ownGridR.ok (B := 549755813888) ho25 (hs22.ow L1_24) (by rw [hd26]; assumption)) (ownScrR.ok (B := 549755813888) ho8 (hs22.ow L7) (by rw [hd9]; assumption)).Alt ?_ ?_ ?_ ?_) ?_
  iterate 4 first | assumption | rfl | omega | (rw [hd26]; exact gridOk_new hs) | (rw [hrM]; assumption) | (rw [hrA]; assumption)
  rintro _ whs27 ⟨r28, L1_29, rfl, hs27, ho30, hd31⟩
  replace hs27 := hs22.callF hs27
  refine ⟨_, rfl, ?_⟩
  replace hs27 := St.back [_] hs27
  skip
  refine WL.nil ⟨((((hs27.rm L1_29).rm L1_24).rm L1_19).rm L1_14), WG.rn [22, 23] ((((hs27.rm L1_29).rm L1_24).rm L1_19).rm L1_14) [] rfl rfl (WG.oK rfl (WL.st tbk hs27 0 rfl rfl (fun _ hs32 => WL.nil ⟨((((hs32.d1.rm L1_29).rm L1_24).rm L1_19).rm L1_14), WH.rn [25, 26] ((((hs32.d1.rm L1_29).rm L1_24).rm L1_19).rm L1_14) [] rfl rfl (WH.o1 27 rfl (WL.st tbk hs32 0 rfl rfl (fun _ hs33 => ?_)))⟩)))⟩
  refine WL.nil ⟨((((hs33.d1.rm L1_29).rm L1_24).rm L1_19).rm L1_14), WH.dn (hK10 _ _ (WC.seq (fun K34 hK34 => WC.rG 22 hs33.d1 hs33 hs33 (fun _ hs35 => ?_))))⟩
  refine WG.rn [0, 1, 2, 3, 4, 5, 6, 7, 8, 9, 10, 11, 12, 13, 14, 15, 16, 17, 18, 19, 20, 21] hs35 [0, 0] rfl rfl (WG.oK rfl (WL.st tbk hs35 0 rfl rfl (fun _ hs36 => WL.nil ⟨hs36.d1, WH.rn [23, 24] hs36.d1 [] rfl rfl (WH.o1 25 rfl (WL.st tbk hs36 0 rfl rfl (fun _ hs37 => WL.nil ⟨hs37.d1, ?_⟩)))⟩)))
  refine WH.rn [26, 27] hs37.d1 [] rfl rfl (WH.o1 28 rfl (WL.st tbk hs37 0 rfl rfl (fun _ hs38 => WL.nil ⟨hs38.d1, WH.rn [29, 30] hs38.d1 [] rfl rfl (WH.o1 31 rfl (WL.st tbk hs38 0 rfl rfl (fun _ hs39 => WL.nil ⟨hs39.d1, ?_⟩)))⟩)))
  refine WH.rn [32, 33] hs39.d1 [] rfl rfl (WH.o1 34 rfl (WL.st tbk hs39 0 rfl rfl (fun _ hs40 => WL.nil ⟨hs40.d1, WH.dn (hK34 _ _ (WC.sr (WL.r 6 hs40 [] rfl ?_)))⟩)))
  refine WL.cl Tryz.call199 rfl (k139_ _ _ ?_) ?_
  · first | assumption | rfl | omega | (rw [hd31]; exact gridOk_new hs) | (rw [hrM]; assumption) | (rw [hrA]; assumption)
  rintro _ whs41 ⟨A42, c43, L1_44, rfl, hs41, ho45⟩
  replace hs41 := hs40.callF hs41
  refine ⟨_, rfl, ?_⟩
  replace hs41 := St.back [_] hs41
  refine WL.r 2 hs41 [] rfl (WL.st tbk hs41 0 rfl rfl (fun _ hs46 => WL.r 2 hs46 [] rfl (WL.st tbk hs46 0 rfl rfl (fun _ hs47 => WL.r 2 hs47 [] rfl (WL.st tbk hs47 0 rfl rfl (fun _ hs48 => WL.nil (WC.rG 18 hs48.d1 hs48 hs48 (fun _ hs49 => ?_))))))))
  refine WG.rn [0, 1, 2, 3, 4, 5, 6, 7, 8, 9, 10, 11, 12, 13, 14, 15, 16, 17] hs49 [0, 0] rfl rfl (WG.oK rfl (WL.st tbk hs49 0 rfl rfl (fun _ hs50 => WL.nil ⟨hs50.d1, WH.rn [19, 20] hs50.d1 [] rfl rfl (WH.o1 21 rfl (WL.st tbk hs50 0 rfl rfl (fun _ hs51 => WL.nil ⟨hs51.d1, ?_⟩)))⟩)))
  refine WH.dn (retK0 rfl ?_)
  obtain ⟨L52, L53, L54, L55, hs60, ho56, ho57, ho58, ho59⟩ := ownScrR.op hs51 ho8
  have hs61 := (hs60.fb b_s)
  obtain ⟨L63, hs62, ho64⟩ := ownScrR.fl hs61 ho20 ho30 ho45 ho59
  have hs65 := (hs62.fb b_s)
  refine ownScrR.retp4 rfl ((hs65.fr L63).fb b_s) ho64 ?_
  · rw [show scrSizeOf s.dat w_ h_ = { r6.dat with W := w_, H := h_, Main := gPaste (gridNew w_ h_) s.dat.Main 0 (-sizeD s.dat h_), Alt := gPaste (gridNew w_ h_) s.dat.Alt 0 (-sizeD s.dat h_), X := min s.dat.X (w_ - 1), Y := s.dat.Y - sizeD s.dat h_, Wrap := false, Top := 0, Bot := h_ - 1, Tabs := tabsL w_, SaveX := min s.dat.SaveX (w_ - 1), SaveY := min s.dat.SaveY (h_ - 1) } from by unfold scrSizeOf scrSize1; rw [if_neg hon, hd9]]; simp only [ScrR.dat, hrX, hrY, hrU, hrV, sizeD_nat]; refine ScrD.ext' rfl rfl ?_ ?_ rfl rfl rfl rfl rfl rfl rfl rfl rfl rfl rfl rfl rfl rfl rfl; exact (hd21).trans (by rw [hg27d, hrM, sizeD_nat]; rfl); exact (hd31).trans (by rw [hg37d, hrA, sizeD_nat]; rfl)
 have hon : s.dat.OnAlt = true := by show s.OnAlt = true; have h9 := h3; simpa using h9
 refine WC.skip (hK2 _ _ (WC.seq (fun K66 hK66 => WC.rG 24 hs1.d1 hs1 hs1 (fun _ hs67 => ?_))))
 refine WG.rn [0, 1, 2, 3, 5, 6, 7, 8, 9, 10, 12, 13, 15, 16, 17, 18, 19, 20] hs67 [0, 0] rfl rfl (WG.o1 4 rfl rfl (WL.cl Tryz.call197 rfl (k138_ _ _ _ ?_) ?_))
 · first | assumption | rfl | omega | (rw [hd31]; exact gridOk_new hs) | (rw [hrM]; assumption) | (rw [hrA]; assumption)
 rintro _ whs68 ⟨r69, L1_70, rfl, hs68, ho71, hd72⟩
 replace hs68 := hs67.callF hs68
 refine ⟨_, rfl, ?_⟩
 replace hs68 := St.back [_] hs68
 have hg27d := hd72
 have hg27 : gridOk _ = true := (congrArg gridOk hd72).trans (gridOk_new hs)
 refine WL.nil ⟨(hs68.rm L1_70), WG.o1 11 rfl rfl ?_⟩
 refine WL.cl Tryz.call198 rfl (k143_ r69 s.Main _ _ _ (ownGridR.ok (B := 549755813888) ho71 (hs68.ow L1_70) (by rw [hd72]; assumption)) (ownScrR.ok (B := 549755813888) o_s (hs68.ow L_s) (by assumption)).Main ?_ ?_ ?_ ?_) ?_
 iterate 4 first | assumption | rfl | omega | (rw [hd72]; exact gridOk_new hs) | (rw [hrM]; assumption) | (rw [hrA]; assumption)
 rintro _ whs73 ⟨r74, L1_75, rfl, hs73, ho76, hd77⟩
 replace hs73 := hs68.callF hs73
 refine ⟨_, rfl, ?_⟩
 replace hs73 := St.back [_] hs73
 skip
 refine WL.nil ⟨((hs73.rm L1_75).rm L1_70), WG.o1 14 rfl rfl (WL.cl Tryz.call197 rfl (k138_ _ _ _ ?_) ?_)⟩
 · first | assumption | rfl | omega | (rw [hd77]; exact gridOk_new hs) | (rw [hrM]; assumption) | (rw [hrA]; assumption)
 rintro _ whs78 ⟨r79, L1_80, rfl, hs78, ho81, hd82⟩
 replace hs78 := hs73.callF hs78
 refine ⟨_, rfl, ?_⟩
 replace hs78 := St.back [_] hs78
 have hg37d := hd82
 have hg37 : gridOk _ = true := (congrArg gridOk hd82).trans (gridOk_new hs)
 refine WL.nil ⟨(((hs78.rm L1_80).rm L1_75).rm L1_70), WG.o1 21 rfl rfl ?_⟩
 refine WL.cl Tryz.call198 rfl (k143_ r79 s.Alt _ _ _ (ownGridR.ok (B := 549755813888) ho81 (hs78.ow L1_80) (by rw [hd82]; assumption)) (ownScrR.ok (B := 549755813888) o_s (hs78.ow L_s) (by assumption)).Alt ?_ ?_ ?_ ?_) ?_
 iterate 4 first | assumption | rfl | omega | (rw [hd82]; exact gridOk_new hs) | (rw [hrM]; assumption) | (rw [hrA]; assumption)
 rintro _ whs83 ⟨r84, L1_85, rfl, hs83, ho86, hd87⟩
 replace hs83 := hs78.callF hs83
 refine ⟨_, rfl, ?_⟩
 replace hs83 := St.back [_] hs83
 skip
 refine WL.nil ⟨((((hs83.rm L1_85).rm L1_80).rm L1_75).rm L1_70), WG.rn [22, 23] ((((hs83.rm L1_85).rm L1_80).rm L1_75).rm L1_70) [] rfl rfl (WG.oK rfl (WL.st tbk hs83 0 rfl rfl (fun _ hs88 => WL.nil ⟨((((hs88.d1.rm L1_85).rm L1_80).rm L1_75).rm L1_70), WH.rn [25, 26] ((((hs88.d1.rm L1_85).rm L1_80).rm L1_75).rm L1_70) [] rfl rfl (WH.o1 27 rfl (WL.st tbk hs88 0 rfl rfl (fun _ hs89 => ?_)))⟩)))⟩
 refine WL.nil ⟨((((hs89.d1.rm L1_85).rm L1_80).rm L1_75).rm L1_70), WH.dn (hK66 _ _ (WC.seq (fun K90 hK90 => WC.rG 22 hs89.d1 hs89 hs89 (fun _ hs91 => ?_))))⟩
 refine WG.rn [0, 1, 2, 3, 4, 5, 6, 7, 8, 9, 10, 11, 12, 13, 14, 15, 16, 17, 18, 19, 20, 21] hs91 [0, 0] rfl rfl (WG.oK rfl (WL.st tbk hs91 0 rfl rfl (fun _ hs92 => WL.nil ⟨hs92.d1, WH.rn [23, 24] hs92.d1 [] rfl rfl (WH.o1 25 rfl (WL.st tbk hs92 0 rfl rfl (fun _ hs93 => WL.nil ⟨hs93.d1, ?_⟩)))⟩)))
 refine WH.rn [26, 27] hs93.d1 [] rfl rfl (WH.o1 28 rfl (WL.st tbk hs93 0 rfl rfl (fun _ hs94 => WL.nil ⟨hs94.d1, WH.rn [29, 30] hs94.d1 [] rfl rfl (WH.o1 31 rfl (WL.st tbk hs94 0 rfl rfl (fun _ hs95 => WL.nil ⟨hs95.d1, ?_⟩)))⟩)))
 refine WH.rn [32, 33] hs95.d1 [] rfl rfl (WH.o1 34 rfl (WL.st tbk hs95 0 rfl rfl (fun _ hs96 => WL.nil ⟨hs96.d1, WH.dn (hK90 _ _ (WC.sr (WL.r 6 hs96 [] rfl ?_)))⟩)))
 refine WL.cl Tryz.call199 rfl (k139_ _ _ ?_) ?_
 · first | assumption | rfl | omega | (rw [hd87]; exact gridOk_new hs) | (rw [hrM]; assumption) | (rw [hrA]; assumption)
 rintro _ whs97 ⟨A98, c99, L1_100, rfl, hs97, ho101⟩
 replace hs97 := hs96.callF hs97
 refine ⟨_, rfl, ?_⟩
 replace hs97 := St.back [_] hs97
 refine WL.r 2 hs97 [] rfl (WL.st tbk hs97 0 rfl rfl (fun _ hs102 => WL.r 2 hs102 [] rfl (WL.st tbk hs102 0 rfl rfl (fun _ hs103 => WL.r 2 hs103 [] rfl (WL.st tbk hs103 0 rfl rfl (fun _ hs104 => WL.nil (WC.rG 18 hs104.d1 hs104 hs104 (fun _ hs105 => ?_))))))))
 refine WG.rn [0, 1, 2, 3, 4, 5, 6, 7, 8, 9, 10, 11, 12, 13, 14, 15, 16, 17] hs105 [0, 0] rfl rfl (WG.oK rfl (WL.st tbk hs105 0 rfl rfl (fun _ hs106 => WL.nil ⟨hs106.d1, WH.rn [19, 20] hs106.d1 [] rfl rfl (WH.o1 21 rfl (WL.st tbk hs106 0 rfl rfl (fun _ hs107 => WL.nil ⟨hs107.d1, ?_⟩)))⟩)))
 refine WH.dn (retK0 rfl ?_)
 obtain ⟨L108, L109, L110, L111, hs116, ho112, ho113, ho114, ho115⟩ := ownScrR.op hs107 o_s
 have hs117 := (hs116.fb b_s)
 obtain ⟨L119, hs118, ho120⟩ := ownScrR.fl hs117 ho76 ho86 ho101 ho115
 have hs121 := (hs118.fb b_s)
 refine ownScrR.retp4 rfl ((hs121.fr L119).fb b_s) ho120 ?_
 · rw [show scrSizeOf s.dat w_ h_ = { s.dat with W := w_, H := h_, Main := gPaste (gridNew w_ h_) s.dat.Main 0 (-sizeD s.dat h_), Alt := gPaste (gridNew w_ h_) s.dat.Alt 0 (-sizeD s.dat h_), X := min s.dat.X (w_ - 1), Y := s.dat.Y - sizeD s.dat h_, Wrap := false, Top := 0, Bot := h_ - 1, Tabs := tabsL w_, SaveX := min s.dat.SaveX (w_ - 1), SaveY := min s.dat.SaveY (h_ - 1) } from by unfold scrSizeOf scrSize1; rw [if_pos hon]]; simp only [ScrR.dat, sizeD_nat]; refine ScrD.ext' rfl rfl ?_ ?_ rfl rfl rfl rfl rfl rfl rfl rfl rfl rfl rfl rfl rfl rfl rfl; exact (hd77).trans (by rw [hg27d, sizeD_nat]; rfl); exact (hd87).trans (by rw [hg37d, sizeD_nat]; rfl)
theorem built_91 : Tryz.prog.built 91 [] = some (List.toArray [.int .i64 0, .bool false, .slice none 0 0, .slice none 0 0, .int .i64 0, .int .i64 0, .int .i64 0, .int .i64 0, .slice none 0 0, .int .i64 0, .int .i64 0, .slice none 0 0, .bool false, .int .i64 0, .int .i64 0, .bool false, .int .i64 0, .int .i64 0, .bool false, .bool false, .bool false, .int .i64 0, .int .i64 0, .bool false, .bool false, .int .i64 0, .int .i64 0, .int .i64 0, .int .i64 0, .bool false, .bool false, .bool false, .slice none 0 0, .int .i64 0, .slice none 0 0]) := by kernel_rfl
theorem k148_ (t : TermR) (w_ : Int) (h_ : Int) (w : World) (f_t : okTermR 549755813888 w t) (hsm : smTerm 1048576 t.dat) :
    Calls Tryz.prog 85 #[.agg #[i64 t.P.State, .bool t.P.Mark, .slice t.P.Args.A t.P.Args.n t.P.Args.c, .slice t.P.Part.A t.P.Part.n t.P.Part.c, i64 t.S.W, i64 t.S.H, i64 t.S.Main.W, i64 t.S.Main.H, .slice t.S.Main.Cells.A t.S.Main.Cells.n t.S.Main.Cells.c, i64 t.S.Alt.W, i64 t.S.Alt.H, .slice t.S.Alt.Cells.A t.S.Alt.Cells.n t.S.Alt.Cells.c, .bool t.S.OnAlt, i64 t.S.X, i64 t.S.Y, .bool t.S.Wrap, i64 t.S.A.Fg, i64 t.S.A.Bg, .bool t.S.A.Bold, .bool t.S.A.Under, .bool t.S.A.Turn, i64 t.S.Top, i64 t.S.Bot, .bool t.S.NoWrap, .bool t.S.Hide, i64 t.S.SaveX, i64 t.S.SaveY, i64 t.S.SaveA.Fg, i64 t.S.SaveA.Bg, .bool t.S.SaveA.Bold, .bool t.S.SaveA.Under, .bool t.S.SaveA.Turn, .slice t.S.Tabs.A t.S.Tabs.n t.S.Tabs.c, i64 t.S.Limit, .slice t.S.Back.A t.S.Back.n t.S.Back.c], i64 w_, i64 h_] w fun e w' => ∃ r0 L0, e = .returned (.tuple #[.agg #[i64 r0.P.State, .bool r0.P.Mark, .slice r0.P.Args.A r0.P.Args.n r0.P.Args.c, .slice r0.P.Part.A r0.P.Part.n r0.P.Part.c, i64 r0.S.W, i64 r0.S.H, i64 r0.S.Main.W, i64 r0.S.Main.H, .slice r0.S.Main.Cells.A r0.S.Main.Cells.n r0.S.Main.Cells.c, i64 r0.S.Alt.W, i64 r0.S.Alt.H, .slice r0.S.Alt.Cells.A r0.S.Alt.Cells.n r0.S.Alt.Cells.c, .bool r0.S.OnAlt, i64 r0.S.X, i64 r0.S.Y, .bool r0.S.Wrap, i64 r0.S.A.Fg, i64 r0.S.A.Bg, .bool r0.S.A.Bold, .bool r0.S.A.Under, .bool r0.S.A.Turn, i64 r0.S.Top, i64 r0.S.Bot, .bool r0.S.NoWrap, .bool r0.S.Hide, i64 r0.S.SaveX, i64 r0.S.SaveY, i64 r0.S.SaveA.Fg, i64 r0.S.SaveA.Bg, .bool r0.S.SaveA.Bold, .bool r0.S.SaveA.Under, .bool r0.S.SaveA.Turn, .slice r0.S.Tabs.A r0.S.Tabs.n r0.S.Tabs.c, i64 r0.S.Limit, .slice r0.S.Back.A r0.S.Back.n r0.S.Back.c], .bool (termSizeOk t.dat w_ h_)]) ∧ St w [] (L0) w' ∧ ownTermR r0 L0 ∧ r0.dat = termSizeRes t.dat w_ h_ := by
 have nb_t_P_Args := f_t.P.Args_n
 have nl_t_P_Args := f_t.P.Args.len
 have nb_t_P_Part := f_t.P.Part_n
 have nl_t_P_Part := f_t.P.Part.len
 have nb_t_S_Main_Cells := f_t.S.Main.Cells_n
 have nl_t_S_Main_Cells := f_t.S.Main.Cells.len
 have nb_t_S_Alt_Cells := f_t.S.Alt.Cells_n
 have nl_t_S_Alt_Cells := f_t.S.Alt.Cells.len
 have nb_t_S_Tabs := f_t.S.Tabs_n
 have nl_t_S_Tabs := f_t.S.Tabs.len
 have nb_t_S_Back := f_t.S.Back_n
 have nl_t_S_Back := f_t.S.Back.sl.len
 have hsmB : smTerm 549755813888 t.dat := smTerm_mono hsm (by decide)
 refine enter 26 Tryz.func85 rfl Tryz.ntmps85 rfl rfl ?_
 have hs1 := St.init w
 refine WC.sr (WL.bx hs1 rfl (fun b2 _ hs3 => WL.al hs3 Tryz.zeroValue91 rfl rfl (fun b4 _ hs5 => WL.r 1 hs5 [] rfl (WL.nil (WC.seq (fun K6 hK6 => WC.sr (WL.r 1 hs5 [1] rfl ?_)))))))
 refine WL.cl Tryz.call150 rfl (k63_ t _ (okTermR.st0 f_t hs5)) ?_
 rintro _ whs7 ⟨rfl, hs7⟩
 replace hs7 := hs5.call0 hs7
 refine ⟨_, rfl, WL.r 2 hs7 [] rfl ?_⟩
 apply WL.gO 4 Acts.nil hs7 rfl
 ·intro g8 J9
  have qg8 := g8
  try simp only [bf, within_iff, within_not] at qg8
  refine WL.runA tbk 2 (Acts.nil.cons (j := 3) rfl g8) hs7 [] rfl trivial (WL.call (wantF rfl g8) rfl rfl (Run.call Tryz.call57 rfl rfl rfl) (k54_ _ _ _) ?_)
  rintro _ whs10 ⟨rfl, hs10⟩
  replace hs10 := hs7.call0 hs10
  refine ⟨_, rfl, WL.runA tbk 1 (Acts.nil.cons (j := 3) rfl g8) hs10 [] rfl trivial (WL.eO 4 Acts.nil J9 hs10 g8 rfl rfl)⟩
 intro _ hs11
 refine WL.nil (WC.cq rfl (fun h12 qh12 => ?_) (fun h12 qh12 => ?_))
 ·have hk : termSizeOk t.dat w_ h_ = false := by unfold termSizeOk; have h9 := h12; revert h9; cases termOk t.dat <;> cases isSize w_ h_ <;> simp
  refine WC.sr ?_
  refine WL.val rfl rfl rfl (Run.build rfl rfl rfl rfl (built_91)) (WL.st tbk hs11 0 rfl rfl (fun _ hs13 => WL.r 1 hs13 [] rfl (WL.nil (WC.ret (tkR ?_)))))
  clear hK6
  refine retV2 rfl (resV.cellA tbk hs13 0 rfl rfl rfl rfl) (resV.tmp rfl) ?_
  have hv : termSizeRes t.dat w_ h_ = ⟨vp0, scr0⟩ := by unfold termSizeRes; rw [hk]; rfl
  rw [hk]
  obtain ⟨L21, hs20, ho22⟩ := ownTermR.fl hs13 (OwnF.nil _ _) (OwnF.nil _ _) (OwnF.nil _ _) (OwnF.nil _ _) (OwnF.nil _ _) (OwnN.nil _ _ _)
  have hs23 := ((hs20.fb b2).fb b4)
  refine ⟨⟨⟨0, false, ⟨none, 0, 0, []⟩, ⟨none, 0, 0, []⟩⟩, ⟨0, 0, ⟨0, 0, ⟨none, 0, 0, []⟩⟩, ⟨0, 0, ⟨none, 0, 0, []⟩⟩, false, 0, 0, false, ⟨0, 0, false, false, false⟩, 0, 0, false, false, 0, 0, ⟨0, 0, false, false, false⟩, ⟨none, 0, 0, []⟩, 0, ⟨none, 0, 0, []⟩⟩⟩, _, rfl, (St.keep1 (hs23.fr L21)), ?_, ?_⟩
  · exact (by exact ho22)
  · rw [hv]; rfl
 have hk : termSizeOk t.dat w_ h_ = true := by unfold termSizeOk; have h9 := h12; revert h9; cases termOk t.dat <;> cases isSize w_ h_ <;> simp
 have hT0 : termOk t.dat = true := by unfold termSizeOk at hk; rw [Bool.and_eq_true] at hk; exact hk.1
 have hs : isSize w_ h_ = true := by unfold termSizeOk at hk; rw [Bool.and_eq_true] at hk; exact hk.2
 have hok : scrOk t.S.dat = true := by unfold termOk at hT0; rw [Bool.and_eq_true] at hT0; exact hT0.2
 refine WC.skip (hK6 _ _ (WC.sr (WL.r 1 hs11 [1] rfl ?_)))
 refine WL.cl Tryz.call147 rfl (k85_ t _ (okTermR.st0 f_t hs11) ?_) ?_
 · first | assumption | rfl | omega | exact (congrArg scrOk (congrArg TermD.S hcp)).trans hok | exact (congrArg (smScr 1048576) (congrArg TermD.S hcp)).mpr hsm.2
 rintro _ whs24 ⟨r25, L1_26, rfl, hs24, ho27, hd28⟩
 replace hs24 := hs11.callF hs24
 refine ⟨_, rfl, ?_⟩
 replace hs24 := St.back [_, _] hs24
 have hcp := hd28
 refine WL.al hs24 Tryz.zeroValue91 rfl rfl (fun b29 _ hs30 => WL.st tbk hs30 0 rfl rfl (fun _ hs31 => WL.nil (WC.sr (WL.r 3 hs31 [] rfl ?_))))
 obtain ⟨L32, L33, L34, L35, L36, L37, hs44, ho38, ho39, ho40, ho41, ho42, ho43⟩ := ownTermR.op hs31 ho27
 have hs45 := (((hs44.fb b2).fb b4).fb b29)
 obtain ⟨L47, hs46, ho48⟩ := ownScrR.fl hs45 ho40 ho41 ho42 ho43
 have hs49 := (((hs46.fb b2).fb b4).fb b29)
 have hF50 := ((hs49.fr L47).fb b29)
 refine WL.cl Tryz.call151 rfl (k147_ _ _ _ _ _ ⟨r25.S.W, r25.S.H, ⟨r25.S.Main.W, r25.S.Main.H, SlD.of ho40⟩, ⟨r25.S.Alt.W, r25.S.Alt.H, SlD.of ho41⟩, r25.S.OnAlt, r25.S.X, r25.S.Y, r25.S.Wrap, ⟨r25.S.A.Fg, r25.S.A.Bg, r25.S.A.Bold, r25.S.A.Under, r25.S.A.Turn⟩, r25.S.Top, r25.S.Bot, r25.S.NoWrap, r25.S.Hide, r25.S.SaveX, r25.S.SaveY, ⟨r25.S.SaveA.Fg, r25.S.SaveA.Bg, r25.S.SaveA.Bold, r25.S.SaveA.Under, r25.S.SaveA.Turn⟩, SlD.of ho42, r25.S.Limit, SlD.ofN ho43⟩ _ _ _ _ (St.headP hF50) (by exact ho48) (St.ownP hF50) (St.nodupP hF50) ?_ ?_ ?_) ?_
 iterate 3 first | assumption | rfl | omega | exact (congrArg scrOk (congrArg TermD.S hcp)).trans hok | exact (congrArg (smScr 1048576) (congrArg TermD.S hcp)).mpr hsm.2
 rintro _ whs51 ⟨r52, L53, rfl, hs51, ho54, hd55⟩
 replace hs51 := St.lendP hF50 hs51
 refine ⟨_, rfl, ?_⟩
 have hs56 := (((hs51.fb b2).fb b4).fb b29)
 have hsz := hd55
 refine WL.nil (WC.sr (WL.r 1 hs56 [0] rfl (WL.st tbk hs56 1 rfl rfl (fun _ hs57 => WL.r 1 hs57 [] rfl (WL.nil (WC.ret (retV2 rfl (resV.cellA tbk hs57 1 rfl rfl rfl rfl) (resV.tmp rfl) ?_)))))))
 have hv : termSizeRes t.dat w_ h_ = ⟨t.dat.P, scrSizeOf t.dat.S w_ h_⟩ := by unfold termSizeRes; rw [hk]; rfl
 rw [hk]
 obtain ⟨L58, L59, L60, L61, hs66, ho62, ho63, ho64, ho65⟩ := ownScrR.op hs57 ho54
 have hs67 := (((hs66.fb b2).fb b4).fb b29)
 obtain ⟨L69, hs68, ho70⟩ := ownTermR.fl hs67 ho38 ho39 ho62 ho63 ho64 ho65
 have hs71 := (((hs68.fb b2).fb b4).fb b29)
 refine ⟨⟨⟨r25.P.State, r25.P.Mark, SlD.of ho38, SlD.of ho39⟩, ⟨r52.W, r52.H, ⟨r52.Main.W, r52.Main.H, SlD.of ho62⟩, ⟨r52.Alt.W, r52.Alt.H, SlD.of ho63⟩, r52.OnAlt, r52.X, r52.Y, r52.Wrap, ⟨r52.A.Fg, r52.A.Bg, r52.A.Bold, r52.A.Under, r52.A.Turn⟩, r52.Top, r52.Bot, r52.NoWrap, r52.Hide, r52.SaveX, r52.SaveY, ⟨r52.SaveA.Fg, r52.SaveA.Bg, r52.SaveA.Bold, r52.SaveA.Under, r52.SaveA.Turn⟩, SlD.of ho64, r52.Limit, SlD.ofN ho65⟩⟩, _, rfl, (St.keep1 (hs71.fr L69)), ?_, ?_⟩
 · exact (by exact ho70)
 · rw [hv]; exact TermD.ext' (by have h_ := congrArg TermD.P hcp; exact h_) (hsz.trans (by have h_ := congrArg (fun d : TermD => scrSizeOf d.S w_ h_) hcp; exact h_))
set_option maxHeartbeats 4000000 in
theorem k149_ (a : StateR) (left : Int) (w : World) (f_a : okStateR 9223372036854775807 w a) (h1 : 0 ≤ left) (h2 : left ≤ 1048576) :
    Calls Tryz.prog 11 #[.agg #[i64 a.W, i64 a.H, i64 a.Limit, i64 a.Next, .slice a.Panes.A a.Panes.n a.Panes.c, .slice a.Wins.A a.Wins.n a.Wins.c, .slice a.Sess.A a.Sess.n a.Sess.c], i64 left] w fun e w' => e = .returned (.int .i64 (szR left (totState a.dat))) ∧ St w [] [] w' := by
 have nb_a_Panes := f_a.Panes_n
 have nl_a_Panes := f_a.Panes.sl.len
 have nb_a_Wins := f_a.Wins_n
 have nl_a_Wins := f_a.Wins.sl.len
 have nb_a_Sess := f_a.Sess_n
 have nl_a_Sess := f_a.Sess.sl.len
 refine enter 24 Tryz.func11 rfl Tryz.ntmps11 rfl rfl ?_
 have hs1 := St.init w
 refine WC.sr (WL.bx hs1 rfl (fun b2 _ hs3 => WL.r 1 hs3 [] rfl (WL.nil (WC.sr (WL.r 3 hs3 [0] rfl ?_)))))
 refine WL.cl Tryz.call36 rfl (k94_ _ _ _ _ _ _ (SlN.st0 okPaneR.st0 f_a.Panes hs3) ?_ ?_ ?_) ?_
 · first | assumption | omega
 · first | assumption | omega | exact szR_b (by assumption) (by omega) (by first | assumption | omega)
 · first | assumption | omega
 rintro _ whs4 ⟨rfl, hs4⟩
 replace hs4 := hs3.call0 hs4
 refine ⟨_, rfl, WL.r 1 hs4 [] rfl (WL.nil (WC.seq (fun K5 hK5 => WC.r1 hs4 [] rfl ?_)))⟩
 refine WC.cD rfl (fun qh6 => ?_) (fun qh6 => ?_)
 ·try have soh6 := szR_ok qh6 (by omega)
  try have sbh6 := szR_b qh6 (by omega) (by first | assumption | omega)
  try have snh6 := szR_no qh6
  refine WC.r1 hs4 [] rfl (WC.ret (tkR ?_))
  clear hK5
  refine rtv rfl rfl hs4 ?_
  simp only [totState, StateR.dat] at *; first | (rw [szR_lt (by omega)]; done) | (refine congrArg (Value.int _) ?_; symm; refine (szR_le ?_).trans ?_ <;> omega) | rfl
 try have soh6 := szR_ok qh6 (by omega)
 try have sbh6 := szR_b qh6 (by omega) (by first | assumption | omega)
 try have snh6 := szR_no qh6
 refine WC.skip (hK5 _ _ (WC.sr (WL.r 3 hs4 [0] rfl ?_)))
 refine WL.cl Tryz.call37 rfl (k96_ _ _ _ _ _ _ (SlN.st0 okWinR.st0 f_a.Wins hs4) ?_ ?_ ?_) ?_
 · first | assumption | omega
 · first | assumption | omega | exact szR_b (by assumption) (by omega) (by first | assumption | omega)
 · first | assumption | omega
 rintro _ whs7 ⟨rfl, hs7⟩
 replace hs7 := hs4.call0 hs7
 refine ⟨_, rfl, WL.r 1 hs7 [] rfl (WL.nil (WC.seq (fun K8 hK8 => WC.r1 hs7 [] rfl ?_)))⟩
 refine WC.cD rfl (fun qh9 => ?_) (fun qh9 => ?_)
 ·try have soh9 := szR_ok qh9 (by omega)
  try have sbh9 := szR_b qh9 (by omega) (by first | assumption | omega)
  try have snh9 := szR_no qh9
  refine WC.r1 hs7 [] rfl (WC.ret (tkR ?_))
  clear hK8
  refine rtv rfl rfl hs7 ?_
  simp only [totState, StateR.dat] at *; first | (rw [szR_lt (by omega)]; done) | (refine congrArg (Value.int _) ?_; symm; refine (szR_le ?_).trans ?_ <;> omega) | rfl
 try have soh9 := szR_ok qh9 (by omega)
 try have sbh9 := szR_b qh9 (by omega) (by first | assumption | omega)
 try have snh9 := szR_no qh9
 refine WC.skip (hK8 _ _ (WC.sr (WL.r 3 hs7 [0] rfl ?_)))
 refine WL.cl Tryz.call38 rfl (k98_ _ _ _ _ _ _ (SlN.st0 okSessR.st0 f_a.Sess hs7) ?_ ?_ ?_) ?_
 · first | assumption | omega
 · first | assumption | omega | exact szR_b (by assumption) (by omega) (by first | assumption | omega)
 · first | assumption | omega
 rintro _ whs10 ⟨rfl, hs10⟩
 replace hs10 := hs7.call0 hs10
 refine ⟨_, rfl, WL.r 1 hs10 [] rfl (WL.nil (WC.seq (fun K11 hK11 => WC.r1 hs10 [] rfl ?_)))⟩
 refine WC.cD rfl (fun qh12 => ?_) (fun qh12 => ?_)
 ·try have soh12 := szR_ok qh12 (by omega)
  try have sbh12 := szR_b qh12 (by omega) (by first | assumption | omega)
  try have snh12 := szR_no qh12
  refine WC.r1 hs10 [] rfl (WC.ret (tkR ?_))
  clear hK11
  refine rtv rfl rfl hs10 ?_
  simp only [totState, StateR.dat] at *; first | (rw [szR_lt (by omega)]; done) | (refine congrArg (Value.int _) ?_; symm; refine (szR_le ?_).trans ?_ <;> omega) | rfl
 try have soh12 := szR_ok qh12 (by omega)
 try have sbh12 := szR_b qh12 (by omega) (by first | assumption | omega)
 try have snh12 := szR_no qh12
 refine WC.skip (hK11 _ _ (WC.r1 hs10 [] rfl (WC.ret (rtv rfl rfl hs10 ?_))))
 simp only [totState, StateR.dat] at *; first | (rw [szR_lt (by omega)]; done) | (refine congrArg (Value.int _) ?_; symm; refine (szR_le ?_).trans ?_ <;> omega) | rfl
set_option maxHeartbeats 4000000 in
theorem k150_ (a : StateR) (w : World) (f_a : okStateR 549755813888 w a) :
    Calls Tryz.prog 13 #[.agg #[i64 a.W, i64 a.H, i64 a.Limit, i64 a.Next, .slice a.Panes.A a.Panes.n a.Panes.c, .slice a.Wins.A a.Wins.n a.Wins.c, .slice a.Sess.A a.Sess.n a.Sess.c]] w fun e w' => ∃ r L1, e = .returned (.agg #[i64 r.W, i64 r.H, i64 r.Limit, i64 r.Next, .slice r.Panes.A r.Panes.n r.Panes.c, .slice r.Wins.A r.Wins.n r.Wins.c, .slice r.Sess.A r.Sess.n r.Sess.c]) ∧ St w [] L1 w' ∧ ownStateR r L1 ∧ r.dat = a.dat := by
 have nb_a_Panes := f_a.Panes_n
 have nl_a_Panes := f_a.Panes.sl.len
 have nb_a_Wins := f_a.Wins_n
 have nl_a_Wins := f_a.Wins.sl.len
 have nb_a_Sess := f_a.Sess_n
 have nl_a_Sess := f_a.Sess.sl.len
 refine enter 29 Tryz.func13 rfl Tryz.ntmps13 rfl rfl ?_
 have hs1 := St.init w
 refine WC.sr (WL.bx hs1 rfl (fun b2 _ hs3 => WL.al hs3 Tryz.zeroValue33 rfl rfl (fun b4 _ hs5 => WL.nil (WC.sr (WL.al hs5 Tryz.zeroValue33 rfl rfl (fun b6 _ hs7 => WL.nil (WC.sr ?_)))))))
 refine WL.r 3 hs7 [2] rfl (WL.st tbk hs7 0 rfl rfl (fun _ hs8 => WL.nil (WC.sr (WL.r 3 hs8 [2] rfl (WL.st tbk hs8 0 rfl rfl (fun _ hs9 => WL.nil (WC.sr ?_)))))))
 refine WL.r 3 hs9 [2] rfl (WL.st tbk hs9 0 rfl rfl (fun _ hs10 => WL.nil (WC.sr (WL.r 3 hs10 [2] rfl (WL.st tbk hs10 0 rfl rfl (fun _ hs11 => WL.nil (WC.sr ?_)))))))
 refine WL.r 2 hs11 [2] rfl (WL.cl Tryz.call41 rfl (k95_ _ _ _ _ _ (SlN.st0 okPaneR.st0 f_a.Panes hs11) ?_) ?_)
 · first | assumption | rfl | omega
 rintro _ whs12 ⟨A13, c14, xs15, L1_16, rfl, hs12, ho17, hd18⟩
 replace hs12 := hs11.callF hs12
 refine ⟨_, rfl, ?_⟩
 replace hs12 := St.back [_, _, _] hs12
 refine WL.r 1 hs12 [] rfl (WL.st tbk hs12 0 rfl rfl (fun _ hs19 => WL.nil (WC.sr (WL.r 2 hs19 [2] rfl ?_))))
 refine WL.cl Tryz.call42 rfl (k97_ _ _ _ _ _ (SlN.st0 okWinR.st0 f_a.Wins hs19) ?_) ?_
 · first | assumption | rfl | omega
 rintro _ whs20 ⟨A21, c22, xs23, L1_24, rfl, hs20, ho25, hd26⟩
 replace hs20 := hs19.callF hs20
 refine ⟨_, rfl, ?_⟩
 replace hs20 := St.back [_, _, _] hs20
 refine WL.r 1 hs20 [] rfl (WL.st tbk hs20 0 rfl rfl (fun _ hs27 => WL.nil (WC.sr (WL.r 2 hs27 [2] rfl ?_))))
 refine WL.cl Tryz.call43 rfl (k99_ _ _ _ _ _ (SlN.st0 okSessR.st0 f_a.Sess hs27) ?_) ?_
 · first | assumption | rfl | omega
 rintro _ whs28 ⟨A29, c30, xs31, L1_32, rfl, hs28, ho33, hd34⟩
 replace hs28 := hs27.callF hs28
 refine ⟨_, rfl, ?_⟩
 replace hs28 := St.back [_, _, _] hs28
 refine WL.r 1 hs28 [] rfl (WL.st tbk hs28 0 rfl rfl (fun _ hs35 => WL.nil (WC.sr (WL.r 1 hs35 [0] rfl (WL.st tbk hs35 1 rfl rfl (fun _ hs36 => WL.nil (WC.ret ?_)))))))
 refine retV1 rfl (resV.cellA tbk hs36 1 rfl rfl rfl rfl) ?_
 obtain ⟨L38, hs37, ho39⟩ := ownStateR.fl hs36 ho17 ho25 ho33
 have hs40 := (((hs37.fb b2).fb b4).fb b6)
 refine ⟨⟨a.W, a.H, a.Limit, a.Next, SlD.ofN ho17, SlD.ofN ho25, SlD.ofN ho33⟩, _, rfl, (St.keep1 (hs40.fr L38)), ?_, ?_⟩
 · exact (by exact ho39)
 · exact StateD.ext' rfl rfl rfl rfl hd18 hd26 hd34
set_option maxHeartbeats 4000000 in
set_option maxRecDepth 10000 in
theorem k151_ (s : StateR) (w : World) (f_s : okStateR 549755813888 w s) (hT : totState s.dat ≤ 1048576) :
    Calls Tryz.prog 30 #[.agg #[i64 s.W, i64 s.H, i64 s.Limit, i64 s.Next, .slice s.Panes.A s.Panes.n s.Panes.c, .slice s.Wins.A s.Wins.n s.Wins.c, .slice s.Sess.A s.Sess.n s.Sess.c]] w fun e w' => ∃ r L1, e = .returned (.agg #[i64 r.W, i64 r.H, i64 r.Limit, i64 r.Next, .slice r.Panes.A r.Panes.n r.Panes.c, .slice r.Wins.A r.Wins.n r.Wins.c, .slice r.Sess.A r.Sess.n r.Sess.c]) ∧ St w [] L1 w' ∧ ownStateR r L1 ∧ r.dat = fitD s.dat := by
 have nb_s_Panes := f_s.Panes_n
 have nl_s_Panes := f_s.Panes.sl.len
 have nb_s_Wins := f_s.Wins_n
 have nl_s_Wins := f_s.Wins.sl.len
 have nb_s_Sess := f_s.Sess_n
 have nl_s_Sess := f_s.Sess.sl.len
 have hsm0 : smState 1048576 s.dat := totState_sm hT
 have hsmB : smState 549755813888 s.dat := totState_sm (by omega)
 have hnl := f_s.Panes.sl.len
 refine enter 66 Tryz.func30 rfl Tryz.ntmps30 rfl rfl ?_
 have hs1 := St.init w
 refine WC.sr (WL.bx hs1 rfl (fun b2 _ hs3 => WL.al hs3 Tryz.zeroValue33 rfl rfl (fun b4 _ hs5 => WL.nil (WC.sr (WL.r 1 hs5 [1] rfl ?_)))))
 refine WL.cl Tryz.call84 rfl (k100_ s _ (okStateR.st0 f_s hs5) ?_) ?_
 · first | assumption | rfl | omega
 rintro _ whs6 ⟨r7, L1_8, rfl, hs6, ho9, hd10⟩
 replace hs6 := hs5.callF hs6
 refine ⟨_, rfl, ?_⟩
 replace hs6 := St.back [_, _] hs6
 have hcp := hd10
 have hpn := (ownStateR.ok (B := 549755813888) ho9 (hs6.ow L1_8) (by rw [hd10]; assumption)).Panes.sl.len
 have hpl : r7.Panes.xs.length = s.Panes.xs.length := by have e9 := congrArg (fun d : StateD => d.Panes.length) hcp; simpa [StateR.dat] using e9
 refine WL.al hs6 Tryz.zeroValue33 rfl rfl (fun b11 _ hs12 => WL.st tbk hs12 0 rfl rfl (fun _ hs13 => WL.nil (WC.seq (fun K14 hK14 => WC.r1 hs13 [0] rfl (WC.block ?_)))))
 have hM19 := (St.grp1 (L1 := L1_8) [_] ((((hs13.fb b2).fb b4).fr L1_8).fb b11))
 refine WC.lV [1, 2, 3, 14] rfl hM19 (fun k_ (a_ : Hp) f => ∃ (i : Nat) (r : StateR) (L17 : Hp), k_ = s.Panes.xs.length - i ∧ a_ = [(b11, .cells (List.toArray [i64 r.W, i64 r.H, i64 r.Limit, i64 r.Next, .slice r.Panes.A r.Panes.n r.Panes.c, .slice r.Wins.A r.Wins.n r.Wins.c, .slice r.Sess.A r.Sess.n r.Sess.c]) 33 (0, 0))] ++ L17 ∧ (i ≤ s.Panes.xs.length) ∧ (r.dat = ({ s.dat with Panes := mpTo (fitP s.dat) i (s.Panes.xs.map PaneR.dat) } : StateD)) ∧ ownStateR r L17 ∧ Sub [(15, .int .i64 i)] f) (((fun (i : Nat) => s.Panes.xs.length - i) (0))) ?_ ?_
 ·refine ⟨0, r7, L1_8, rfl, rfl, ?_, ?_, ho9, ⟨rfl, trivial⟩⟩
  · exact Nat.zero_le _
  · exact hcp
 rintro _ _ f w ⟨i, r, L17, rfl, rfl, p0, p1, ho18, hG⟩ hF hs20
 refine WC.sub _ (hG.app hF) ?_
 clear hG hF
 replace hs20 := St.ungrp1 [_] hs20
 have hs21 := (((hs20.fb b2).fb b4).fb b11)
 have hsmr : smState 549755813888 r.dat := by rw [p1]; exact mpFit_sm hsmB
 have hrn := (ownStateR.ok (B := 549755813888) ho18 (hs21.ow L17) hsmr).Panes.sl.len
 have hrp : r.Panes.xs.map PaneR.dat = mpTo (fitP s.dat) i (s.Panes.xs.map PaneR.dat) := congrArg StateD.Panes p1
 have hrl : r.Panes.xs.length = s.Panes.xs.length := by have e9 := congrArg List.length hrp; rw [List.length_map, mpTo_len, List.length_map] at e9; exact e9
 refine WC.r1 hs21 [] rfl (WC.seq (fun K22 hK22 => ?_))
 refine WC.cq rfl (fun h23 qh23 => ?_) (fun h23 qh23 => ?_)
 ·have hY : (gat encPaneR r.Panes.xs i).dat = (gat encPaneR s.Panes.xs i).dat := mp_elt (F := encPaneR) hrp (by omega)
  have hst0 : smTerm 1048576 (gat encPaneR s.Panes.xs i).Term.dat := (hsm0.2.1 _ (List.mem_map_of_mem (gat_mem (show i < s.Panes.xs.length by omega)))).2.2
  have hst1 : smTerm 1048576 (gat encPaneR r.Panes.xs i).Term.dat := by have h9 := congrArg PaneD.Term hY; rw [show (gat encPaneR r.Panes.xs i).Term.dat = (gat encPaneR s.Panes.xs i).Term.dat from h9]; exact hst0
  have hYi : (gat encPaneR r.Panes.xs i).Id = (gat encPaneR s.Panes.xs i).Id := congrArg PaneD.Id hY
  have hYt : (gat encPaneR r.Panes.xs i).Term.dat = (gat encPaneR s.Panes.xs i).Term.dat := congrArg PaneD.Term hY
  refine WC.skip (hK22 _ _ (WC.seq (fun K24 hK24 => WC.block (WC.r1 hs21 [] rfl (WC.sr (WL.r 3 hs21 [0] rfl ?_))))))
  refine WL.val rfl rfl rfl (Run.idxN Tryz.runUnderlying29 Tryz.sizeOf93 rfl rfl rfl ?_ ?_ ?_) ?_
  · exact SlF.some_ (ownStateR.ok (B := 549755813888) ho18 (hs21.ow L17) hsmr).Panes.sl
  · first | omega | (try simp only [List.length_set]; omega)
  · first | omega | (try simp only [List.length_set]; omega)
  refine WL.r 1 hs21 [] rfl (WL.nil (WC.sq1 hs21 (WQ.r 3 [2] rfl ?_)))
  refine WQ.val rfl rfl rfl (fun w_ hs_ => (Run.fieldO Tryz.runUnderlying93 rfl rfl rfl Tryz.sizeOf3 rfl)) ?_
  refine WQ.val rfl rfl rfl (fun w_ hs_ => (Run.load Tryz.isAgg3 rfl rfl (SlF.fld (ownStateR.ok (B := 549755813888) ho18 ((hs_ : St _ _ _ _).ow L17) hsmr).Panes.sl ?_ rfl))) ?_
  · first | omega | (try simp only [List.length_set]; omega)
  refine WQ.call rfl rfl rfl (fun w_ hs_ => (Run.call Tryz.call17 rfl rfl rfl)) (fun w_ hs_ => (k130_ s _ _ (okStateR.st0 f_s (hs_ : St _ _ _ _)) ?_).mono fun e_ w_ h_ => ⟨h_.1, (hs_ : St _ _ _ _).call0 h_.2⟩) ?_
  · first | assumption | rfl | omega
  refine WQ.r 5 [] rfl (WQ.nil (fun _ (hs25 : St _ _ _ _) => WC.seq (fun K26 hK26 => WC.sr (WL.r 2 hs25 [] rfl (WL.val rfl rfl rfl (Run.fieldO Tryz.runUnderlying93 rfl rfl rfl Tryz.sizeOf91 rfl) (WL.val rfl rfl rfl (Run.fieldE Tryz.runUnderlying91 rfl rfl rfl Tryz.sizeOf89 rfl) (WL.val rfl rfl rfl (Run.fieldE Tryz.runUnderlying89 rfl rfl rfl Tryz.sizeOf3 rfl) ?_)))))))
  refine WL.val rfl rfl rfl (Run.load Tryz.isAgg3 rfl rfl (SlF.fld (ownStateR.ok (B := 549755813888) ho18 (hs25.ow L17) hsmr).Panes.sl ?_ rfl)) ?_
  · first | omega | (try simp only [List.length_set]; omega)
  refine WL.r 3 hs25 [] rfl ?_
  apply WL.gA 8 Acts.nil hs25 rfl
  ·intro g27 J28
   have qg27 := g27
   try simp only [bf, within_iff, within_not] at qg27
   refine WL.runA tbk 2 (Acts.nil.cons (j := 8) rfl g27) hs25 [] rfl trivial (WL.val (wantT rfl g27) rfl rfl (Run.fieldO Tryz.runUnderlying93 rfl rfl rfl Tryz.sizeOf91 rfl) (WL.val (wantT rfl g27) rfl rfl (Run.fieldE Tryz.runUnderlying91 rfl rfl rfl Tryz.sizeOf89 rfl) (WL.val (wantT rfl g27) rfl rfl (Run.fieldE Tryz.runUnderlying89 rfl rfl rfl Tryz.sizeOf3 rfl) (WL.val (wantT rfl g27) rfl rfl (Run.load Tryz.isAgg3 rfl rfl (SlF.fld (ownStateR.ok (B := 549755813888) ho18 (hs25.ow L17) hsmr).Panes.sl ?_ rfl)) ?_))))
   · first | omega | (try simp only [List.length_set]; omega)
   refine WL.runA tbk 2 (Acts.nil.cons (j := 8) rfl g27) hs25 [] rfl trivial (WL.eA 8 Acts.nil J28 hs25 g27 rfl rfl)
  intro _ hs29
  refine WL.nil (WC.cq rfl (fun h30 qh30 => ?_) (fun h30 qh30 => ?_))
  ·have heq0 : (gat encPaneR r.Panes.xs i).Term.S.W = (areaD s.dat (gat encPaneR r.Panes.xs i).Id).1 ∧ (gat encPaneR r.Panes.xs i).Term.S.H = (areaD s.dat (gat encPaneR r.Panes.xs i).Id).2 := by have h9 := h30; simpa using h9
   have heq : (gat encPaneR r.Panes.xs i).dat.Term.S.W = (areaD s.dat (gat encPaneR r.Panes.xs i).dat.Id).1 ∧ (gat encPaneR r.Panes.xs i).dat.Term.S.H = (areaD s.dat (gat encPaneR r.Panes.xs i).dat.Id).2 := heq0
   refine WC.exit (hK24 _ _ (WC.region (WL.r 2 hs29 [] rfl (WL.nil (tkN ?_)))))
   have hF31 := (St.grp1 (L1 := L17) [_] ((((hs29.fb b2).fb b4).fr L17).fb b11))
   refine ⟨sbF rfl, _, hF31, _, ?_, i + 1, r, L17, rfl, rfl, ?_, ?_, ho18, ⟨rfl, trivial⟩⟩
   · omega
   · omega
   · have hpp : r.Panes.xs.map PaneR.dat = mpTo (fitP s.dat) (i + 1) (s.Panes.xs.map PaneR.dat) := mp_same (F := encPaneR) hrp (by omega) (by rw [← hY]; unfold fitP; exact if_pos heq)
     exact StateD.ext' (by have h9 := congrArg StateD.W p1; exact h9) (by have h9 := congrArg StateD.H p1; exact h9) (by have h9 := congrArg StateD.Limit p1; exact h9) (by have h9 := congrArg StateD.Next p1; exact h9) hpp (by have h9 := congrArg StateD.Wins p1; exact h9) (by have h9 := congrArg StateD.Sess p1; exact h9)
  have hne0 : ¬ ((gat encPaneR r.Panes.xs i).Term.S.W = (areaD s.dat (gat encPaneR r.Panes.xs i).Id).1 ∧ (gat encPaneR r.Panes.xs i).Term.S.H = (areaD s.dat (gat encPaneR r.Panes.xs i).Id).2) := by have h9 := h30; simpa using h9
  have hne : ¬ ((gat encPaneR r.Panes.xs i).dat.Term.S.W = (areaD s.dat (gat encPaneR r.Panes.xs i).dat.Id).1 ∧ (gat encPaneR r.Panes.xs i).dat.Term.S.H = (areaD s.dat (gat encPaneR r.Panes.xs i).dat.Id).2) := hne0
  refine WC.skip (hK26 _ _ (WC.sr (WL.r 2 hs29 [] rfl (WL.val rfl rfl rfl (Run.fieldO Tryz.runUnderlying93 rfl rfl rfl Tryz.sizeOf91 rfl) ?_))))
  refine WL.val rfl rfl rfl (Run.loadA Tryz.isAgg91 Tryz.sizeOf91 rfl rfl (SlF.part (ownStateR.ok (B := 549755813888) ho18 (hs29.ow L17) hsmr).Panes.sl ?_ rfl rfl)) ?_
  · first | omega | (try simp only [List.length_set]; omega)
  refine WL.r 2 hs29 [] rfl ?_
  refine WL.cl Tryz.call85 rfl (k148_ (gat encPaneR r.Panes.xs i).Term _ _ _ (SlN.nth (ownStateR.ok (B := 549755813888) ho18 (hs29.ow L17) hsmr).Panes (by first | omega | (try simp only [List.length_set]; omega))).Term ?_) ?_
  · first | assumption | rfl | omega
  rintro _ whs32 ⟨r0_33, L0_34, rfl, hs32, ho35, hd0_36⟩
  replace hs32 := hs29.callF hs32
  refine ⟨_, rfl, ?_⟩
  replace hs32 := St.back [_, _, _] hs32
  refine WL.r 1 hs32 [] rfl ?_
  have hsz := hd0_36
  refine WL.r 2 hs32 [] rfl (WL.al hs32 Tryz.zeroValue91 rfl rfl (fun b37 _ hs38 => WL.st tbk hs38 0 rfl rfl (fun _ hs39 => WL.r 1 hs39 [] rfl (WL.nil (WC.r1 hs39 [] rfl ?_)))))
  refine WC.cq rfl (fun h40 qh40 => ?_) (fun h40 qh40 => ?_)
  ·have hkk : termSizeOk (gat encPaneR r.Panes.xs i).dat.Term (areaD s.dat (gat encPaneR r.Panes.xs i).dat.Id).1 (areaD s.dat (gat encPaneR r.Panes.xs i).dat.Id).2 = true := h40
   refine WC.region (WL.r 3 hs39 [0] rfl (WL.val rfl rfl rfl (Run.fieldO Tryz.runUnderlying93 rfl rfl rfl Tryz.sizeOf91 rfl) ?_))
   obtain ⟨L41, L42, L43, hs47, ho44, ho45, ho46⟩ := ownStateR.op hs39 ho18
   have hs48 := ((((hs47.fb b2).fb b4).fb b11).fb b37)
   obtain ⟨L49, L50, hs53, ho51, ho52⟩ := OwnN.open_ (hs48.fr L41) ho44
   have hs54 := ((((hs53.fb b2).fb b4).fb b11).fb b37)
   refine WL.storeF (x' := ({ (gat encPaneR r.Panes.xs i) with Term := r0_33 } : PaneR)) (hs54.fr L49) ho51 Tryz.sizeOf91 rfl rfl rfl rfl rfl rfl rfl rfl rfl ?_ rfl (fun L55 whs56 hs56 ho57 _ => ?_)
   · first | omega | (try simp only [List.length_set]; omega)
   replace hs56 := St.back [_, _, _, _] hs56
   obtain ⟨L58, hs60, hb59⟩ := Bag.replace (r := ({ (gat encPaneR r.Panes.xs i) with Term := r0_33 } : PaneR)) (i := i) ((hs56.fr L0_34).fr L50) ho52 (by first | omega | (try simp only [List.length_set]; omega)) (by exact ho35)
   have hs61 := ((((hs60.fb b2).fb b4).fb b11).fb b37)
   refine WL.nil (hK24 _ _ (WC.region (WL.r 2 hs61 [] rfl (WL.nil (tkN ?_)))))
   obtain ⟨L63, hs62, ho64⟩ := OwnN.fold ((hs61.fr L58).fr L55) ho57 hb59
   have hs65 := ((((hs62.fb b2).fb b4).fb b11).fb b37)
   obtain ⟨L67, hs66, ho68⟩ := ownStateR.fl hs65 ho64 ho45 ho46
   have hs69 := ((((hs66.fb b2).fb b4).fb b11).fb b37)
   replace hs69 := hs69.d1
   have hF70 := (St.grp1 (L1 := L67) [_] ((((hs69.fb b2).fb b4).fr L67).fb b11))
   refine ⟨sbF rfl, _, hF70, _, ?_, i + 1, ⟨r.W, r.H, r.Limit, r.Next, SlD.ofN ho64, SlD.ofN ho45, SlD.ofN ho46⟩, L67, rfl, rfl, ?_, ?_, (by exact ho68), ⟨rfl, trivial⟩⟩
   · omega
   · omega
   · have hpp : (r.Panes.xs.set i ({ (gat encPaneR r.Panes.xs i) with Term := r0_33 } : PaneR)).map PaneR.dat = mpTo (fitP s.dat) (i + 1) (s.Panes.xs.map PaneR.dat) := mp_set (F := encPaneR) hrp (by omega) (by rw [← hY]; unfold fitP; rw [if_neg hne, if_pos hkk]; exact congrArg (fun t : TermD => ({ (gat encPaneR r.Panes.xs i).dat with Term := t } : PaneD)) hsz)
     exact StateD.ext' (by have h9 := congrArg StateD.W p1; exact h9) (by have h9 := congrArg StateD.H p1; exact h9) (by have h9 := congrArg StateD.Limit p1; exact h9) (by have h9 := congrArg StateD.Next p1; exact h9) hpp (by have h9 := congrArg StateD.Wins p1; exact h9) (by have h9 := congrArg StateD.Sess p1; exact h9)
  have hkk : termSizeOk (gat encPaneR r.Panes.xs i).dat.Term (areaD s.dat (gat encPaneR r.Panes.xs i).dat.Id).1 (areaD s.dat (gat encPaneR r.Panes.xs i).dat.Id).2 = false := h40
  refine WC.skip (hK24 _ _ (WC.region (WL.r 2 hs39 [] rfl (WL.nil (tkN ?_)))))
  replace hs39 := (hs39.d1.rm L0_34)
  have hF71 := (St.grp1 (L1 := L17) [_] ((((hs39.fb b2).fb b4).fr L17).fb b11))
  refine ⟨sbF rfl, _, hF71, _, ?_, i + 1, r, L17, rfl, rfl, ?_, ?_, ho18, ⟨rfl, trivial⟩⟩
  · omega
  · omega
  · have hpp : r.Panes.xs.map PaneR.dat = mpTo (fitP s.dat) (i + 1) (s.Panes.xs.map PaneR.dat) := mp_same (F := encPaneR) hrp (by omega) (by rw [← hY]; unfold fitP; rw [if_neg hne, if_neg (by rw [hkk]; decide)])
    exact StateD.ext' (by have h9 := congrArg StateD.W p1; exact h9) (by have h9 := congrArg StateD.H p1; exact h9) (by have h9 := congrArg StateD.Limit p1; exact h9) (by have h9 := congrArg StateD.Next p1; exact h9) hpp (by have h9 := congrArg StateD.Wins p1; exact h9) (by have h9 := congrArg StateD.Sess p1; exact h9)
 refine WC.exit (hK14 _ _ (WC.sr (WL.r 1 hs21 [0] rfl (WL.st tbk hs21 1 rfl rfl (fun _ hs72 => WL.nil (WC.ret (retV1 rfl (resV.cellA tbk hs72 1 rfl rfl rfl rfl) ?_)))))))
 refine ⟨r, _, rfl, (St.keep1 (hs72.fr L17)), ?_, ?_⟩
 · exact ho18
 · rw [p1, mpTo_full (by rw [List.length_map]; omega)]; rfl
theorem k152_ (s : ScrR) (L_s : Hp) (y : Nat) (w : World) (o_s : ownScrR s L_s) (h_s : Hh w L_s) (hd_ : ((L_s).map (·.1)).Nodup) (hm : gridOk s.Main.dat = true) (hW : s.W = s.Main.W) (hlim : 0 ≤ s.Limit ∧ s.Limit ≤ 1048576) (hb : (s.Back.xs.length : Int) ≤ s.Limit) (hn : (y : Int) < s.Main.H) (hsmB : smScr 549755813888 s.dat) :
    Calls Tryz.prog 188 #[.agg (cScr s).toArray, .int .i64 y] w fun e w' => ∃ r L1, e = .returned (.agg (cScr r).toArray) ∧ St w ((L_s).map (·.1)) L1 w' ∧ ownScrR r L1 ∧ r.dat = keepOne s.dat y := by
 have hgb : (1 ≤ s.Main.W ∧ s.Main.W ≤ 120) ∧ (1 ≤ s.Main.H ∧ s.Main.H ≤ 120) ∧ 1 ≤ s.Main.W * s.Main.H ∧ s.Main.W * s.Main.H ≤ 4000 := gridOk_bnd hm
 have hgl : (s.Main.Cells.xs.length : Int) = s.Main.W * s.Main.H := by have h_ := hm; unfold gridOk at h_; rw [Bool.and_eq_true, Bool.and_eq_true, decide_eq_true_eq] at h_; exact h_.1.2
 obtain ⟨⟨hrn1, hrn2⟩, _, _, hrn3, hrn4⟩ := ownScrR.lens o_s
 have hv0 : 0 ≤ (y : Int) * s.W := Int.mul_nonneg (by omega) (by omega)
 have hv1 : ((y : Int) + 1) * s.W = (y : Int) * s.W + s.W := by rw [Int.add_mul, Int.one_mul]
 have hv2 : ((y : Int) + 1) * s.W ≤ s.Main.H * s.Main.W := by rw [hW]; exact Int.mul_le_mul_of_nonneg_right (by omega) (by omega)
 rw [Int.mul_comm s.Main.H] at hv2
 have hrow : (RowD.mk ((s.Main.Cells.xs.drop ((y : Int) * s.W).toNat).take ((((y : Int) * s.W) + s.W).toNat - ((y : Int) * s.W).toNat))) = rowAt s.dat.Main y := by
   have e1 : ((y : Int) * s.W).toNat = y * s.Main.W.toNat := by rw [hW]; exact toNat_mul_nat (by omega)
   have e2 : (((y : Int) * s.W) + s.W).toNat - y * s.Main.W.toNat = s.Main.W.toNat := by rw [← e1]; omega
   rw [e1, e2]; rfl
 refine enter 45 Tryz.func188 rfl Tryz.ntmps188 rfl rfl ?_
 have hs1 := St.takes1 w L_s h_s hd_
 refine WC.sr (WL.bx hs1 rfl (fun b2 _ hs3 => WL.al hs3 Tryz.zeroValue89 rfl rfl (fun b4 _ hs5 => WL.nil (WC.seq (fun K6 hK6 => WC.rG 23 ((hs5.fb b2).d1.rm L_s) (hs5.rm L_s) hs5 (fun _ hs7 => ?_))))))
 refine WG.rn [0, 1, 3, 4, 5, 6, 7, 8, 9, 10, 11, 12, 13, 14, 15, 16] (hs7.rm L_s) [1, 1, 1, 1, 1] rfl rfl ?_ (hS := ⟨by (first | omega | (simp only [List.length_append, List.length_singleton] at *; omega)), rfl, by (first | omega | (simp only [List.length_append, List.length_singleton] at *; omega)), rfl, by (first | omega | (simp only [List.length_append, List.length_singleton] at *; omega)), rfl, rfl, rfl, trivial⟩)
 refine WG.tk 17 rfl (by kernel_rfl) rfl rfl rfl (hs7.rm L_s) (fun w_ hs_ => (Run.sliceLH (((y : Int) * s.W).toNat) (((y : Int) * s.W + s.W).toNat) Tryz.runUnderlying74 Tryz.sizeOf164 rfl rfl rfl rfl ?_ ?_ ?_)) ?_
 · first | rfl | (first | omega | (simp only [List.length_append, List.length_singleton] at *; omega))
 · first | rfl | (first | omega | (simp only [List.length_append, List.length_singleton] at *; omega))
 · refine ⟨?_, ?_, ?_⟩ <;> (first | omega | (simp only [List.length_append, List.length_singleton] at *; omega))
 refine WG.o1 2 rfl rfl (WL.buildF (F := encCell) hs7 ([]) Tryz.runUnderlying74 Tryz.sizeOf164 Tryz.zeroValue164 rfl rfl rfl rfl rfl rfl rfl rfl rfl rfl rfl rfl (fun A11 c12 L8 whs9 hs9 ho10 => ?_))
 replace hs9 := St.back [_, _] hs9
 refine WL.nil ⟨((hs9.rm L8).rm L_s), WG.o1 18 rfl rfl ?_⟩
 refine WL.appendG (hs9.fr L8) ho10 (SlF.src (SlF.cutC (lo := ((y : Int) * s.W).toNat) (hi := ((y : Int) * s.W + s.W).toNat) (ownScrR.ok (B := 549755813888) o_s (hs9.ow L_s) (by assumption)).Main.Cells (by refine ⟨?_, ?_, ?_⟩ <;> (first | omega | (simp only [List.length_append, List.length_singleton] at *; omega)))) Tryz.underlying74) Tryz.underlying74 inf164 rfl rfl rfl rfl rfl rfl rfl rfl rfl rfl ?_ (fun A16 c17 L13 whs14 hs14 ho15 => ?_)
 · (try simp only [List.length_append, List.length_take, List.length_drop, List.length_nil, List.nil_append, List.length_singleton]); omega
 replace hs14 := St.back [_, _] hs14
 refine WL.nil ⟨((hs14.rm L13).rm L_s), ?_⟩
 refine WG.tk 19 rfl (by kernel_rfl) rfl rfl rfl ((hs14.rm L13).rm L_s) (fun w_ hs_ => (Run.build rfl rfl rfl rfl (built_181_0 _ _ _))) ?_
 refine WG.o1 20 rfl rfl (WL.buildSlice hs14 Tryz.runUnderlying87 Tryz.sizeOf181 Tryz.zeroValue181 rfl rfl rfl rfl rfl rfl rfl rfl rfl rfl (fun b18 whs19 hs19 => WL.nil ⟨((hs19.d1.rm L13).rm L_s), WG.o1 21 rfl rfl ?_⟩))
 obtain ⟨L20, L21, L22, L23, hs28, ho24, ho25, ho26, ho27⟩ := ownScrR.op hs19 o_s
 have hs29 := (((hs28.fb b2).fb b4).fb b18)
 obtain ⟨L30, L31, hs34, ho32, ho33⟩ := OwnN.open_ (hs29.fr L23) ho27
 have hs35 := (((hs34.fb b2).fb b4).fb b18)
 refine WL.appendG (hs35.fr L30) ho32 (srcF (F := encRowR) (ys := [(⟨SlD.of ho15⟩ : RowR)]) Tryz.underlying87 rfl rfl (hs35.own _ (nthL_mem (i := 0) rfl)).1) Tryz.underlying87 inf181 rfl rfl rfl rfl rfl rfl rfl rfl rfl rfl ?_ (fun A39 c40 L36 whs37 hs37 ho38 => ?_)
 · (try simp only [List.length_append, List.length_take, List.length_drop, List.length_nil, List.nil_append, List.length_singleton]); omega
 replace hs37 := St.back [_, _, _] hs37
 obtain ⟨L41, hs42, hb43⟩ := Bag.put (x := (⟨SlD.of ho15⟩ : RowR)) ((hs37.fr L13).fr L31) ho33 ho15
 have hs44 := (((hs42.fb b2).fb b4).fb b18)
 obtain ⟨L46, hs45, ho47⟩ := OwnN.fold ((hs44.fr L41).fr L36) ho38 hb43
 have hs48 := (((hs45.fb b2).fb b4).fb b18)
 refine WL.nil ⟨((((hs48.d1.rm L46).rm L20).rm L21).rm L22), WG.rn [22] ((((hs48.d1.rm L46).rm L20).rm L21).rm L22) [] rfl rfl (WG.oK rfl (WL.st tbk hs48 2 rfl rfl (fun _ hs49 => WL.nil ⟨(((((hs49.d1.fb b2).d1.rm L46).rm L20).rm L21).rm L22), WH.dn (hK6 _ _ (WC.seq (fun K50 hK50 => ?_)))⟩)))⟩
 refine WC.r1 hs49 [2, 2] rfl (WC.cD rfl (fun qh51 => ?_) (fun qh51 => ?_))
 ·refine WC.region ?_
  refine WL.run tbk 8 hs49 [2, 2, 2] rfl ⟨by first | omega | (simp only [List.length_append, List.length_singleton] at *; omega), rfl, rfl, rfl, trivial⟩ ?_
  have hcN := OwnN.cap ho47
  have hlN := OwnN.len_ ho47
  refine WL.val rfl rfl rfl (Run.sliceL (s.Back.xs.length + 1 - s.Limit.toNat) Tryz.runUnderlying87 Tryz.sizeOf181 rfl rfl rfl ?_ ?_) ?_
  · first | omega | (simp only [List.length_append, List.length_singleton] at *; omega)
  · refine ⟨?_, ?_, ?_⟩ <;> (first | omega | (simp only [List.length_append, List.length_singleton] at *; omega))
  obtain ⟨L52, hs53, ho54⟩ := OwnN.dropE (k := s.Back.xs.length + 1 - s.Limit.toNat) ho47 (by first | omega | (simp only [List.length_append, List.length_singleton] at *; omega)) (hs49.fr L46)
  have hs55 := (((hs53.fb b2).fb b4).fb b18)
  refine WL.r 1 hs55 [] rfl (WL.st tbk hs55 2 rfl rfl (fun _ hs56 => WL.nil (hK50 _ _ (WC.sr (WL.r 1 hs56 [2] rfl (WL.st tbk hs56 1 rfl rfl (fun _ hs57 => WL.nil ?_)))))))
  refine WC.ret (retV1 rfl (resV.cellA tbk hs57 1 rfl rfl rfl rfl) ?_)
  obtain ⟨L59, hs58, ho60⟩ := ownScrR.fl hs57 ho24 ho25 ho26 ho54
  have hs61 := (((hs58.fb b2).fb b4).fb b18)
  refine ownScrR.ret rfl (St.keep1 (hs61.fr L59)) ho60 ?_
  · rw [← keepOne_drop (k := s.Back.xs.length + 1 - s.Limit.toNat) (by show _ = (s.Back.xs.map RowR.dat).length + 1 - s.Limit.toNat; rw [List.length_map]), ← hrow]; simp only [ScrR.dat, List.map_drop, List.map_append]; rfl
 refine WC.skip (hK50 _ _ (WC.sr (WL.r 1 hs49 [2] rfl (WL.st tbk hs49 1 rfl rfl (fun _ hs62 => WL.nil (WC.ret (retV1 rfl (resV.cellA tbk hs62 1 rfl rfl rfl rfl) ?_)))))))
 obtain ⟨L64, hs63, ho65⟩ := ownScrR.fl hs62 ho24 ho25 ho26 ho47
 have hs66 := (((hs63.fb b2).fb b4).fb b18)
 refine ownScrR.ret rfl (St.keep1 (hs66.fr L64)) ho65 ?_
 · rw [← keepOne_all (by have h9 := qh51; simp only [List.length_append, List.length_singleton] at h9; show (s.Back.xs.map RowR.dat).length + 1 ≤ s.Limit.toNat; rw [List.length_map]; omega), ← hrow]; simp only [ScrR.dat, List.map_append]; rfl
theorem k153_ (g : GridR) (h : GridR) (x : Int) (y : Int) (w : World) (f_g : okGridR 549755813888 w g) (f_h : okGridR 549755813888 w h) (hg : gridOk g.dat = true) (hh : gridOk h.dat = true) (hx : -100000 ≤ x ∧ x ≤ 100000) (hy : -100000 ≤ y ∧ y ≤ 100000) :
    Calls Tryz.prog 189 #[.agg #[i64 g.W, i64 g.H, .slice g.Cells.A g.Cells.n g.Cells.c], .agg #[i64 h.W, i64 h.H, .slice h.Cells.A h.Cells.n h.Cells.c], i64 x, i64 y] w fun e w' => ∃ r L1, e = .returned (.agg #[i64 r.W, i64 r.H, .slice r.Cells.A r.Cells.n r.Cells.c]) ∧ St w [] L1 w' ∧ ownGridR r L1 ∧ r.dat = gPaste g.dat h.dat x y := by
 have nb_g_Cells := f_g.Cells_n
 have nl_g_Cells := f_g.Cells.len
 have nb_h_Cells := f_h.Cells_n
 have nl_h_Cells := f_h.Cells.len
 have hgb : (1 ≤ g.W ∧ g.W ≤ 120) ∧ (1 ≤ g.H ∧ g.H ≤ 120) ∧ 1 ≤ g.W * g.H ∧ g.W * g.H ≤ 4000 := gridOk_bnd hg
 have hhb : (1 ≤ h.W ∧ h.W ≤ 120) ∧ (1 ≤ h.H ∧ h.H ≤ 120) ∧ 1 ≤ h.W * h.H ∧ h.W * h.H ≤ 4000 := gridOk_bnd hh
 have hgl : (g.Cells.xs.length : Int) = g.W * g.H := by have h_ := hg; unfold gridOk at h_; rw [Bool.and_eq_true, Bool.and_eq_true, decide_eq_true_eq] at h_; exact h_.1.2
 have hhl : (h.Cells.xs.length : Int) = h.W * h.H := by have h_ := hh; unfold gridOk at h_; rw [Bool.and_eq_true, Bool.and_eq_true, decide_eq_true_eq] at h_; exact h_.1.2
 have hsmg : smGrid 1048576 g.dat := by show g.Cells.xs.length ≤ 1048576; omega
 refine enter 85 Tryz.func189 rfl Tryz.ntmps189 rfl rfl ?_
 have hs1 := St.init w
 refine WC.sr (WL.bx hs1 rfl (fun b2 _ hs3 => WL.bx hs3 rfl (fun b4 _ hs5 => WL.al hs5 Tryz.zeroValue76 rfl rfl (fun b6 _ hs7 => WL.nil (WC.seq (fun K8 hK8 => WC.sr (WL.r 1 hs7 [2] rfl ?_)))))))
 refine WL.cl Tryz.call219 rfl (k64_ g _ (okGridR.st0 f_g hs7)) ?_
 rintro _ whs9 ⟨rfl, hs9⟩
 replace hs9 := hs7.call0 hs9
 refine ⟨_, rfl, WL.r 2 hs9 [] rfl ?_⟩
 apply WL.gO 3 Acts.nil hs9 rfl
 ·intro g10 J11
  have qg10 := g10
  try simp only [bf, within_iff, within_not] at qg10
  refine WL.runA tbk 1 (Acts.nil.cons (j := 3) rfl g10) hs9 [1] rfl ⟨rfl, trivial⟩ (WL.call (wantF rfl g10) rfl rfl (Run.call Tryz.call219 rfl rfl rfl) (k64_ h _ (okGridR.st0 f_h hs9)) ?_)
  rintro _ whs12 ⟨rfl, hs12⟩
  replace hs12 := hs9.call0 hs12
  refine ⟨_, rfl, WL.runA tbk 1 (Acts.nil.cons (j := 3) rfl g10) hs12 [] rfl trivial (WL.eO 3 Acts.nil J11 hs12 g10 rfl rfl)⟩
 intro _ hs13
 refine WL.r 1 hs13 [] rfl ?_
 apply WL.gO 3 Acts.nil hs13 rfl
 ·intro g14 J15
  have qg14 := g14
  try simp only [bf, within_iff, within_not] at qg14
  refine WL.runA tbk 1 (Acts.nil.cons (j := 8) rfl g14) hs13 [] rfl trivial (WL.call (wantF rfl g14) rfl rfl (Run.call Tryz.call225 rfl rfl rfl) (k141_ _ _) ?_)
  rintro _ whs16 ⟨rfl, hs16⟩
  replace hs16 := hs13.call0 hs16
  refine ⟨_, rfl, WL.runA tbk 1 (Acts.nil.cons (j := 8) rfl g14) hs16 [] rfl trivial (WL.eO 3 Acts.nil J15 hs16 g14 rfl rfl)⟩
 intro _ hs17
 refine WL.r 1 hs17 [] rfl ?_
 apply WL.gO 3 Acts.nil hs17 rfl
 ·intro g18 J19
  have qg18 := g18
  try simp only [bf, within_iff, within_not] at qg18
  refine WL.runA tbk 1 (Acts.nil.cons (j := 13) rfl g18) hs17 [] rfl trivial (WL.call (wantF rfl g18) rfl rfl (Run.call Tryz.call225 rfl rfl rfl) (k141_ _ _) ?_)
  rintro _ whs20 ⟨rfl, hs20⟩
  replace hs20 := hs17.call0 hs20
  refine ⟨_, rfl, WL.runA tbk 1 (Acts.nil.cons (j := 13) rfl g18) hs20 [] rfl trivial (WL.eO 3 Acts.nil J19 hs20 g18 rfl rfl)⟩
 intro _ hs21
 refine WL.nil (WC.cq rfl (fun h22 qh22 => ?_) (fun h22 qh22 => ?_))
 ·exfalso; have h9 := h22; simp [hg, hh, within] at h9; omega
 refine WC.skip (hK8 _ _ (WC.sr (WL.r 1 hs21 [2] rfl ?_)))
 refine WL.cl Tryz.call224 rfl (k82_ g _ (okGridR.st0 f_g hs21) ?_) ?_
 · first | assumption | rfl | omega | (exact Nat.le_trans hsmg (by decide))
 rintro _ whs23 ⟨r24, L1_25, rfl, hs23, ho26, hd27⟩
 replace hs23 := hs21.callF hs23
 refine ⟨_, rfl, ?_⟩
 replace hs23 := St.back [_, _, _] hs23
 skip
 refine WL.al hs23 Tryz.zeroValue76 rfl rfl (fun b28 _ hs29 => WL.st tbk hs29 0 rfl rfl (fun _ hs30 => WL.nil (WC.seq (fun K31 hK31 => WC.r1 hs30 [2] rfl (WC.block ?_)))))
 have hM36 := (St.grp1 (L1 := L1_25) [_] (((((hs30.fb b2).fb b4).fb b6).fr L1_25).fb b28))
 refine WC.lV [2, 3, 4, 5, 8, 9, 31, 36, 37] rfl hM36 (fun k_ (a_ : Hp) f => ∃ (i : Nat) (r : GridR) (L34 : Hp), k_ = h.Cells.n - i ∧ a_ = [(b28, .cells (List.toArray [i64 r.W, i64 r.H, .slice r.Cells.A r.Cells.n r.Cells.c]) 76 (0, 0))] ++ L34 ∧ (i ≤ h.Cells.n) ∧ (r.W = g.W ∧ r.H = g.H ∧ r.Cells.xs.length = g.Cells.xs.length) ∧ (∀ k, k < g.Cells.xs.length → cat r.Cells.xs k = pasteTo g.dat h.dat x y i k) ∧ ownGridR r L34 ∧ Sub [(38, .int .i64 i)] f) (((fun (i : Nat) => h.Cells.n - i) (0))) ?_ ?_
 ·refine ⟨0, r24, L1_25, rfl, rfl, ?_, ?_, ?_, ho26, ⟨rfl, trivial⟩⟩
  · omega
  · exact ⟨congrArg GridD.W hd27, congrArg GridD.H hd27, congrArg (fun d : GridD => d.Cells.length) hd27⟩
  · intro k hk; rw [pasteTo_zero]; exact congrArg (fun d : GridD => cat d.Cells k) hd27
 rintro _ _ f w ⟨i, r, L34, rfl, rfl, p0, p1, p2, ho35, hG⟩ hF hs37
 refine WC.sub _ (hG.app hF) ?_
 clear hG hF
 replace hs37 := St.ungrp1 [_] hs37
 have hs38 := ((((hs37.fb b2).fb b4).fb b6).fb b28)
 have hsmr : smGrid 549755813888 r.dat := by show r.Cells.xs.length ≤ 549755813888; omega
 have hnr := ownGridR.len ‹ownGridR r _›
 refine WC.r1 hs38 [] rfl (WC.seq (fun K39 hK39 => ?_))
 refine WC.cq rfl (fun h40 qh40 => ?_) (fun h40 qh40 => ?_)
 ·obtain ⟨q, m, hkd, hkm, hiq, hmw, hqh⟩ := divmod_ex (i := i) (w := h.W) (h := h.H) (by omega) (by omega) (by omega)
  have hk0 : ∀ k, k < g.Cells.xs.length → k < g.W.toNat * g.H.toNat := fun k hk => by have e9 : ((g.W.toNat * g.H.toNat : Nat) : Int) = g.W * g.H := by { rw [Int.natCast_mul, Int.toNat_of_nonneg (by omega), Int.toNat_of_nonneg (by omega)] }; omega
  refine WC.skip (hK39 _ _ (WC.seq (fun K41 hK41 => WC.block (WC.sr (WL.r 1 hs38 [] rfl ?_)))))
  refine WL.val rfl rfl rfl (Run.idxN Tryz.runUnderlying74 Tryz.sizeOf164 rfl rfl rfl ?_ ?_ ?_) ?_
  · exact SlF.some_ (SlF.st0 f_h.Cells hs38)
  · first | omega | (rw [hkd, hkm]; omega)
  · first | omega | (rw [hkd, hkm]; omega)
  refine WL.val rfl rfl rfl (Run.loadA Tryz.isAgg164 Tryz.sizeOf164 rfl rfl (SlF.whole (SlF.st0 f_h.Cells hs38) ?_)) ?_
  · first | omega | (rw [hkd, hkm]; omega)
  refine WL.al hs38 Tryz.zeroValue164 rfl rfl (fun b42 _ hs43 => WL.r 1 hs43 [] rfl (WL.st tbk hs43 0 rfl rfl (fun _ hs44 => WL.nil (WC.sr (WL.r 4 hs44 [3] rfl ?_)))))
  refine WL.val rfl rfl rfl (Run.rem rfl rfl rfl ?_ ?_) ?_
  · omega
  · omega
  refine WL.run tbk 2 hs44 [] rfl ⟨?_, trivial⟩ ?_
  · rw [hkm]; constructor <;> omega
  refine WL.nil (WC.sr (WL.r 4 hs44 [3] rfl (WL.val rfl rfl rfl (Run.quo rfl rfl rfl ?_ ?_ ?_) ?_)))
  · omega
  · omega
  · omega
  refine WL.run tbk 2 hs44 [] rfl ⟨?_, trivial⟩ ?_
  · rw [hkd]; constructor <;> omega
  refine WL.nil (WC.sr (WL.r 3 hs44 [] rfl (WL.pA tbk 4 Acts.nil hs44 [4] rfl rfl rfl rfl (fun g_ => ⟨rfl, trivial⟩) (WL.r 1 hs44 [] rfl (WL.pA tbk 2 Acts.nil hs44 [] rfl rfl rfl rfl (fun g_ => trivial) (WL.r 1 hs44 [] rfl (WL.pA tbk 4 Acts.nil hs44 [4] rfl rfl rfl rfl (fun g_ => ⟨rfl, trivial⟩) ?_)))))))
  refine WL.nil (WC.cq rfl (fun h45 qh45 => ?_) (fun h45 qh45 => ?_))
  ·have hin : ((0 ≤ x + (m : Int) ∧ x + (m : Int) < g.W) ∧ 0 ≤ y + (q : Int) ∧ y + (q : Int) < g.H) := by have h9 := h45; simp [hkm, hkd] at h9; omega
   have hix : ((y + (i : Int) / h.W) * g.W + (x + (i : Int) % h.W)).toNat = (y + (q : Int)).toNat * g.dat.W.toNat + (x + (m : Int)).toNat := by rw [hkm, hkd, Int.toNat_add (Int.mul_nonneg hin.2.1 (by omega)) hin.1.1, Int.toNat_mul hin.2.1 (by omega)]; rfl
   have hv0 : 0 ≤ (y + (q : Int)) * g.W := Int.mul_nonneg (by omega) (by omega)
   have hv1 : (y + (q : Int) + 1) * g.W ≤ g.H * g.W := Int.mul_le_mul_of_nonneg_right (by omega) (by omega)
   rw [Int.add_mul _ 1, Int.one_mul, Int.mul_comm g.H g.W] at hv1
   refine WC.region (WL.run tbk 9 hs44 [1, 4, 0] rfl ⟨rfl, ?_, ?_, rfl, rfl, trivial⟩ ?_)
   · rw [hkd, hkm]; constructor <;> omega
   · rw [hkd]; constructor <;> omega
   refine WL.val rfl rfl rfl (Run.idx Tryz.runUnderlying74 Tryz.sizeOf164 rfl rfl rfl ?_ ?_ ?_) ?_
   · exact SlF.some_ (ownGridR.ok (B := 549755813888) ho35 (hs44.ow L34) hsmr).Cells
   · first | omega | (rw [hkd, hkm]; omega)
   · first | omega | (rw [hkd, hkm]; omega)
   refine WL.storeF1 (x' := _) (hs44.fr L34) ho35 Tryz.sizeOf164 rfl rfl rfl rfl rfl rfl rfl rfl rfl ?_ rfl (fun L46 whs47 hs47 ho48 _ => ?_)
   · first | omega | (rw [hkd, hkm]; omega)
   replace hs47 := St.back [_, _, _, _, _] hs47
   refine WL.nil (hK41 _ _ (WC.region (WL.r 2 hs47 [] rfl (WL.nil (tkN ?_)))))
   replace hs47 := hs47.d1
   have hF49 := (St.grp1 (L1 := L46) [_] (((((hs47.fb b2).fb b4).fb b6).fr L46).fb b28))
   refine ⟨sbF rfl, _, hF49, _, ?_, i + 1, ⟨r.W, r.H, SlD.of ho48⟩, L46, rfl, rfl, ?_, ?_, ?_, ho48, ⟨rfl, trivial⟩⟩
   · omega
   · omega
   · first | exact p1 | exact ⟨p1.1, p1.2.1, by simp only [List.length_set]; exact p1.2.2⟩
   · intro k hk; first | (show cat _ k = pasteTo g.dat h.dat x y (i + 1) k; have _ := hin; rw [pasteTo_inE (g := g.dat) (h := h.dat) hiq hmw hqh hin.1 hin.2.1]; show gat encCell (r.Cells.xs.set _ _) k = _; rw [gat_set2 (by rw [hkd, hkm]; omega), hix]; split; rfl; exact p2 k hk) | (show cat _ k = pasteTo g.dat h.dat x y (i + 1) k; rw [pasteTo_outE (g := g.dat) (h := h.dat) hiq hmw (by show 0 < g.W.toNat; omega) (by show k < g.W.toNat * g.H.toNat; exact hk0 k hk) hout]; exact p2 k hk)
  have hout : ¬ ((0 ≤ x + (m : Int) ∧ x + (m : Int) < g.W) ∧ 0 ≤ y + (q : Int) ∧ y + (q : Int) < g.H) := by have h9 := h45; simp [hkm, hkd] at h9; omega
  refine WC.skip (hK41 _ _ (WC.region (WL.r 2 hs44 [] rfl (WL.nil (tkN ?_)))))
  replace hs44 := hs44.d1
  have hF50 := (St.grp1 (L1 := L34) [_] (((((hs44.fb b2).fb b4).fb b6).fr L34).fb b28))
  refine ⟨sbF rfl, _, hF50, _, ?_, i + 1, r, L34, rfl, rfl, ?_, ?_, ?_, ho35, ⟨rfl, trivial⟩⟩
  · omega
  · omega
  · first | exact p1 | exact ⟨p1.1, p1.2.1, by simp only [List.length_set]; exact p1.2.2⟩
  · intro k hk; first | (show cat _ k = pasteTo g.dat h.dat x y (i + 1) k; have _ := hin; rw [pasteTo_inE (g := g.dat) (h := h.dat) hiq hmw hqh hin.1 hin.2.1]; show gat encCell (r.Cells.xs.set _ _) k = _; rw [gat_set2 (by rw [hkd, hkm]; omega), hix]; split; rfl; exact p2 k hk) | (show cat _ k = pasteTo g.dat h.dat x y (i + 1) k; rw [pasteTo_outE (g := g.dat) (h := h.dat) hiq hmw (by show 0 < g.W.toNat; omega) (by show k < g.W.toNat * g.H.toNat; exact hk0 k hk) hout]; exact p2 k hk)
 refine WC.exit (hK31 _ _ (WC.sr (WL.r 1 hs38 [0] rfl (WL.st tbk hs38 1 rfl rfl (fun _ hs51 => WL.nil (WC.ret (retV1 rfl (resV.cellA tbk hs51 1 rfl rfl rfl rfl) ?_)))))))
 refine ⟨r, _, rfl, (St.keep1 (hs51.fr L34)), ?_, ?_⟩
 · exact ho35
 · show GridD.mk r.W r.H r.Cells.xs = _; rw [p1.1, p1.2.1]; unfold gPaste gmap; congr 1; refine ext_gat (F := encCell) (by rw [p1.2.2]; rfl) (fun k hk => ?_); rw [← pasteTo_all (i := i) (by show h.H.toNat * h.W.toNat ≤ _; have e9 : ((h.W.toNat * h.H.toNat : Nat) : Int) = h.W * h.H := by { rw [Int.natCast_mul, Int.toNat_of_nonneg (by omega), Int.toNat_of_nonneg (by omega)] }; rw [Nat.mul_comm h.H.toNat]; omega)]; exact p2 k hk
theorem built_89 : Tryz.prog.built 89 [] = some (List.toArray [.int .i64 0, .int .i64 0, .int .i64 0, .int .i64 0, .slice none 0 0, .int .i64 0, .int .i64 0, .slice none 0 0, .bool false, .int .i64 0, .int .i64 0, .bool false, .int .i64 0, .int .i64 0, .bool false, .bool false, .bool false, .int .i64 0, .int .i64 0, .bool false, .bool false, .int .i64 0, .int .i64 0, .int .i64 0, .int .i64 0, .bool false, .bool false, .bool false, .slice none 0 0, .int .i64 0, .slice none 0 0]) := by kernel_rfl
theorem k154_ (s : ScrR) (w_ : Int) (h_ : Int) (w : World) (f_s : okScrR 549755813888 w s) (hsm : smScr 1048576 s.dat) :
    Calls Tryz.prog 145 #[.agg (cScr s).toArray, i64 w_, i64 h_] w fun e w' => ∃ r0 L0, e = .returned (.tuple #[.agg (cScr r0).toArray, .bool (scrSizeOk s.dat w_ h_)]) ∧ St w [] (L0) w' ∧ ownScrR r0 L0 ∧ r0.dat = scrSizeRes s.dat w_ h_ := by
 have nb_s_Main_Cells := f_s.Main.Cells_n
 have nl_s_Main_Cells := f_s.Main.Cells.len
 have nb_s_Alt_Cells := f_s.Alt.Cells_n
 have nl_s_Alt_Cells := f_s.Alt.Cells.len
 have nb_s_Tabs := f_s.Tabs_n
 have nl_s_Tabs := f_s.Tabs.len
 have nb_s_Back := f_s.Back_n
 have nl_s_Back := f_s.Back.sl.len
 have hsmB : smScr 549755813888 s.dat := smScr_mono hsm (by decide)
 refine enter 99 Tryz.func145 rfl Tryz.ntmps145 rfl rfl ?_
 have hs1 := St.init w
 refine WC.sr (WL.bx hs1 rfl (fun b2 _ hs3 => WL.al hs3 Tryz.zeroValue89 rfl rfl (fun b4 _ hs5 => WL.r 1 hs5 [] rfl (WL.nil (WC.sr (WL.r 2 hs5 [] rfl (WL.cl Tryz.call53 rfl (k133_ _ _ _) ?_)))))))
 rintro _ whs6 ⟨r0_7, L0_8, rfl, hs6, ho9, hd0_10⟩
 replace hs6 := hs5.callF hs6
 refine ⟨_, rfl, ?_⟩
 replace hs6 := St.back [_, _] hs6
 have hgd := hd0_10
 refine WL.r 3 hs6 [] rfl (WL.al hs6 Tryz.zeroValue76 rfl rfl (fun b11 _ hs12 => WL.st tbk hs12 0 rfl rfl (fun _ hs13 => WL.r 1 hs13 [] rfl (WL.nil (WC.seq (fun K14 hK14 => WC.sr (WL.r 1 hs13 [2] rfl ?_)))))))
 refine WL.cl Tryz.call183 rfl (k66_ s _ (okScrR.st0 f_s hs13)) ?_
 rintro _ whs15 ⟨rfl, hs15⟩
 replace hs15 := hs13.call0 hs15
 refine ⟨_, rfl, WL.r 2 hs15 [] rfl (WL.pO tbk 2 Acts.nil hs15 [] rfl rfl rfl rfl (fun g_ => trivial) (WL.nil (WC.cq rfl (fun h16 qh16 => ?_) (fun h16 qh16 => ?_))))⟩
 ·have hk : scrSizeOk s.dat w_ h_ = false := by unfold scrSizeOk; have h9 := h16; revert h9; cases scrOk s.dat <;> cases isSize w_ h_ <;> simp
  refine WC.sr ?_
  refine WL.val rfl rfl rfl (Run.build rfl rfl rfl rfl (built_89)) (WL.st tbk hs15 1 rfl rfl (fun _ hs17 => WL.r 1 hs17 [] rfl (WL.nil (WC.ret (tkR ?_)))))
  clear hK14
  refine retV2 rfl (resV.cellA tbk hs17 1 rfl rfl rfl rfl) (resV.tmp rfl) ?_
  have hv : scrSizeRes s.dat w_ h_ = scr0 := by unfold scrSizeRes; rw [hk]; rfl
  rw [hk]
  obtain ⟨L23, hs22, ho24⟩ := ownScrR.fl hs17 (OwnF.nil _ _) (OwnF.nil _ _) (OwnF.nil _ _) (OwnN.nil _ _ _)
  have hs25 := (((hs22.fb b2).fb b4).fb b11)
  refine ⟨⟨0, 0, ⟨0, 0, ⟨none, 0, 0, []⟩⟩, ⟨0, 0, ⟨none, 0, 0, []⟩⟩, false, 0, 0, false, ⟨0, 0, false, false, false⟩, 0, 0, false, false, 0, 0, ⟨0, 0, false, false, false⟩, ⟨none, 0, 0, []⟩, 0, ⟨none, 0, 0, []⟩⟩, _, rfl, (St.keep1 (hs25.fr L23)), ?_, ?_⟩
  · exact (by exact ho24)
  · rw [hv]; rfl
 have hk : scrSizeOk s.dat w_ h_ = true := by unfold scrSizeOk; have h9 := h16; revert h9; cases scrOk s.dat <;> cases isSize w_ h_ <;> simp
 have hok : scrOk s.dat = true := by unfold scrSizeOk at hk; rw [Bool.and_eq_true] at hk; exact hk.1
 have hs : isSize w_ h_ = true := by unfold scrSizeOk at hk; rw [Bool.and_eq_true] at hk; exact hk.2
 have hgr : gridRes w_ h_ = gridNew w_ h_ := by unfold gridRes; rw [hs]; rfl
 have hgB2 : smGrid 549755813888 (gridRes w_ h_) := by rw [hgr]; exact gridNew_sm hs (by decide)
 obtain ⟨hw1, hh1, hwh, hwh2⟩ := isSize_bnd hs
 obtain ⟨hb1, hb2, hb3, hb4, hb5, hb6⟩ := scrOk_bnd hok
 obtain ⟨hm, hma⟩ := scrOk_main hok
 simp only [ScrR.dat, GridR.dat, List.length_map] at hb1 hb2 hb3 hb4 hb5 hb6
 refine WC.skip (hK14 _ _ (WC.sr (WL.r 1 hs15 [2] rfl ?_)))
 refine WL.cl Tryz.call187 rfl (k83_ s _ (okScrR.st0 f_s hs15) ?_) ?_
 · first | assumption | rfl | omega | (rw [hrM]; assumption) | (rw [hgd, hgr]; exact gridOk_new hs)
 rintro _ whs26 ⟨r27, L1_28, rfl, hs26, ho29, hd30⟩
 replace hs26 := hs15.callF hs26
 refine ⟨_, rfl, ?_⟩
 replace hs26 := St.back [_, _, _] hs26
 have hcp := hd30
 refine WL.al hs26 Tryz.zeroValue89 rfl rfl (fun b31 _ hs32 => WL.st tbk hs32 0 rfl rfl (fun _ hs33 => WL.nil (WC.r1 hs33 [3] rfl (WC.seq (fun K34 hK34 => WC.r1 hs33 [] rfl ?_)))))
 refine WC.cq rfl (fun h35 qh35 => ?_) (fun h35 qh35 => ?_)
 ·have hD : sizeD s.dat h_ = 0 := by unfold sizeD; show max 0 (s.Y - h_ + 1) = 0; omega
  refine WC.region (WL.r 1 hs33 [] rfl (WL.nil (hK34 _ _ (WC.seq (fun K36 hK36 => WC.r1 hs33 [] rfl (WC.block ?_))))))
  have hM41 := (St.grp1 (L1 := L1_28) [_] ((((((hs33.fr L0_8).fb b2).fb b4).fb b11).fr L1_28).fb b31))
  refine WC.lV [1, 2, 3, 6, 7, 8, 10, 11, 25, 35] rfl hM41 (fun k_ (a_ : Hp) f => ∃ (i : Nat) (r : ScrR) (L39 : Hp), k_ = (sizeD s.dat h_).toNat - i ∧ a_ = [(b31, .cells (List.toArray (cScr r)) 89 (0, 0))] ++ L39 ∧ ((i : Int) ≤ sizeD s.dat h_) ∧ (r.dat = keepRows s.dat i) ∧ (s.OnAlt = true → i = 0) ∧ ownScrR r L39 ∧ Sub [(12, .int .i64 i)] f) (((fun (i : Nat) => (sizeD s.dat h_).toNat - i) (0))) ?_ ?_
  ·refine ⟨0, r27, L1_28, rfl, rfl, ?_, ?_, ?_, ho29, ⟨rfl, trivial⟩⟩
   · omega
   · rw [hcp, keepRows_zero (by show ((s.Back.xs.map RowR.dat).length : Int) ≤ s.Limit; rw [List.length_map]; omega)]
   · exact fun _ => rfl
  rintro _ _ f w ⟨i, r, L39, rfl, rfl, p0, p1, p2, ho40, hG⟩ hF hs42
  refine WC.sub _ (hG.app hF) ?_
  clear hG hF
  replace hs42 := St.ungrp1 [_] hs42
  have hs43 := ((((hs42.fb b2).fb b4).fb b11).fb b31)
  have hsmr : smScr 549755813888 r.dat := by rw [p1]; exact keepRows_sm hsmB hm (by decide) (by show s.Limit.toNat ≤ _; omega)
  have hrM : r.Main.dat = s.Main.dat := congrArg ScrD.Main p1
  have hrW : r.W = s.W := congrArg ScrD.W p1
  have hrL : r.Limit = s.Limit := congrArg ScrD.Limit p1
  have hrH : r.Main.H = s.Main.H := congrArg GridD.H hrM
  have hrV : r.Main.W = s.Main.W := congrArg GridD.W hrM
  have hrB : (r.Back.xs.length : Int) ≤ s.Limit := by have h9 := congrArg (fun d : ScrD => d.Back.length) p1; simp only [ScrR.dat, keepRows, lastN_len, List.length_map] at h9; omega
  refine WC.seq (fun K44 hK44 => WC.sr (WL.r 4 hs43 [] rfl (WL.pA tbk 3 Acts.nil hs43 [3] rfl rfl rfl rfl (fun g_ => ⟨rfl, trivial⟩) (WL.nil ?_))))
  refine WC.cq rfl (fun h45 qh45 => ?_) (fun h45 qh45 => ?_)
  ·have hlt : (i : Int) < sizeD s.dat h_ := by have h9 := h45; rw [hD]; simp at h9; omega
   have hon : s.OnAlt = false := by have h9 := h45; simp at h9; exact h9.2
   refine WC.skip (hK44 _ _ (WC.seq (fun K46 hK46 => WC.block (WC.region (WL.r 2 hs43 [0] rfl ?_)))))
   refine WL.cl Tryz.call188 rfl (k152_ r _ _ _ ho40 (hs43.ow L39) (St.nodupL (hs43.fr L39)) ?_ ?_ ?_ ?_ ?_ ?_) ?_
   iterate 6 first | assumption | rfl | omega | (rw [hrM]; assumption) | (rw [hgd, hgr]; exact gridOk_new hs)
   rintro _ whs47 ⟨r48, L1_49, rfl, hs47, ho50, hd51⟩
   replace hs47 := St.lend (hs43.fr L39) hs47
   refine ⟨_, rfl, ?_⟩
   replace hs47 := St.back [_, _, _, _] hs47
   have hkp := hd51
   refine WL.st tbk hs47 0 rfl rfl (fun _ hs52 => WL.nil (hK46 _ _ (WC.region (WL.r 3 hs52 [] rfl (WL.nil (tkN ?_))))))
   have hF53 := (St.grp1 (L1 := L1_49) [_] ((((((hs52.fr L0_8).fb b2).fb b4).fb b11).fr L1_49).fb b31))
   refine ⟨sbF rfl, _, hF53, _, ?_, i + 1, r48, L1_49, rfl, rfl, ?_, ?_, ?_, ho50, ⟨rfl, trivial⟩⟩
   · omega
   · omega
   · rw [hkp, p1]; exact keepOne_succ
   · intro h9; rw [hon] at h9; cases h9
  have h1 : r.dat = scrSize1 s.dat h_ := by
    have h9 := h45
    unfold scrSize1
    rcases Bool.eq_false_or_eq_true s.OnAlt with ho | ho
    · rw [if_pos (show s.dat.OnAlt = true from ho), p1, p2 ho]; exact keepRows_zero (by show ((s.Back.xs.map RowR.dat).length : Int) ≤ s.Limit; rw [List.length_map]; omega)
    · rw [if_neg (show ¬ s.dat.OnAlt = true from by rw [show s.dat.OnAlt = s.OnAlt from rfl, ho]; decide), p1]
      rw [ho] at h9
      simp at h9
      congr 1; omega
  refine WC.exit (hK36 _ _ (WC.sr (WL.r 2 hs43 [] rfl (WL.st tbk hs43 0 rfl rfl (fun _ hs54 => WL.nil (WC.sr (WL.r 2 hs54 [] rfl ?_)))))))
  refine WL.st tbk hs54 0 rfl rfl (fun _ hs55 => WL.nil (WC.sr (WL.r 5 hs55 [1, 3] rfl ?_)))
  refine WL.cl Tryz.call189 rfl (k153_ r0_7 s.Main _ _ _ (ownGridR.ok (B := 549755813888) ho9 (hs55.ow L0_8) (by rw [hd0_10]; assumption)) (okGridR.st0 f_s.Main hs55) ?_ ?_ ?_ ?_) ?_
  iterate 4 first | assumption | rfl | omega | (rw [hrM]; assumption) | (rw [hgd, hgr]; exact gridOk_new hs)
  rintro _ whs56 ⟨r57, L1_58, rfl, hs56, ho59, hd60⟩
  replace hs56 := hs55.callF hs56
  refine ⟨_, rfl, ?_⟩
  replace hs56 := St.back [_, _, _, _] hs56
  have hM1 := hd60
  refine WL.r 1 hs56 [] rfl (WL.st tbk hs56 0 rfl rfl (fun _ hs61 => WL.nil (WC.sr (WL.r 5 hs61 [1, 3] rfl ?_))))
  refine WL.cl Tryz.call189 rfl (k153_ r0_7 s.Alt _ _ _ (ownGridR.ok (B := 549755813888) ho9 (hs61.ow L0_8) (by rw [hd0_10]; assumption)) (okGridR.st0 f_s.Alt hs61) ?_ ?_ ?_ ?_) ?_
  iterate 4 first | assumption | rfl | omega | (rw [hrM]; assumption) | (rw [hgd, hgr]; exact gridOk_new hs)
  rintro _ whs62 ⟨r63, L1_64, rfl, hs62, ho65, hd66⟩
  replace hs62 := hs61.callF hs62
  refine ⟨_, rfl, ?_⟩
  replace hs62 := St.back [_, _, _, _] hs62
  have hA1 := hd66
  refine WL.r 1 hs62 [] rfl (WL.st tbk hs62 0 rfl rfl (fun _ hs67 => WL.nil (WC.sr (WL.r 4 hs67 [3] rfl (WL.cl Tryz.call190 rfl (k142_ _ _ _) ?_)))))
  rintro _ whs68 ⟨rfl, hs68⟩
  replace hs68 := hs67.call0 hs68
  refine ⟨_, rfl, WL.r 1 hs68 [] rfl (WL.st tbk hs68 0 rfl rfl (fun _ hs69 => WL.nil (WC.sr (WL.r 5 hs69 [3] rfl (WL.st tbk hs69 0 rfl rfl (fun _ hs70 => WL.nil ?_))))))⟩
  refine WC.sr (WL.r 1 hs70 [] rfl (WL.st tbk hs70 0 rfl rfl (fun _ hs71 => WL.nil (WC.sr (WL.r 1 hs71 [] rfl (WL.st tbk hs71 0 rfl rfl (fun _ hs72 => WL.nil ?_)))))))
  refine WC.sr (WL.r 3 hs72 [] rfl (WL.st tbk hs72 0 rfl rfl (fun _ hs73 => WL.nil (WC.sr (WL.r 1 hs73 [] rfl ?_)))))
  refine WL.cl Tryz.call191 rfl (k144_ _ _ ?_) ?_
  · first | assumption | rfl | omega | (rw [hrM]; assumption) | (rw [hgd, hgr]; exact gridOk_new hs)
  rintro _ whs74 ⟨A75, c76, L1_77, rfl, hs74, ho78⟩
  replace hs74 := hs73.callF hs74
  refine ⟨_, rfl, ?_⟩
  replace hs74 := St.back [_, _, _, _] hs74
  refine WL.r 1 hs74 [] rfl (WL.st tbk hs74 0 rfl rfl (fun _ hs79 => WL.nil (WC.sr (WL.r 4 hs79 [3] rfl (WL.cl Tryz.call190 rfl (k142_ _ _ _) ?_)))))
  rintro _ whs80 ⟨rfl, hs80⟩
  replace hs80 := hs79.call0 hs80
  refine ⟨_, rfl, WL.r 1 hs80 [] rfl (WL.st tbk hs80 0 rfl rfl (fun _ hs81 => WL.nil (WC.sr (WL.r 4 hs81 [3] rfl (WL.cl Tryz.call190 rfl (k142_ _ _ _) ?_)))))⟩
  rintro _ whs82 ⟨rfl, hs82⟩
  replace hs82 := hs81.call0 hs82
  refine ⟨_, rfl, WL.r 1 hs82 [] rfl (WL.st tbk hs82 0 rfl rfl (fun _ hs83 => WL.nil (WC.sr (WL.r 1 hs83 [0] rfl (WL.st tbk hs83 2 rfl rfl (fun _ hs84 => WL.r 1 hs84 [] rfl ?_))))))⟩
  refine WL.nil (WC.ret (retV2 rfl (resV.cellA tbk hs84 2 rfl rfl rfl rfl) (resV.tmp rfl) ?_))
  have hv : scrSizeRes s.dat w_ h_ = scrSizeOf s.dat w_ h_ := by unfold scrSizeRes; rw [hk]; rfl
  rw [hk]
  obtain ⟨L85, L86, L87, L88, hs93, ho89, ho90, ho91, ho92⟩ := ownScrR.op hs84 ho40
  have hs94 := ((((hs93.fb b2).fb b4).fb b11).fb b31)
  obtain ⟨L96, hs95, ho97⟩ := ownScrR.fl hs94 ho59 ho65 ho78 ho92
  have hs98 := ((((hs95.fb b2).fb b4).fb b11).fb b31)
  refine ⟨⟨w_, h_, ⟨r57.W, r57.H, SlD.of ho59⟩, ⟨r63.W, r63.H, SlD.of ho65⟩, r.OnAlt, _, (s.Y - (0)), false, ⟨r.A.Fg, r.A.Bg, r.A.Bold, r.A.Under, r.A.Turn⟩, (0), (h_ - (1)), r.NoWrap, r.Hide, _, _, ⟨r.SaveA.Fg, r.SaveA.Bg, r.SaveA.Bold, r.SaveA.Under, r.SaveA.Turn⟩, SlD.of ho78, r.Limit, SlD.ofN ho92⟩, _, rfl, (St.keep1 (hs98.fr L96)), ?_, ?_⟩
  · exact (by exact ho97)
  · rw [hv, show scrSizeOf s.dat w_ h_ = { scrSize1 s.dat h_ with W := w_, H := h_, Main := gPaste (gridNew w_ h_) s.dat.Main 0 (-sizeD s.dat h_), Alt := gPaste (gridNew w_ h_) s.dat.Alt 0 (-sizeD s.dat h_), X := min s.dat.X (w_ - 1), Y := s.dat.Y - sizeD s.dat h_, Wrap := false, Top := 0, Bot := h_ - 1, Tabs := tabsL w_, SaveX := min s.dat.SaveX (w_ - 1), SaveY := min s.dat.SaveY (h_ - 1) } from rfl, ← h1, hD]; exact ScrD.ext' rfl rfl (hM1.trans (by rw [hgd, hgr]; rfl)) (hA1.trans (by rw [hgd, hgr]; rfl)) rfl (if_neg (by omega)) rfl rfl rfl rfl rfl rfl rfl (if_neg (by omega)) (if_neg (by omega)) rfl rfl rfl rfl
 have hD : sizeD s.dat h_ = s.Y - h_ + 1 := by unfold sizeD; show max 0 (s.Y - h_ + 1) = _; omega
 refine WC.skip (hK34 _ _ (WC.seq (fun K99 hK99 => WC.r1 hs33 [] rfl (WC.block ?_))))
 have hM104 := (St.grp1 (L1 := L1_28) [_] ((((((hs33.fr L0_8).fb b2).fb b4).fb b11).fr L1_28).fb b31))
 refine WC.lV [1, 2, 3, 6, 7, 8, 10, 11, 25, 35] rfl hM104 (fun k_ (a_ : Hp) f => ∃ (i : Nat) (r : ScrR) (L102 : Hp), k_ = (sizeD s.dat h_).toNat - i ∧ a_ = [(b31, .cells (List.toArray (cScr r)) 89 (0, 0))] ++ L102 ∧ ((i : Int) ≤ sizeD s.dat h_) ∧ (r.dat = keepRows s.dat i) ∧ (s.OnAlt = true → i = 0) ∧ ownScrR r L102 ∧ Sub [(12, .int .i64 i)] f) (((fun (i : Nat) => (sizeD s.dat h_).toNat - i) (0))) ?_ ?_
 ·refine ⟨0, r27, L1_28, rfl, rfl, ?_, ?_, ?_, ho29, ⟨rfl, trivial⟩⟩
  · omega
  · rw [hcp, keepRows_zero (by show ((s.Back.xs.map RowR.dat).length : Int) ≤ s.Limit; rw [List.length_map]; omega)]
  · exact fun _ => rfl
 rintro _ _ f w ⟨i, r, L102, rfl, rfl, p0, p1, p2, ho103, hG⟩ hF hs105
 refine WC.sub _ (hG.app hF) ?_
 clear hG hF
 replace hs105 := St.ungrp1 [_] hs105
 have hs106 := ((((hs105.fb b2).fb b4).fb b11).fb b31)
 have hsmr : smScr 549755813888 r.dat := by rw [p1]; exact keepRows_sm hsmB hm (by decide) (by show s.Limit.toNat ≤ _; omega)
 have hrM : r.Main.dat = s.Main.dat := congrArg ScrD.Main p1
 have hrW : r.W = s.W := congrArg ScrD.W p1
 have hrL : r.Limit = s.Limit := congrArg ScrD.Limit p1
 have hrH : r.Main.H = s.Main.H := congrArg GridD.H hrM
 have hrV : r.Main.W = s.Main.W := congrArg GridD.W hrM
 have hrB : (r.Back.xs.length : Int) ≤ s.Limit := by have h9 := congrArg (fun d : ScrD => d.Back.length) p1; simp only [ScrR.dat, keepRows, lastN_len, List.length_map] at h9; omega
 refine WC.seq (fun K107 hK107 => WC.sr (WL.r 4 hs106 [] rfl (WL.pA tbk 3 Acts.nil hs106 [3] rfl rfl rfl rfl (fun g_ => ⟨rfl, trivial⟩) (WL.nil ?_))))
 refine WC.cq rfl (fun h108 qh108 => ?_) (fun h108 qh108 => ?_)
 ·have hlt : (i : Int) < sizeD s.dat h_ := by have h9 := h108; rw [hD]; simp at h9; omega
  have hon : s.OnAlt = false := by have h9 := h108; simp at h9; exact h9.2
  refine WC.skip (hK107 _ _ (WC.seq (fun K109 hK109 => WC.block (WC.region (WL.r 2 hs106 [0] rfl ?_)))))
  refine WL.cl Tryz.call188 rfl (k152_ r _ _ _ ho103 (hs106.ow L102) (St.nodupL (hs106.fr L102)) ?_ ?_ ?_ ?_ ?_ ?_) ?_
  iterate 6 first | assumption | rfl | omega | (rw [hrM]; assumption) | (rw [hgd, hgr]; exact gridOk_new hs)
  rintro _ whs110 ⟨r111, L1_112, rfl, hs110, ho113, hd114⟩
  replace hs110 := St.lend (hs106.fr L102) hs110
  refine ⟨_, rfl, ?_⟩
  replace hs110 := St.back [_, _, _, _] hs110
  have hkp := hd114
  refine WL.st tbk hs110 0 rfl rfl (fun _ hs115 => WL.nil (hK109 _ _ (WC.region (WL.r 3 hs115 [] rfl (WL.nil (tkN ?_))))))
  have hF116 := (St.grp1 (L1 := L1_112) [_] ((((((hs115.fr L0_8).fb b2).fb b4).fb b11).fr L1_112).fb b31))
  refine ⟨sbF rfl, _, hF116, _, ?_, i + 1, r111, L1_112, rfl, rfl, ?_, ?_, ?_, ho113, ⟨rfl, trivial⟩⟩
  · omega
  · omega
  · rw [hkp, p1]; exact keepOne_succ
  · intro h9; rw [hon] at h9; cases h9
 have h1 : r.dat = scrSize1 s.dat h_ := by
   have h9 := h108
   unfold scrSize1
   rcases Bool.eq_false_or_eq_true s.OnAlt with ho | ho
   · rw [if_pos (show s.dat.OnAlt = true from ho), p1, p2 ho]; exact keepRows_zero (by show ((s.Back.xs.map RowR.dat).length : Int) ≤ s.Limit; rw [List.length_map]; omega)
   · rw [if_neg (show ¬ s.dat.OnAlt = true from by rw [show s.dat.OnAlt = s.OnAlt from rfl, ho]; decide), p1]
     rw [ho] at h9
     simp at h9
     congr 1; omega
 refine WC.exit (hK99 _ _ (WC.sr (WL.r 2 hs106 [] rfl (WL.st tbk hs106 0 rfl rfl (fun _ hs117 => WL.nil (WC.sr (WL.r 2 hs117 [] rfl ?_)))))))
 refine WL.st tbk hs117 0 rfl rfl (fun _ hs118 => WL.nil (WC.sr (WL.r 5 hs118 [1, 3] rfl ?_)))
 refine WL.cl Tryz.call189 rfl (k153_ r0_7 s.Main _ _ _ (ownGridR.ok (B := 549755813888) ho9 (hs118.ow L0_8) (by rw [hd0_10]; assumption)) (okGridR.st0 f_s.Main hs118) ?_ ?_ ?_ ?_) ?_
 iterate 4 first | assumption | rfl | omega | (rw [hrM]; assumption) | (rw [hgd, hgr]; exact gridOk_new hs)
 rintro _ whs119 ⟨r120, L1_121, rfl, hs119, ho122, hd123⟩
 replace hs119 := hs118.callF hs119
 refine ⟨_, rfl, ?_⟩
 replace hs119 := St.back [_, _, _, _] hs119
 have hM1 := hd123
 refine WL.r 1 hs119 [] rfl (WL.st tbk hs119 0 rfl rfl (fun _ hs124 => WL.nil (WC.sr (WL.r 5 hs124 [1, 3] rfl ?_))))
 refine WL.cl Tryz.call189 rfl (k153_ r0_7 s.Alt _ _ _ (ownGridR.ok (B := 549755813888) ho9 (hs124.ow L0_8) (by rw [hd0_10]; assumption)) (okGridR.st0 f_s.Alt hs124) ?_ ?_ ?_ ?_) ?_
 iterate 4 first | assumption | rfl | omega | (rw [hrM]; assumption) | (rw [hgd, hgr]; exact gridOk_new hs)
 rintro _ whs125 ⟨r126, L1_127, rfl, hs125, ho128, hd129⟩
 replace hs125 := hs124.callF hs125
 refine ⟨_, rfl, ?_⟩
 replace hs125 := St.back [_, _, _, _] hs125
 have hA1 := hd129
 refine WL.r 1 hs125 [] rfl (WL.st tbk hs125 0 rfl rfl (fun _ hs130 => WL.nil (WC.sr (WL.r 4 hs130 [3] rfl (WL.cl Tryz.call190 rfl (k142_ _ _ _) ?_)))))
 rintro _ whs131 ⟨rfl, hs131⟩
 replace hs131 := hs130.call0 hs131
 refine ⟨_, rfl, WL.r 1 hs131 [] rfl (WL.st tbk hs131 0 rfl rfl (fun _ hs132 => WL.nil (WC.sr (WL.r 5 hs132 [3] rfl (WL.st tbk hs132 0 rfl rfl (fun _ hs133 => WL.nil ?_))))))⟩
 refine WC.sr (WL.r 1 hs133 [] rfl (WL.st tbk hs133 0 rfl rfl (fun _ hs134 => WL.nil (WC.sr (WL.r 1 hs134 [] rfl (WL.st tbk hs134 0 rfl rfl (fun _ hs135 => WL.nil ?_)))))))
 refine WC.sr (WL.r 3 hs135 [] rfl (WL.st tbk hs135 0 rfl rfl (fun _ hs136 => WL.nil (WC.sr (WL.r 1 hs136 [] rfl ?_)))))
 refine WL.cl Tryz.call191 rfl (k144_ _ _ ?_) ?_
 · first | assumption | rfl | omega | (rw [hrM]; assumption) | (rw [hgd, hgr]; exact gridOk_new hs)
 rintro _ whs137 ⟨A138, c139, L1_140, rfl, hs137, ho141⟩
 replace hs137 := hs136.callF hs137
 refine ⟨_, rfl, ?_⟩
 replace hs137 := St.back [_, _, _, _] hs137
 refine WL.r 1 hs137 [] rfl (WL.st tbk hs137 0 rfl rfl (fun _ hs142 => WL.nil (WC.sr (WL.r 4 hs142 [3] rfl (WL.cl Tryz.call190 rfl (k142_ _ _ _) ?_)))))
 rintro _ whs143 ⟨rfl, hs143⟩
 replace hs143 := hs142.call0 hs143
 refine ⟨_, rfl, WL.r 1 hs143 [] rfl (WL.st tbk hs143 0 rfl rfl (fun _ hs144 => WL.nil (WC.sr (WL.r 4 hs144 [3] rfl (WL.cl Tryz.call190 rfl (k142_ _ _ _) ?_)))))⟩
 rintro _ whs145 ⟨rfl, hs145⟩
 replace hs145 := hs144.call0 hs145
 refine ⟨_, rfl, WL.r 1 hs145 [] rfl (WL.st tbk hs145 0 rfl rfl (fun _ hs146 => WL.nil (WC.sr (WL.r 1 hs146 [0] rfl (WL.st tbk hs146 2 rfl rfl (fun _ hs147 => WL.r 1 hs147 [] rfl ?_))))))⟩
 refine WL.nil (WC.ret (retV2 rfl (resV.cellA tbk hs147 2 rfl rfl rfl rfl) (resV.tmp rfl) ?_))
 have hv : scrSizeRes s.dat w_ h_ = scrSizeOf s.dat w_ h_ := by unfold scrSizeRes; rw [hk]; rfl
 rw [hk]
 obtain ⟨L148, L149, L150, L151, hs156, ho152, ho153, ho154, ho155⟩ := ownScrR.op hs147 ho103
 have hs157 := ((((hs156.fb b2).fb b4).fb b11).fb b31)
 obtain ⟨L159, hs158, ho160⟩ := ownScrR.fl hs157 ho122 ho128 ho141 ho155
 have hs161 := ((((hs158.fb b2).fb b4).fb b11).fb b31)
 refine ⟨⟨w_, h_, ⟨r120.W, r120.H, SlD.of ho122⟩, ⟨r126.W, r126.H, SlD.of ho128⟩, r.OnAlt, _, (s.Y - ((s.Y - h_) + (1))), false, ⟨r.A.Fg, r.A.Bg, r.A.Bold, r.A.Under, r.A.Turn⟩, (0), (h_ - (1)), r.NoWrap, r.Hide, _, _, ⟨r.SaveA.Fg, r.SaveA.Bg, r.SaveA.Bold, r.SaveA.Under, r.SaveA.Turn⟩, SlD.of ho141, r.Limit, SlD.ofN ho155⟩, _, rfl, (St.keep1 (hs161.fr L159)), ?_, ?_⟩
 · exact (by exact ho160)
 · rw [hv, show scrSizeOf s.dat w_ h_ = { scrSize1 s.dat h_ with W := w_, H := h_, Main := gPaste (gridNew w_ h_) s.dat.Main 0 (-sizeD s.dat h_), Alt := gPaste (gridNew w_ h_) s.dat.Alt 0 (-sizeD s.dat h_), X := min s.dat.X (w_ - 1), Y := s.dat.Y - sizeD s.dat h_, Wrap := false, Top := 0, Bot := h_ - 1, Tabs := tabsL w_, SaveX := min s.dat.SaveX (w_ - 1), SaveY := min s.dat.SaveY (h_ - 1) } from rfl, ← h1, hD]; exact ScrD.ext' rfl rfl (hM1.trans (by rw [hgd, hgr]; rfl)) (hA1.trans (by rw [hgd, hgr]; rfl)) rfl (if_neg (by omega)) rfl rfl rfl rfl rfl rfl rfl (if_neg (by omega)) (if_neg (by omega)) rfl rfl rfl rfl
theorem k155_ (t : TermR) (w_ : Int) (h_ : Int) (w : World) (f_t : okTermR 549755813888 w t) (hsm : smTerm 1048576 t.dat) :
    Calls Tryz.prog 83 #[.agg #[i64 t.P.State, .bool t.P.Mark, .slice t.P.Args.A t.P.Args.n t.P.Args.c, .slice t.P.Part.A t.P.Part.n t.P.Part.c, i64 t.S.W, i64 t.S.H, i64 t.S.Main.W, i64 t.S.Main.H, .slice t.S.Main.Cells.A t.S.Main.Cells.n t.S.Main.Cells.c, i64 t.S.Alt.W, i64 t.S.Alt.H, .slice t.S.Alt.Cells.A t.S.Alt.Cells.n t.S.Alt.Cells.c, .bool t.S.OnAlt, i64 t.S.X, i64 t.S.Y, .bool t.S.Wrap, i64 t.S.A.Fg, i64 t.S.A.Bg, .bool t.S.A.Bold, .bool t.S.A.Under, .bool t.S.A.Turn, i64 t.S.Top, i64 t.S.Bot, .bool t.S.NoWrap, .bool t.S.Hide, i64 t.S.SaveX, i64 t.S.SaveY, i64 t.S.SaveA.Fg, i64 t.S.SaveA.Bg, .bool t.S.SaveA.Bold, .bool t.S.SaveA.Under, .bool t.S.SaveA.Turn, .slice t.S.Tabs.A t.S.Tabs.n t.S.Tabs.c, i64 t.S.Limit, .slice t.S.Back.A t.S.Back.n t.S.Back.c], i64 w_, i64 h_] w fun e w' => ∃ r0 L0, e = .returned (.tuple #[.agg #[i64 r0.P.State, .bool r0.P.Mark, .slice r0.P.Args.A r0.P.Args.n r0.P.Args.c, .slice r0.P.Part.A r0.P.Part.n r0.P.Part.c, i64 r0.S.W, i64 r0.S.H, i64 r0.S.Main.W, i64 r0.S.Main.H, .slice r0.S.Main.Cells.A r0.S.Main.Cells.n r0.S.Main.Cells.c, i64 r0.S.Alt.W, i64 r0.S.Alt.H, .slice r0.S.Alt.Cells.A r0.S.Alt.Cells.n r0.S.Alt.Cells.c, .bool r0.S.OnAlt, i64 r0.S.X, i64 r0.S.Y, .bool r0.S.Wrap, i64 r0.S.A.Fg, i64 r0.S.A.Bg, .bool r0.S.A.Bold, .bool r0.S.A.Under, .bool r0.S.A.Turn, i64 r0.S.Top, i64 r0.S.Bot, .bool r0.S.NoWrap, .bool r0.S.Hide, i64 r0.S.SaveX, i64 r0.S.SaveY, i64 r0.S.SaveA.Fg, i64 r0.S.SaveA.Bg, .bool r0.S.SaveA.Bold, .bool r0.S.SaveA.Under, .bool r0.S.SaveA.Turn, .slice r0.S.Tabs.A r0.S.Tabs.n r0.S.Tabs.c, i64 r0.S.Limit, .slice r0.S.Back.A r0.S.Back.n r0.S.Back.c], .bool (termSizeOk t.dat w_ h_)]) ∧ St w [] (L0) w' ∧ ownTermR r0 L0 ∧ r0.dat = termSizeRes t.dat w_ h_ := by
 have nb_t_P_Args := f_t.P.Args_n
 have nl_t_P_Args := f_t.P.Args.len
 have nb_t_P_Part := f_t.P.Part_n
 have nl_t_P_Part := f_t.P.Part.len
 have nb_t_S_Main_Cells := f_t.S.Main.Cells_n
 have nl_t_S_Main_Cells := f_t.S.Main.Cells.len
 have nb_t_S_Alt_Cells := f_t.S.Alt.Cells_n
 have nl_t_S_Alt_Cells := f_t.S.Alt.Cells.len
 have nb_t_S_Tabs := f_t.S.Tabs_n
 have nl_t_S_Tabs := f_t.S.Tabs.len
 have nb_t_S_Back := f_t.S.Back_n
 have nl_t_S_Back := f_t.S.Back.sl.len
 refine enter 30 Tryz.func83 rfl Tryz.ntmps83 rfl rfl ?_
 have hs1 := St.init w
 refine WC.sr (WL.bx hs1 rfl (fun b2 _ hs3 => WL.al hs3 Tryz.zeroValue91 rfl rfl (fun b4 _ hs5 => WL.r 1 hs5 [] rfl (WL.nil (WC.seq (fun K6 hK6 => WC.sr (WL.r 1 hs5 [1] rfl ?_)))))))
 refine WL.cl Tryz.call136 rfl (k67_ t _ (okTermR.st0 f_t hs5)) ?_
 rintro _ whs7 ⟨rfl, hs7⟩
 replace hs7 := hs5.call0 hs7
 refine ⟨_, rfl, WL.r 1 hs7 [] rfl (WL.nil (WC.cq rfl (fun h8 qh8 => ?_) (fun h8 qh8 => ?_)))⟩
 ·have hk : termSizeOk t.dat w_ h_ = false := by unfold termSizeOk; have h9 := h8; rw [Bool.not_eq_true'] at h9; rw [h9]; rfl
  refine WC.sr ?_
  refine WL.val rfl rfl rfl (Run.build rfl rfl rfl rfl (built_91)) (WL.st tbk hs7 0 rfl rfl (fun _ hs9 => WL.r 1 hs9 [] rfl (WL.nil (WC.ret (tkR ?_)))))
  clear hK6
  refine retV2 rfl (resV.cellA tbk hs9 0 rfl rfl rfl rfl) (resV.tmp rfl) ?_
  have hv : termSizeRes t.dat w_ h_ = ⟨vp0, scr0⟩ := by unfold termSizeRes; rw [hk]; rfl
  rw [hk]
  obtain ⟨L17, hs16, ho18⟩ := ownTermR.fl hs9 (OwnF.nil _ _) (OwnF.nil _ _) (OwnF.nil _ _) (OwnF.nil _ _) (OwnF.nil _ _) (OwnN.nil _ _ _)
  have hs19 := ((hs16.fb b2).fb b4)
  refine ⟨⟨⟨0, false, ⟨none, 0, 0, []⟩, ⟨none, 0, 0, []⟩⟩, ⟨0, 0, ⟨0, 0, ⟨none, 0, 0, []⟩⟩, ⟨0, 0, ⟨none, 0, 0, []⟩⟩, false, 0, 0, false, ⟨0, 0, false, false, false⟩, 0, 0, false, false, 0, 0, ⟨0, 0, false, false, false⟩, ⟨none, 0, 0, []⟩, 0, ⟨none, 0, 0, []⟩⟩⟩, _, rfl, (St.keep1 (hs19.fr L17)), ?_, ?_⟩
  · exact (by exact ho18)
  · rw [hv]; rfl
 have hT0 : termOk t.dat = true := by have h9 := h8; simpa using h9
 have hT1 : termSizeOk t.dat w_ h_ = scrSizeOk t.S.dat w_ h_ := by unfold termSizeOk scrSizeOk; unfold termOk at hT0 ⊢; rw [Bool.and_eq_true] at hT0; rw [show t.dat.S = t.S.dat from rfl] at *; rw [hT0.1, hT0.2]; simp
 refine WC.skip (hK6 _ _ (WC.sr (WL.r 4 hs7 [1] rfl ?_)))
 refine WL.cl Tryz.call145 rfl (k154_ t.S _ _ _ (okScrR.st0 f_t.S hs7) ?_) ?_
 · first | assumption | rfl | omega | exact hsm.1 | exact hsm.2
 rintro _ whs20 ⟨r0_21, L0_22, rfl, hs20, ho23, hd0_24⟩
 replace hs20 := hs7.callF hs20
 refine ⟨_, rfl, ?_⟩
 replace hs20 := St.back [_, _] hs20
 have hsz := hd0_24
 refine WL.r 3 hs20 [] rfl (WL.al hs20 Tryz.zeroValue89 rfl rfl (fun b25 _ hs26 => WL.st tbk hs26 0 rfl rfl (fun _ hs27 => WL.r 1 hs27 [] rfl (WL.nil (WC.seq (fun K28 hK28 => WC.r1 hs27 [] rfl ?_))))))
 refine WC.cq rfl (fun h29 qh29 => ?_) (fun h29 qh29 => ?_)
 ·have hk : termSizeOk t.dat w_ h_ = false := by rw [hT1]; have h9 := h29; simpa using h9
  refine WC.sr ?_
  refine WL.val rfl rfl rfl (Run.build rfl rfl rfl rfl (built_91)) (WL.st tbk hs27 1 rfl rfl (fun _ hs30 => WL.r 1 hs30 [] rfl (WL.nil (WC.ret (tkR ?_)))))
  clear hK28
  refine retV2 rfl (resV.cellA tbk hs30 1 rfl rfl rfl rfl) (resV.tmp rfl) ?_
  have hv : termSizeRes t.dat w_ h_ = ⟨vp0, scr0⟩ := by unfold termSizeRes; rw [hk]; rfl
  rw [hk]
  obtain ⟨L38, hs37, ho39⟩ := ownTermR.fl hs30 (OwnF.nil _ _) (OwnF.nil _ _) (OwnF.nil _ _) (OwnF.nil _ _) (OwnF.nil _ _) (OwnN.nil _ _ _)
  have hs40 := (((hs37.fb b2).fb b4).fb b25)
  refine ⟨⟨⟨0, false, ⟨none, 0, 0, []⟩, ⟨none, 0, 0, []⟩⟩, ⟨0, 0, ⟨0, 0, ⟨none, 0, 0, []⟩⟩, ⟨0, 0, ⟨none, 0, 0, []⟩⟩, false, 0, 0, false, ⟨0, 0, false, false, false⟩, 0, 0, false, false, 0, 0, ⟨0, 0, false, false, false⟩, ⟨none, 0, 0, []⟩, 0, ⟨none, 0, 0, []⟩⟩⟩, _, rfl, (St.keep1 (hs40.fr L38)), ?_, ?_⟩
  · exact (by exact ho39)
  · rw [hv]; rfl
 have hk : termSizeOk t.dat w_ h_ = true := by rw [hT1]; have h9 := h29; simpa using h9
 refine WC.skip (hK28 _ _ (WC.seq (fun K41 hK41 => WC.rG 5 (hs27.fb b4).d1 hs27 hs27 (fun _ hs42 => ?_))))
 refine WG.rn [0, 1, 3] hs42 [2, 0] rfl rfl (WG.o1 2 rfl rfl (WL.cl Tryz.call146 rfl (k86_ t.P _ (okVpR.st0 f_t.P hs42) ?_) ?_))
 · first | assumption | rfl | omega | exact hsm.1 | exact hsm.2
 rintro _ whs43 ⟨r44, L1_45, rfl, hs43, ho46, hd47⟩
 replace hs43 := hs42.callF hs43
 refine ⟨_, rfl, ?_⟩
 replace hs43 := St.back [_, _, _] hs43
 have hvp := hd47
 refine WL.nil ⟨(hs43.rm L1_45), ?_⟩
 refine WG.tk 4 rfl (by kernel_rfl) rfl rfl rfl (hs43.rm L1_45) (fun w_ hs_ => (Run.build rfl rfl rfl rfl (built_91_0_1 _ _ _ _ _ _ _ _ _ _ _ _ _ _ _ _ _ _ _ _ _ _ _ _ _ _ _ _ _ _ _ _ _ _ _))) ?_
 refine WG.oK rfl (WL.st tbk hs43 1 rfl rfl (fun _ hs48 => WL.nil ⟨((hs48.fb b4).d1.rm L1_45), WH.rn [6] ((hs48.fb b4).d1.rm L1_45) [] rfl rfl (WH.dn (hK41 _ _ (WC.ret (retV2 rfl (resV.cellA tbk hs48 1 rfl rfl rfl rfl) (resV.tmp rfl) ?_))))⟩))
 have hv : termSizeRes t.dat w_ h_ = ⟨t.dat.P, scrSizeOf t.dat.S w_ h_⟩ := by unfold termSizeRes; rw [hk]; rfl
 rw [hk]
 obtain ⟨L49, L50, hs53, ho51, ho52⟩ := ownVpR.op hs48 ho46
 have hs54 := (((hs53.fb b2).fb b4).fb b25)
 obtain ⟨L55, L56, L57, L58, hs63, ho59, ho60, ho61, ho62⟩ := ownScrR.op hs54 ho23
 have hs64 := (((hs63.fb b2).fb b4).fb b25)
 obtain ⟨L66, hs65, ho67⟩ := ownTermR.fl hs64 ho51 ho52 ho59 ho60 ho61 ho62
 have hs68 := (((hs65.fb b2).fb b4).fb b25)
 refine ⟨⟨⟨r44.State, r44.Mark, SlD.of ho51, SlD.of ho52⟩, ⟨r0_21.W, r0_21.H, ⟨r0_21.Main.W, r0_21.Main.H, SlD.of ho59⟩, ⟨r0_21.Alt.W, r0_21.Alt.H, SlD.of ho60⟩, r0_21.OnAlt, r0_21.X, r0_21.Y, r0_21.Wrap, ⟨r0_21.A.Fg, r0_21.A.Bg, r0_21.A.Bold, r0_21.A.Under, r0_21.A.Turn⟩, r0_21.Top, r0_21.Bot, r0_21.NoWrap, r0_21.Hide, r0_21.SaveX, r0_21.SaveY, ⟨r0_21.SaveA.Fg, r0_21.SaveA.Bg, r0_21.SaveA.Bold, r0_21.SaveA.Under, r0_21.SaveA.Turn⟩, SlD.of ho61, r0_21.Limit, SlD.ofN ho62⟩⟩, _, rfl, (St.keep1 (hs68.fr L66)), ?_, ?_⟩
 · exact (by exact ho67)
 · rw [hv]; exact TermD.ext' hvp (hsz.trans (by unfold scrSizeRes; rw [show scrSizeOk t.S.dat w_ h_ = true from hT1 ▸ hk]; rfl))
set_option maxHeartbeats 4000000 in
set_option maxRecDepth 10000 in
theorem k156_ (s : StateR) (w : World) (f_s : okStateR 549755813888 w s) (hT : totState s.dat ≤ 1048576) :
    Calls Tryz.prog 29 #[.agg #[i64 s.W, i64 s.H, i64 s.Limit, i64 s.Next, .slice s.Panes.A s.Panes.n s.Panes.c, .slice s.Wins.A s.Wins.n s.Wins.c, .slice s.Sess.A s.Sess.n s.Sess.c]] w fun e w' => ∃ r L1, e = .returned (.agg #[i64 r.W, i64 r.H, i64 r.Limit, i64 r.Next, .slice r.Panes.A r.Panes.n r.Panes.c, .slice r.Wins.A r.Wins.n r.Wins.c, .slice r.Sess.A r.Sess.n r.Sess.c]) ∧ St w [] L1 w' ∧ ownStateR r L1 ∧ r.dat = fitD s.dat := by
 have nb_s_Panes := f_s.Panes_n
 have nl_s_Panes := f_s.Panes.sl.len
 have nb_s_Wins := f_s.Wins_n
 have nl_s_Wins := f_s.Wins.sl.len
 have nb_s_Sess := f_s.Sess_n
 have nl_s_Sess := f_s.Sess.sl.len
 have hsm0 : smState 1048576 s.dat := totState_sm hT
 have hsmB : smState 549755813888 s.dat := totState_sm (by omega)
 have hnl := f_s.Panes.sl.len
 refine enter 58 Tryz.func29 rfl Tryz.ntmps29 rfl rfl ?_
 have hs1 := St.init w
 refine WC.sr (WL.bx hs1 rfl (fun b2 _ hs3 => WL.al hs3 Tryz.zeroValue33 rfl rfl (fun b4 _ hs5 => WL.nil (WC.sr (WL.r 1 hs5 [1] rfl ?_)))))
 refine WL.cl Tryz.call82 rfl (k101_ s _ (okStateR.st0 f_s hs5) ?_) ?_
 · first | assumption | rfl | omega
 rintro _ whs6 ⟨r7, L1_8, rfl, hs6, ho9, hd10⟩
 replace hs6 := hs5.callF hs6
 refine ⟨_, rfl, ?_⟩
 replace hs6 := St.back [_, _] hs6
 have hcp := hd10
 have hpn := (ownStateR.ok (B := 549755813888) ho9 (hs6.ow L1_8) (by rw [hd10]; assumption)).Panes.sl.len
 have hpl : r7.Panes.xs.length = s.Panes.xs.length := by have e9 := congrArg (fun d : StateD => d.Panes.length) hcp; simpa [StateR.dat] using e9
 refine WL.al hs6 Tryz.zeroValue33 rfl rfl (fun b11 _ hs12 => WL.st tbk hs12 0 rfl rfl (fun _ hs13 => WL.nil (WC.seq (fun K14 hK14 => WC.r1 hs13 [2] rfl (WC.block ?_)))))
 have hM19 := (St.grp1 (L1 := L1_8) [_] ((((hs13.fb b2).fb b4).fr L1_8).fb b11))
 refine WC.lV [1, 2, 3, 13, 14] rfl hM19 (fun k_ (a_ : Hp) f => ∃ (i : Nat) (r : StateR) (L17 : Hp), k_ = s.Panes.xs.length - i ∧ a_ = [(b11, .cells (List.toArray [i64 r.W, i64 r.H, i64 r.Limit, i64 r.Next, .slice r.Panes.A r.Panes.n r.Panes.c, .slice r.Wins.A r.Wins.n r.Wins.c, .slice r.Sess.A r.Sess.n r.Sess.c]) 33 (0, 0))] ++ L17 ∧ (i ≤ s.Panes.xs.length) ∧ (r.dat = ({ s.dat with Panes := mpTo (fitP s.dat) i (s.Panes.xs.map PaneR.dat) } : StateD)) ∧ ownStateR r L17 ∧ Sub [(15, .int .i64 i)] f) (((fun (i : Nat) => s.Panes.xs.length - i) (0))) ?_ ?_
 ·refine ⟨0, r7, L1_8, rfl, rfl, ?_, ?_, ho9, ⟨rfl, trivial⟩⟩
  · exact Nat.zero_le _
  · exact hcp
 rintro _ _ f w ⟨i, r, L17, rfl, rfl, p0, p1, ho18, hG⟩ hF hs20
 refine WC.sub _ (hG.app hF) ?_
 clear hG hF
 replace hs20 := St.ungrp1 [_] hs20
 have hs21 := (((hs20.fb b2).fb b4).fb b11)
 have hsmr : smState 549755813888 r.dat := by rw [p1]; exact mpFit_sm hsmB
 have hrn := (ownStateR.ok (B := 549755813888) ho18 (hs21.ow L17) hsmr).Panes.sl.len
 have hrp : r.Panes.xs.map PaneR.dat = mpTo (fitP s.dat) i (s.Panes.xs.map PaneR.dat) := congrArg StateD.Panes p1
 have hrl : r.Panes.xs.length = s.Panes.xs.length := by have e9 := congrArg List.length hrp; rw [List.length_map, mpTo_len, List.length_map] at e9; exact e9
 refine WC.r1 hs21 [] rfl (WC.seq (fun K22 hK22 => ?_))
 refine WC.cq rfl (fun h23 qh23 => ?_) (fun h23 qh23 => ?_)
 ·have hY : (gat encPaneR r.Panes.xs i).dat = (gat encPaneR s.Panes.xs i).dat := mp_elt (F := encPaneR) hrp (by omega)
  have hst0 : smTerm 1048576 (gat encPaneR s.Panes.xs i).Term.dat := (hsm0.2.1 _ (List.mem_map_of_mem (gat_mem (show i < s.Panes.xs.length by omega)))).2.2
  have hst1 : smTerm 1048576 (gat encPaneR r.Panes.xs i).Term.dat := by have h9 := congrArg PaneD.Term hY; rw [show (gat encPaneR r.Panes.xs i).Term.dat = (gat encPaneR s.Panes.xs i).Term.dat from h9]; exact hst0
  have hYi : (gat encPaneR r.Panes.xs i).Id = (gat encPaneR s.Panes.xs i).Id := congrArg PaneD.Id hY
  have hYt : (gat encPaneR r.Panes.xs i).Term.dat = (gat encPaneR s.Panes.xs i).Term.dat := congrArg PaneD.Term hY
  refine WC.skip (hK22 _ _ (WC.seq (fun K24 hK24 => WC.block (WC.sr (WL.r 1 hs21 [] rfl ?_)))))
  refine WL.val rfl rfl rfl (Run.idxN Tryz.runUnderlying29 Tryz.sizeOf93 rfl rfl rfl ?_ ?_ ?_) ?_
  · exact SlF.some_ (SlF.st0 f_s.Panes.sl hs21)
  · first | omega | (try simp only [List.length_set]; omega)
  · first | omega | (try simp only [List.length_set]; omega)
  refine WL.val rfl rfl rfl (Run.loadA Tryz.isAgg93 Tryz.sizeOf93 rfl rfl (SlF.whole (SlF.st0 f_s.Panes.sl hs21) ?_)) ?_
  · first | omega | (try simp only [List.length_set]; omega)
  refine WL.al hs21 Tryz.zeroValue93 rfl rfl (fun b25 _ hs26 => WL.r 1 hs26 [] rfl (WL.st tbk hs26 0 rfl rfl (fun _ hs27 => WL.nil (WC.sr (WL.r 3 hs27 [3, 0] rfl ?_)))))
  refine WL.cl Tryz.call16 rfl (k131_ s _ _ (okStateR.st0 f_s hs27) ?_) ?_
  · first | assumption | rfl | omega
  rintro _ whs28 ⟨rfl, hs28⟩
  replace hs28 := hs27.call0 hs28
  refine ⟨_, rfl, WL.r 5 hs28 [] rfl (WL.nil (WC.seq (fun K29 hK29 => WC.sr (WL.r 7 hs28 [0] rfl (WL.pA tbk 6 Acts.nil hs28 [0] rfl rfl rfl rfl (fun g_ => ⟨rfl, trivial⟩) (WL.nil ?_))))))⟩
  refine WC.cq rfl (fun h30 qh30 => ?_) (fun h30 qh30 => ?_)
  ·have heq0 : (gat encPaneR s.Panes.xs i).Term.S.W = (areaD s.dat (gat encPaneR s.Panes.xs i).Id).1 ∧ (gat encPaneR s.Panes.xs i).Term.S.H = (areaD s.dat (gat encPaneR s.Panes.xs i).Id).2 := by have h9 := h30; simpa using h9
   have heq : (gat encPaneR s.Panes.xs i).dat.Term.S.W = (areaD s.dat (gat encPaneR s.Panes.xs i).dat.Id).1 ∧ (gat encPaneR s.Panes.xs i).dat.Term.S.H = (areaD s.dat (gat encPaneR s.Panes.xs i).dat.Id).2 := heq0
   rw [← hY] at heq
   refine WC.exit (hK24 _ _ (WC.region (WL.r 2 hs28 [] rfl (WL.nil (tkN ?_)))))
   replace hs28 := hs28.d1
   have hF31 := (St.grp1 (L1 := L17) [_] ((((hs28.fb b2).fb b4).fr L17).fb b11))
   refine ⟨sbF rfl, _, hF31, _, ?_, i + 1, r, L17, rfl, rfl, ?_, ?_, ho18, ⟨rfl, trivial⟩⟩
   · omega
   · omega
   · have hpp : r.Panes.xs.map PaneR.dat = mpTo (fitP s.dat) (i + 1) (s.Panes.xs.map PaneR.dat) := mp_same (F := encPaneR) hrp (by omega) (by rw [← hY]; unfold fitP; exact if_pos heq)
     exact StateD.ext' (by have h9 := congrArg StateD.W p1; exact h9) (by have h9 := congrArg StateD.H p1; exact h9) (by have h9 := congrArg StateD.Limit p1; exact h9) (by have h9 := congrArg StateD.Next p1; exact h9) hpp (by have h9 := congrArg StateD.Wins p1; exact h9) (by have h9 := congrArg StateD.Sess p1; exact h9)
  have hne0 : ¬ ((gat encPaneR s.Panes.xs i).Term.S.W = (areaD s.dat (gat encPaneR s.Panes.xs i).Id).1 ∧ (gat encPaneR s.Panes.xs i).Term.S.H = (areaD s.dat (gat encPaneR s.Panes.xs i).Id).2) := by have h9 := h30; simpa using h9
  have hne : ¬ ((gat encPaneR s.Panes.xs i).dat.Term.S.W = (areaD s.dat (gat encPaneR s.Panes.xs i).dat.Id).1 ∧ (gat encPaneR s.Panes.xs i).dat.Term.S.H = (areaD s.dat (gat encPaneR s.Panes.xs i).dat.Id).2) := hne0
  rw [← hY] at hne
  refine WC.skip (hK29 _ _ (WC.sr (WL.r 4 hs28 [0] rfl ?_)))
  refine WL.cl Tryz.call83 rfl (k155_ (gat encPaneR s.Panes.xs i).Term _ _ _ (okTermR.st0 (SlN.nth f_s.Panes (by first | omega | (try simp only [List.length_set]; omega))).Term hs28) ?_) ?_
  · first | assumption | rfl | omega
  rintro _ whs32 ⟨r0_33, L0_34, rfl, hs32, ho35, hd0_36⟩
  replace hs32 := hs28.callF hs32
  refine ⟨_, rfl, ?_⟩
  replace hs32 := St.back [_, _, _, _] hs32
  refine WL.r 1 hs32 [] rfl ?_
  have hsz := hd0_36
  refine WL.r 2 hs32 [] rfl (WL.al hs32 Tryz.zeroValue91 rfl rfl (fun b37 _ hs38 => WL.st tbk hs38 0 rfl rfl (fun _ hs39 => WL.r 1 hs39 [] rfl (WL.nil (WC.r1 hs39 [] rfl ?_)))))
  refine WC.cq rfl (fun h40 qh40 => ?_) (fun h40 qh40 => ?_)
  ·have hkk : termSizeOk (gat encPaneR s.Panes.xs i).dat.Term (areaD s.dat (gat encPaneR s.Panes.xs i).dat.Id).1 (areaD s.dat (gat encPaneR s.Panes.xs i).dat.Id).2 = true := h40
   rw [← hY] at hkk
   rw [show (gat encPaneR s.Panes.xs i).Term.dat = (gat encPaneR r.Panes.xs i).Term.dat from hYt.symm, show (gat encPaneR s.Panes.xs i).Id = (gat encPaneR r.Panes.xs i).Id from hYi.symm] at hsz
   refine WC.region (WL.r 4 hs39 [2, 0] rfl (WL.val rfl rfl rfl (Run.idxN Tryz.runUnderlying29 Tryz.sizeOf93 rfl rfl rfl ?_ ?_ ?_) ?_))
   · exact SlF.some_ (ownStateR.ok (B := 549755813888) ho18 (hs39.ow L17) hsmr).Panes.sl
   · first | omega | (try simp only [List.length_set]; omega)
   · first | omega | (try simp only [List.length_set]; omega)
   refine WL.val rfl rfl rfl (Run.fieldO Tryz.runUnderlying93 rfl rfl rfl Tryz.sizeOf91 rfl) ?_
   obtain ⟨L41, L42, L43, hs47, ho44, ho45, ho46⟩ := ownStateR.op hs39 ho18
   have hs48 := (((((hs47.fb b2).fb b4).fb b11).fb b25).fb b37)
   obtain ⟨L49, L50, hs53, ho51, ho52⟩ := OwnN.open_ (hs48.fr L41) ho44
   have hs54 := (((((hs53.fb b2).fb b4).fb b11).fb b25).fb b37)
   refine WL.storeF (x' := ({ (gat encPaneR r.Panes.xs i) with Term := r0_33 } : PaneR)) (hs54.fr L49) ho51 Tryz.sizeOf91 rfl rfl rfl rfl rfl rfl rfl rfl rfl ?_ rfl (fun L55 whs56 hs56 ho57 _ => ?_)
   · first | omega | (try simp only [List.length_set]; omega)
   replace hs56 := St.back [_, _, _, _, _] hs56
   obtain ⟨L58, hs60, hb59⟩ := Bag.replace (r := ({ (gat encPaneR r.Panes.xs i) with Term := r0_33 } : PaneR)) (i := i) ((hs56.fr L0_34).fr L50) ho52 (by first | omega | (try simp only [List.length_set]; omega)) (by exact ho35)
   have hs61 := (((((hs60.fb b2).fb b4).fb b11).fb b25).fb b37)
   refine WL.nil (hK24 _ _ (WC.region (WL.r 2 hs61 [] rfl (WL.nil (tkN ?_)))))
   obtain ⟨L63, hs62, ho64⟩ := OwnN.fold ((hs61.fr L58).fr L55) ho57 hb59
   have hs65 := (((((hs62.fb b2).fb b4).fb b11).fb b25).fb b37)
   obtain ⟨L67, hs66, ho68⟩ := ownStateR.fl hs65 ho64 ho45 ho46
   have hs69 := (((((hs66.fb b2).fb b4).fb b11).fb b25).fb b37)
   replace hs69 := hs69.d1.d1
   have hF70 := (St.grp1 (L1 := L67) [_] ((((hs69.fb b2).fb b4).fr L67).fb b11))
   refine ⟨sbF rfl, _, hF70, _, ?_, i + 1, ⟨r.W, r.H, r.Limit, r.Next, SlD.ofN ho64, SlD.ofN ho45, SlD.ofN ho46⟩, L67, rfl, rfl, ?_, ?_, (by exact ho68), ⟨rfl, trivial⟩⟩
   · omega
   · omega
   · have hpp : (r.Panes.xs.set i ({ (gat encPaneR r.Panes.xs i) with Term := r0_33 } : PaneR)).map PaneR.dat = mpTo (fitP s.dat) (i + 1) (s.Panes.xs.map PaneR.dat) := mp_set (F := encPaneR) hrp (by omega) (by rw [← hY]; unfold fitP; rw [if_neg hne, if_pos hkk]; exact congrArg (fun t : TermD => ({ (gat encPaneR r.Panes.xs i).dat with Term := t } : PaneD)) hsz)
     exact StateD.ext' (by have h9 := congrArg StateD.W p1; exact h9) (by have h9 := congrArg StateD.H p1; exact h9) (by have h9 := congrArg StateD.Limit p1; exact h9) (by have h9 := congrArg StateD.Next p1; exact h9) hpp (by have h9 := congrArg StateD.Wins p1; exact h9) (by have h9 := congrArg StateD.Sess p1; exact h9)
  have hkk : termSizeOk (gat encPaneR s.Panes.xs i).dat.Term (areaD s.dat (gat encPaneR s.Panes.xs i).dat.Id).1 (areaD s.dat (gat encPaneR s.Panes.xs i).dat.Id).2 = false := h40
  rw [← hY] at hkk
  refine WC.skip (hK24 _ _ (WC.region (WL.r 2 hs39 [] rfl (WL.nil (tkN ?_)))))
  replace hs39 := (hs39.d1.d1.rm L0_34)
  have hF71 := (St.grp1 (L1 := L17) [_] ((((hs39.fb b2).fb b4).fr L17).fb b11))
  refine ⟨sbF rfl, _, hF71, _, ?_, i + 1, r, L17, rfl, rfl, ?_, ?_, ho18, ⟨rfl, trivial⟩⟩
  · omega
  · omega
  · have hpp : r.Panes.xs.map PaneR.dat = mpTo (fitP s.dat) (i + 1) (s.Panes.xs.map PaneR.dat) := mp_same (F := encPaneR) hrp (by omega) (by rw [← hY]; unfold fitP; rw [if_neg hne, if_neg (by rw [hkk]; decide)])
    exact StateD.ext' (by have h9 := congrArg StateD.W p1; exact h9) (by have h9 := congrArg StateD.H p1; exact h9) (by have h9 := congrArg StateD.Limit p1; exact h9) (by have h9 := congrArg StateD.Next p1; exact h9) hpp (by have h9 := congrArg StateD.Wins p1; exact h9) (by have h9 := congrArg StateD.Sess p1; exact h9)
 refine WC.exit (hK14 _ _ (WC.sr (WL.r 1 hs21 [0] rfl (WL.st tbk hs21 1 rfl rfl (fun _ hs72 => WL.nil (WC.ret (retV1 rfl (resV.cellA tbk hs72 1 rfl rfl rfl rfl) ?_)))))))
 refine ⟨r, _, rfl, (St.keep1 (hs72.fr L17)), ?_, ?_⟩
 · exact ho18
 · rw [p1, mpTo_full (by rw [List.length_map]; omega)]; rfl
end Go.Proofs.YthfhhldbglaieaaGreat
