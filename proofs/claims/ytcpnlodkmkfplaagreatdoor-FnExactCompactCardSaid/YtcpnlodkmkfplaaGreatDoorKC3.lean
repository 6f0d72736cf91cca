/-
  What the proof stands on, part 3.
-/
import Derived.Test.YtcpnlodkmkfplaaGreatDoorKC2
namespace Go.Proofs.YtcpnlodkmkfplaaGreatDoor
open Go Go.RowKit
set_option linter.unusedVariables false
set_option linter.unusedSimpArgs false
open Go.Shelf
open Go.RowKit in
def Tryz.lays106_ren : Go.Shelf.Ren := ⟨fun | 106 => 188 | 213 => 208 | 265 => 230 | n => n, fun | 9 => 9 | 3 => 3 | n => n, fun | n => n⟩
theorem Tryz.lays106 : Go.Proofs.Lays.n106 Tryz.prog Tryz.lays106_ren := {
  mixed := by kernel_rfl
  f106 := Tryz.func188.trans (congrArg some (by kernel_rfl))
  f213 := Tryz.func208.trans (congrArg some (by kernel_rfl))
  f265 := Tryz.func230.trans (congrArg some (by kernel_rfl))
  t3 := Tryz.underlying3
  a3 := Tryz.isAgg3
  z3 := Tryz.sizeOf3
  v3 := Tryz.zeroValue3
  t9 := Tryz.underlying9
  a9 := Tryz.isAgg9
  z9 := Tryz.sizeOf9
  v9 := Tryz.zeroValue9 }
open Go.RowKit in
theorem Tryz.strings_Compare (a b : ByteArray) (w : World) :
    Calls Tryz.prog 188 #[.string a, .string b] w fun e w' => e = .returned (.int .i64 (Lib.compareBytes a.data.toList b.data.toList)) ∧ w' = w := Any.strings_Compare Tryz.lays106 a b w
open Go.RowKit in
open Go.RowKit in
open Go.Lib in
open Go.Lib in
open Go.Lib in
open Go.Lib in
open Go.RowKit Go.Sort Go.Lib in
open Go.RowKit Go.Sort Go.Lib in
open Go.RowKit Go.Sort Go.Lib in
open Go.RowKit Go.Sort Go.Lib in
open Go.RowKit Go.Sort Go.Lib in
def Tryz.laysM171_ren : Go.Shelf.Ren := ⟨fun | 171 => 154 | 243 => 178 | 246 => 193 | 283 => 212 | 284 => 213 | 285 => 214 | 286 => 215 | 129 => 204 | 317 => 233 | 318 => 234 | 319 => 235 | 320 => 236 | 337 => 243 | 338 => 244 | n => n, fun | 3 => 3 | 9 => 9 | 2 => 2 | 4 => 4 | 171 => 222 | 0 => 0 | 53 => 219 | 37 => 43 | 5 => 5 | 173 => 224 | 212 => 240 | 51 => 194 | 20 => 20 | 213 => 241 | 46 => 176 | 232 => 259 | 233 => 260 | n => n, fun | 17 => 1 | 18 => 4 | 19 => 5 | n => n⟩
theorem Tryz.laysM171 : Go.Proofs.LaysM.n171 Tryz.prog Tryz.laysM171_ren := {
  mixed := by kernel_rfl
  f129 := Tryz.func204.trans (congrArg some (by kernel_rfl))
  f171 := Tryz.func154.trans (congrArg some (by kernel_rfl))
  f243 := Tryz.func178.trans (congrArg some (by kernel_rfl))
  f246 := Tryz.func193.trans (congrArg some (by kernel_rfl))
  f283 := Tryz.func212.trans (congrArg some (by kernel_rfl))
  f284 := Tryz.func213.trans (congrArg some (by kernel_rfl))
  f285 := Tryz.func214.trans (congrArg some (by kernel_rfl))
  f286 := Tryz.func215.trans (congrArg some (by kernel_rfl))
  f317 := Tryz.func233.trans (congrArg some (by kernel_rfl))
  f318 := Tryz.func234.trans (congrArg some (by kernel_rfl))
  f319 := Tryz.func235.trans (congrArg some (by kernel_rfl))
  f320 := Tryz.func236.trans (congrArg some (by kernel_rfl))
  f337 := Tryz.func243.trans (congrArg some (by kernel_rfl))
  f338 := Tryz.func244.trans (congrArg some (by kernel_rfl))
  t0 := Tryz.underlying0
  a0 := Tryz.isAgg0
  z0 := Tryz.sizeOf0
  v0 := Tryz.zeroValue0
  t2 := Tryz.underlying2
  a2 := Tryz.isAgg2
  z2 := Tryz.sizeOf2
  v2 := Tryz.zeroValue2
  t3 := Tryz.underlying3
  a3 := Tryz.isAgg3
  z3 := Tryz.sizeOf3
  v3 := Tryz.zeroValue3
  t4 := Tryz.underlying4
  a4 := Tryz.isAgg4
  z4 := Tryz.sizeOf4
  v4 := Tryz.zeroValue4
  t5 := Tryz.underlying5
  a5 := Tryz.isAgg5
  z5 := Tryz.sizeOf5
  v5 := Tryz.zeroValue5
  t9 := Tryz.underlying9
  a9 := Tryz.isAgg9
  z9 := Tryz.sizeOf9
  v9 := Tryz.zeroValue9
  t20 := Tryz.underlying20
  a20 := Tryz.isAgg20
  z20 := Tryz.sizeOf20
  v20 := Tryz.zeroValue20
  t37 := Tryz.underlying43
  a37 := Tryz.isAgg43
  z37 := Tryz.sizeOf43
  v37 := Tryz.zeroValue43
  t46 := Tryz.underlying176
  a46 := Tryz.isAgg176
  z46 := Tryz.sizeOf176
  v46 := Tryz.zeroValue176
  t51 := Tryz.underlying194
  a51 := Tryz.isAgg194
  z51 := Tryz.sizeOf194
  v51 := Tryz.zeroValue194
  t53 := Tryz.underlying219
  a53 := Tryz.isAgg219
  z53 := Tryz.sizeOf219
  v53 := Tryz.zeroValue219
  t171 := Tryz.underlying222
  a171 := Tryz.isAgg222
  z171 := Tryz.sizeOf222
  v171 := Tryz.zeroValue222
  t173 := Tryz.underlying224
  a173 := Tryz.isAgg224
  z173 := Tryz.sizeOf224
  v173 := Tryz.zeroValue224
  t212 := Tryz.underlying240
  a212 := Tryz.isAgg240
  z212 := Tryz.sizeOf240
  v212 := Tryz.zeroValue240
  t213 := Tryz.underlying241
  a213 := Tryz.isAgg241
  z213 := Tryz.sizeOf241
  t232 := Tryz.underlying259
  a232 := Tryz.isAgg259
  z232 := Tryz.sizeOf259
  v232 := Tryz.zeroValue259
  t233 := Tryz.underlying260
  a233 := Tryz.isAgg260
  z233 := Tryz.sizeOf260
  v233 := Tryz.zeroValue260
  g17 := by kernel_rfl
  g18 := by kernel_rfl
  g19 := by kernel_rfl
  i0 := by kernel_rfl
  i2 := by kernel_rfl
  i3 := by kernel_rfl
  i4 := by kernel_rfl
  i5 := by kernel_rfl
  i9 := by kernel_rfl
  i20 := by kernel_rfl
  i37 := by kernel_rfl
  i46 := by kernel_rfl
  i51 := by kernel_rfl
  i53 := by kernel_rfl
  i171 := by kernel_rfl
  i173 := by kernel_rfl
  i212 := by kernel_rfl
  i232 := by kernel_rfl
  i233 := by kernel_rfl
  m17 := by kernel_rfl
  m18 := by kernel_rfl
  m19 := by kernel_rfl }
open Go.RowKit Go.Sort Go.Lib in
theorem Tryz.strconv_Itoa (n : Int) (h0 : -9223372036854775808 ≤ n) (h1 : n ≤ 9223372036854775807) (w : World) (htab : Lib.TabIs Tryz.prog w "internal/strconv.uint64pow10" .u64 Lib.pow10Tab) :
    Calls Tryz.prog 154 #[.int .i64 n] w fun e w' => e = .returned (.string ⟨(Lib.itoa n).toArray⟩) ∧ ∃ k os, w' = grow (w.drewN k) os := Any.strconv_Itoa Tryz.laysM171 n h0 h1 w htab
open Go.RowKit Go.Sort Go.Lib in
open Go.RowKit Go.Lib in
open Go.RowKit Go.Lib in
open Go.RowKit Go.Lib in
open Go.RowKit Go.Lib in
open Go.RowKit Go.Lib in
open Go.RowKit Go.Lib in
open Go.RowKit Go.Lib in
open Go.RowKit Go.Lib in
open Go.RowKit Go.Lib in
open Go.RowKit Go.Lib in
def Tryz.laysM145_ren : Go.Shelf.Ren := ⟨fun | 145 => 166 | 220 => 182 | 219 => 205 | 217 => 211 | 225 => 222 | 224 => 223 | 267 => 224 | 266 => 232 | 314 => 238 | n => n, fun | 9 => 9 | 4 => 4 | 59 => 185 | 3 => 3 | 5 => 5 | 46 => 176 | 146 => 245 | 51 => 194 | n => n, fun | 1 => 0 | n => n⟩
theorem Tryz.laysM145 : Go.Proofs.LaysM.n145 Tryz.prog Tryz.laysM145_ren := {
  mixed := by kernel_rfl
  f145 := Tryz.func166.trans (congrArg some (by kernel_rfl))
  f217 := Tryz.func211.trans (congrArg some (by kernel_rfl))
  f219 := Tryz.func205.trans (congrArg some (by kernel_rfl))
  f220 := Tryz.func182.trans (congrArg some (by kernel_rfl))
  f224 := Tryz.func223.trans (congrArg some (by kernel_rfl))
  f225 := Tryz.func222.trans (congrArg some (by kernel_rfl))
  f266 := Tryz.func232.trans (congrArg some (by kernel_rfl))
  f267 := Tryz.func224.trans (congrArg some (by kernel_rfl))
  f314 := Tryz.func238.trans (congrArg some (by kernel_rfl))
  t3 := Tryz.underlying3
  a3 := Tryz.isAgg3
  z3 := Tryz.sizeOf3
  v3 := Tryz.zeroValue3
  t4 := Tryz.underlying4
  a4 := Tryz.isAgg4
  z4 := Tryz.sizeOf4
  v4 := Tryz.zeroValue4
  t5 := Tryz.underlying5
  a5 := Tryz.isAgg5
  z5 := Tryz.sizeOf5
  v5 := Tryz.zeroValue5
  t9 := Tryz.underlying9
  a9 := Tryz.isAgg9
  z9 := Tryz.sizeOf9
  v9 := Tryz.zeroValue9
  t46 := Tryz.underlying176
  a46 := Tryz.isAgg176
  z46 := Tryz.sizeOf176
  v46 := Tryz.zeroValue176
  t51 := Tryz.underlying194
  a51 := Tryz.isAgg194
  z51 := Tryz.sizeOf194
  v51 := Tryz.zeroValue194
  t59 := Tryz.underlying185
  a59 := Tryz.isAgg185
  z59 := Tryz.sizeOf185
  v59 := Tryz.zeroValue185
  t146 := Tryz.underlying245
  a146 := Tryz.isAgg245
  z146 := Tryz.sizeOf245
  v146 := Tryz.zeroValue245
  g1 := by kernel_rfl
  i3 := by kernel_rfl
  i4 := by kernel_rfl
  i5 := by kernel_rfl
  i9 := by kernel_rfl
  i46 := by kernel_rfl
  i51 := by kernel_rfl
  i59 := by kernel_rfl
  i146 := by kernel_rfl
  m1 := by kernel_rfl
  s1_3 := fun w h => Go.Proofs.cell_of_shapedOpen_int (zero := #[.int .i64 0]) (t := 3) h (of_decide_eq_true (by kernel_rfl)) (by kernel_rfl) rfl (by kernel_rfl) (by kernel_rfl) Tryz.underlying3 }
def Tryz.lays189_ren : Go.Shelf.Ren := ⟨fun | 189 => 163 | 125 => 181 | 257 => 180 | 128 => 203 | 129 => 204 | 294 => 194 | 295 => 195 | 296 => 196 | 297 => 197 | 298 => 198 | 299 => 199 | 216 => 200 | 300 => 201 | 301 => 202 | 328 => 216 | 329 => 217 | 330 => 218 | 331 => 219 | 332 => 220 | 215 => 221 | 343 => 237 | n => n, fun | 28 => 64 | 3 => 3 | 46 => 176 | 0 => 0 | 51 => 194 | 53 => 219 | 4 => 4 | 183 => 211 | 182 => 210 | 131 => 102 | 5 => 5 | 9 => 9 | 218 => 226 | 222 => 230 | 228 => 242 | 229 => 243 | n => n, fun | n => n⟩
theorem Tryz.lays189 : Go.Proofs.Lays.n189 Tryz.prog Tryz.lays189_ren := {
  mixed := by kernel_rfl
  f125 := Tryz.func181.trans (congrArg some (by kernel_rfl))
  f128 := Tryz.func203.trans (congrArg some (by kernel_rfl))
  f129 := Tryz.func204.trans (congrArg some (by kernel_rfl))
  f189 := Tryz.func163.trans (congrArg some (by kernel_rfl))
  f215 := Tryz.func221.trans (congrArg some (by kernel_rfl))
  f216 := Tryz.func200.trans (congrArg some (by kernel_rfl))
  f257 := Tryz.func180.trans (congrArg some (by kernel_rfl))
  f294 := Tryz.func194.trans (congrArg some (by kernel_rfl))
  f295 := Tryz.func195.trans (congrArg some (by kernel_rfl))
  f296 := Tryz.func196.trans (congrArg some (by kernel_rfl))
  f297 := Tryz.func197.trans (congrArg some (by kernel_rfl))
  f298 := Tryz.func198.trans (congrArg some (by kernel_rfl))
  f299 := Tryz.func199.trans (congrArg some (by kernel_rfl))
  f300 := Tryz.func201.trans (congrArg some (by kernel_rfl))
  f301 := Tryz.func202.trans (congrArg some (by kernel_rfl))
  f328 := Tryz.func216.trans (congrArg some (by kernel_rfl))
  f329 := Tryz.func217.trans (congrArg some (by kernel_rfl))
  f330 := Tryz.func218.trans (congrArg some (by kernel_rfl))
  f331 := Tryz.func219.trans (congrArg some (by kernel_rfl))
  f332 := Tryz.func220.trans (congrArg some (by kernel_rfl))
  f343 := Tryz.func237.trans (congrArg some (by kernel_rfl))
  t0 := Tryz.underlying0
  a0 := Tryz.isAgg0
  z0 := Tryz.sizeOf0
  v0 := Tryz.zeroValue0
  t3 := Tryz.underlying3
  a3 := Tryz.isAgg3
  z3 := Tryz.sizeOf3
  v3 := Tryz.zeroValue3
  t4 := Tryz.underlying4
  a4 := Tryz.isAgg4
  z4 := Tryz.sizeOf4
  v4 := Tryz.zeroValue4
  t5 := Tryz.underlying5
  a5 := Tryz.isAgg5
  z5 := Tryz.sizeOf5
  v5 := Tryz.zeroValue5
  t9 := Tryz.underlying9
  a9 := Tryz.isAgg9
  z9 := Tryz.sizeOf9
  v9 := Tryz.zeroValue9
  t28 := Tryz.underlying64
  a28 := Tryz.isAgg64
  z28 := Tryz.sizeOf64
  v28 := Tryz.zeroValue64
  t46 := Tryz.underlying176
  a46 := Tryz.isAgg176
  z46 := Tryz.sizeOf176
  v46 := Tryz.zeroValue176
  t51 := Tryz.underlying194
  a51 := Tryz.isAgg194
  z51 := Tryz.sizeOf194
  v51 := Tryz.zeroValue194
  t53 := Tryz.underlying219
  a53 := Tryz.isAgg219
  z53 := Tryz.sizeOf219
  v53 := Tryz.zeroValue219
  t131 := Tryz.underlying102
  a131 := Tryz.isAgg102
  z131 := Tryz.sizeOf102
  v131 := Tryz.zeroValue102
  t182 := Tryz.underlying210
  a182 := Tryz.isAgg210
  z182 := Tryz.sizeOf210
  v182 := Tryz.zeroValue210
  t183 := Tryz.underlying211
  a183 := Tryz.isAgg211
  z183 := Tryz.sizeOf211
  v183 := Tryz.zeroValue211
  t218 := Tryz.underlying226
  a218 := Tryz.isAgg226
  z218 := Tryz.sizeOf226
  v218 := Tryz.zeroValue226
  t222 := Tryz.underlying230
  a222 := Tryz.isAgg230
  z222 := Tryz.sizeOf230
  v222 := Tryz.zeroValue230
  t228 := Tryz.underlying242
  a228 := Tryz.isAgg242
  z228 := Tryz.sizeOf242
  v228 := Tryz.zeroValue242
  t229 := Tryz.underlying243
  a229 := Tryz.isAgg243
  z229 := Tryz.sizeOf243
  v229 := Tryz.zeroValue243 }
open Go.Sort Go.RowKit in
theorem Tryz.slices_Sort_int (blk off cap : Nat) (zs : List Int) (w : World) (hH : Holds (Value.int .i64) w blk off zs.toArray) (hblk : blk < w.heap.size) (hsz : zs.length < 4611686018427387904) :
    Calls Tryz.prog 163 #[.slice (some ⟨blk, off, none⟩) zs.length cap] w fun e w' =>
      e = .returned (.tuple #[]) ∧ ∃ n os, w' = grow (putRow (Value.int .i64) (Sort.ahead w n) blk off (zs.mergeSort fun x y => decide (x ≤ y)).toArray) os := Any.slices_Sort_int Tryz.lays189 blk off cap zs w hH hblk hsz
open Go.RowKit Go.Lib in
open Go.RowKit Go.Lib in
open Go.RowKit Go.Sort in
theorem Tryz.slices_Sort_int_none (p : Option Addr) (cap : Nat) (w : World) :
    Calls Tryz.prog 163 #[.slice p 0 cap] w fun e w' => e = .returned (.tuple #[]) ∧ w' = w := Any.slices_Sort_int_none Tryz.lays189 p cap w
section
theorem k0_ (v_s : Value) (s : List Int) (L_s : Hp) (w : World) (o_s : OwnF encI 3 v_s s L_s) (h_s : Hh w L_s) (hn : s.length ≤ 268435456) :
    Calls Tryz.prog 163 #[v_s] w fun e w' => ∃ L1, e = .returned (.tuple #[]) ∧ St w (L_s.map (·.1)) L1 w' ∧ OwnF encI 3 v_s (sortI s) L1 :=
  sort_own (srt := sortI) sortI_len (fun b o c zs w h1 h2 h3 => Tryz.slices_Sort_int b o c zs w h1 h2 h3) Tryz.slices_Sort_int_none o_s h_s hn
theorem k1_ (a b : ByteArray) (w : World) : Calls Tryz.prog 188 #[.string a, .string b] w fun e w' => e = .returned (.int .i64 (cmpS a b)) ∧ St w [] [] w' := by
  refine (Tryz.strings_Compare a b w).mono ?_
  rintro e w' ⟨rfl, rfl⟩
  exact ⟨rfl, St.init _⟩
end
def TabOk (w : World) : Prop := Go.Lib.TabIs Tryz.prog w "internal/strconv.uint64pow10" .u64 Go.Lib.pow10Tab
theorem tab_st {w w' : World} {L : Hp} (h : TabOk w) (hs : St w [] L w') : TabOk w' := by
  have hgn : Tryz.prog.globalNamed "internal/strconv.uint64pow10" = some 1 := by kernel_rfl
  unfold TabOk Go.Lib.TabIs World.var? at h ⊢
  rw [hgn] at h ⊢
  simp only [Option.bind_some] at h ⊢
  have hlt : 1 < w.heap.size := by
    rcases Nat.lt_or_ge 1 w.heap.size with h' | h'
    · exact h'
    · rw [Array.getElem?_eq_none h'] at h; cases h
  rw [hs.keep 1 hlt (by simp)]
  exact h
theorem st_grow (w : World) (k : Nat) (os : Array Obj) : St w [] [] (Go.Sort.grow (w.drewN k) os) := ⟨rfl, rfl, rfl, by show w.heap.size ≤ (w.heap ++ os).size; rw [Array.size_append]; omega, fun k hk _ => by show (w.heap ++ os)[k]? = _; rw [Array.getElem?_append_left hk], (fun _ h => by cases h), List.nodup_nil⟩
theorem k2_ (n : Int) (w : World) (h0 : 0 ≤ n ∧ n ≤ 4294967295) (ht : TabOk w) : Calls Tryz.prog 154 #[i64 n] w fun e w' => e = .returned (.string (numBA n)) ∧ St w [] [] w' := by
  refine (Tryz.strconv_Itoa n (by omega) (by omega) w ht).mono ?_
  rintro e w' ⟨rfl, k, os, rfl⟩
  refine ⟨?_, st_grow _ _ _⟩
  unfold numBA numT
  rw [if_pos h0, show Go.Lib.itoa n = Go.Lib.decDigits n.toNat from by unfold Go.Lib.itoa; rw [if_neg (by omega)]]
def tbt1 : TT := .node .leaf 0 ⟨.other, 1, false⟩ .leaf
def tbt2 : TT := .node tbt1 3 ⟨.int .i64, 1, false⟩ .leaf
def tbt3 : TT := .node .leaf 5 ⟨.int .u8, 1, false⟩ .leaf
def tbt4 : TT := .node tbt3 9 ⟨.str, 1, false⟩ .leaf
def tbt5 : TT := .node tbt2 4 ⟨.bool, 1, false⟩ tbt4
def tbt6 : TT := .node .leaf 22 ⟨.slice 148, 1, false⟩ .leaf
def tbt7 : TT := .node tbt6 23 ⟨.slice 150, 1, false⟩ .leaf
def tbt8 : TT := .node .leaf 26 ⟨.struct [0, 1, 2, 3, 4, 5], 6, true⟩ .leaf
def tbt9 : TT := .node tbt8 28 ⟨.struct [0, 6, 7, 8, 9], 10, true⟩ .leaf
def tbt10 : TT := .node tbt7 24 ⟨.slice 152, 1, false⟩ tbt9
def tbt11 : TT := .node tbt5 20 ⟨.other, 1, false⟩ tbt10
def tbt12 : TT := .node .leaf 31 ⟨.slice 101, 1, false⟩ .leaf
def tbt13 : TT := .node tbt12 32 ⟨.slice 137, 1, false⟩ .leaf
def tbt14 : TT := .node .leaf 36 ⟨.struct [0, 6, 7, 8, 9], 10, true⟩ .leaf
def tbt15 : TT := .node tbt14 37 ⟨.other, 1, false⟩ .leaf
def tbt16 : TT := .node tbt13 34 ⟨.struct [0, 1, 2, 3, 4, 5], 6, true⟩ tbt15
def tbt17 : TT := .node .leaf 64 ⟨.slice 3, 1, false⟩ .leaf
def tbt18 : TT := .node tbt17 72 ⟨.other, 1, false⟩ .leaf
def tbt19 : TT := .node .leaf 76 ⟨.other, 1, false⟩ .leaf
def tbt20 : TT := .node tbt18 75 ⟨.struct [0, 1, 2, 3], 4, true⟩ tbt19
def tbt21 : TT := .node tbt16 43 ⟨.slice 5, 1, false⟩ tbt20
def tbt22 : TT := .node tbt11 30 ⟨.slice 123, 1, false⟩ tbt21
def tbt23 : TT := .node .leaf 101 ⟨.struct [0, 1], 2, true⟩ .leaf
def tbt24 : TT := .node tbt23 102 ⟨.other, 1, false⟩ .leaf
def tbt25 : TT := .node .leaf 109 ⟨.struct [0, 10], 11, true⟩ .leaf
def tbt26 : TT := .node tbt25 121 ⟨.other, 1, false⟩ .leaf
def tbt27 : TT := .node tbt24 107 ⟨.other, 1, false⟩ tbt26
def tbt28 : TT := .node .leaf 137 ⟨.struct [0, 1, 2, 3], 4, true⟩ .leaf
def tbt29 : TT := .node tbt28 148 ⟨.struct [0, 1, 2], 3, true⟩ .leaf
def tbt30 : TT := .node .leaf 152 ⟨.struct [0, 1, 2, 3], 4, true⟩ .leaf
def tbt31 : TT := .node tbt30 166 ⟨.other, 1, false⟩ .leaf
def tbt32 : TT := .node tbt29 150 ⟨.struct [0, 1], 2, true⟩ tbt31
def tbt33 : TT := .node tbt27 123 ⟨.struct [0, 1, 2], 3, true⟩ tbt32
def tbt34 : TT := .node .leaf 171 ⟨.other, 1, false⟩ .leaf
def tbt35 : TT := .node tbt34 172 ⟨.other, 1, false⟩ .leaf
def tbt36 : TT := .node .leaf 184 ⟨.other, 1, false⟩ .leaf
def tbt37 : TT := .node tbt36 185 ⟨.other, 1, false⟩ .leaf
def tbt38 : TT := .node tbt35 176 ⟨.int .u64, 1, false⟩ tbt37
def tbt39 : TT := .node .leaf 195 ⟨.slice 43, 1, false⟩ .leaf
def tbt40 : TT := .node tbt39 199 ⟨.other, 1, false⟩ .leaf
def tbt41 : TT := .node .leaf 204 ⟨.other, 1, false⟩ .leaf
def tbt42 : TT := .node tbt40 200 ⟨.other, 1, false⟩ tbt41
def tbt43 : TT := .node tbt38 194 ⟨.int .u32, 1, false⟩ tbt42
def tbt44 : TT := .node tbt33 168 ⟨.other, 1, false⟩ tbt43
def tbt45 : TT := .node tbt22 78 ⟨.other, 1, false⟩ tbt44
theorem tbt1_ok : tbt1.Ok Tryz.prog := ⟨trivial, ⟨trivial, Tryz.sizeOf0, Tryz.isAgg0⟩, trivial⟩
theorem tbt2_ok : tbt2.Ok Tryz.prog := ⟨tbt1_ok, ⟨Tryz.runUnderlying3, Tryz.sizeOf3, Tryz.isAgg3⟩, trivial⟩
theorem tbt3_ok : tbt3.Ok Tryz.prog := ⟨trivial, ⟨Tryz.runUnderlying5, Tryz.sizeOf5, Tryz.isAgg5⟩, trivial⟩
theorem tbt4_ok : tbt4.Ok Tryz.prog := ⟨tbt3_ok, ⟨Tryz.runUnderlying9, Tryz.sizeOf9, Tryz.isAgg9⟩, trivial⟩
theorem tbt5_ok : tbt5.Ok Tryz.prog := ⟨tbt2_ok, ⟨Tryz.runUnderlying4, Tryz.sizeOf4, Tryz.isAgg4⟩, tbt4_ok⟩
theorem tbt6_ok : tbt6.Ok Tryz.prog := ⟨trivial, ⟨Tryz.runUnderlying22, Tryz.sizeOf22, Tryz.isAgg22⟩, trivial⟩
theorem tbt7_ok : tbt7.Ok Tryz.prog := ⟨tbt6_ok, ⟨Tryz.runUnderlying23, Tryz.sizeOf23, Tryz.isAgg23⟩, trivial⟩
theorem tbt8_ok : tbt8.Ok Tryz.prog := ⟨trivial, ⟨⟨_, Tryz.runUnderlying26, rfl, ⟨⟨_, Tryz.sizeOf3, rfl⟩, ⟨⟨_, Tryz.sizeOf3, rfl⟩, ⟨⟨_, Tryz.sizeOf3, rfl⟩, ⟨⟨_, Tryz.sizeOf22, rfl⟩, ⟨⟨_, Tryz.sizeOf23, rfl⟩, ⟨⟨_, Tryz.sizeOf24, rfl⟩, trivial⟩⟩⟩⟩⟩⟩⟩, Tryz.sizeOf26, Tryz.isAgg26⟩, trivial⟩
theorem tbt9_ok : tbt9.Ok Tryz.prog := ⟨tbt8_ok, ⟨⟨_, Tryz.runUnderlying28, rfl, ⟨⟨_, Tryz.sizeOf26, rfl⟩, ⟨⟨_, Tryz.sizeOf3, rfl⟩, ⟨⟨_, Tryz.sizeOf3, rfl⟩, ⟨⟨_, Tryz.sizeOf3, rfl⟩, ⟨⟨_, Tryz.sizeOf4, rfl⟩, trivial⟩⟩⟩⟩⟩⟩, Tryz.sizeOf28, Tryz.isAgg28⟩, trivial⟩
theorem tbt10_ok : tbt10.Ok Tryz.prog := ⟨tbt7_ok, ⟨Tryz.runUnderlying24, Tryz.sizeOf24, Tryz.isAgg24⟩, tbt9_ok⟩
theorem tbt11_ok : tbt11.Ok Tryz.prog := ⟨tbt5_ok, ⟨trivial, Tryz.sizeOf20, Tryz.isAgg20⟩, tbt10_ok⟩
theorem tbt12_ok : tbt12.Ok Tryz.prog := ⟨trivial, ⟨Tryz.runUnderlying31, Tryz.sizeOf31, Tryz.isAgg31⟩, trivial⟩
theorem tbt13_ok : tbt13.Ok Tryz.prog := ⟨tbt12_ok, ⟨Tryz.runUnderlying32, Tryz.sizeOf32, Tryz.isAgg32⟩, trivial⟩
theorem tbt14_ok : tbt14.Ok Tryz.prog := ⟨trivial, ⟨⟨_, Tryz.runUnderlying36, rfl, ⟨⟨_, Tryz.sizeOf34, rfl⟩, ⟨⟨_, Tryz.sizeOf3, rfl⟩, ⟨⟨_, Tryz.sizeOf3, rfl⟩, ⟨⟨_, Tryz.sizeOf3, rfl⟩, ⟨⟨_, Tryz.sizeOf4, rfl⟩, trivial⟩⟩⟩⟩⟩⟩, Tryz.sizeOf36, Tryz.isAgg36⟩, trivial⟩
theorem tbt15_ok : tbt15.Ok Tryz.prog := ⟨tbt14_ok, ⟨trivial, Tryz.sizeOf37, Tryz.isAgg37⟩, trivial⟩
theorem tbt16_ok : tbt16.Ok Tryz.prog := ⟨tbt13_ok, ⟨⟨_, Tryz.runUnderlying34, rfl, ⟨⟨_, Tryz.sizeOf3, rfl⟩, ⟨⟨_, Tryz.sizeOf3, rfl⟩, ⟨⟨_, Tryz.sizeOf3, rfl⟩, ⟨⟨_, Tryz.sizeOf30, rfl⟩, ⟨⟨_, Tryz.sizeOf31, rfl⟩, ⟨⟨_, Tryz.sizeOf32, rfl⟩, trivial⟩⟩⟩⟩⟩⟩⟩, Tryz.sizeOf34, Tryz.isAgg34⟩, tbt15_ok⟩
theorem tbt17_ok : tbt17.Ok Tryz.prog := ⟨trivial, ⟨Tryz.runUnderlying64, Tryz.sizeOf64, Tryz.isAgg64⟩, trivial⟩
theorem tbt18_ok : tbt18.Ok Tryz.prog := ⟨tbt17_ok, ⟨trivial, Tryz.sizeOf72, Tryz.isAgg72⟩, trivial⟩
theorem tbt19_ok : tbt19.Ok Tryz.prog := ⟨trivial, ⟨trivial, Tryz.sizeOf76, Tryz.isAgg76⟩, trivial⟩
theorem tbt20_ok : tbt20.Ok Tryz.prog := ⟨tbt18_ok, ⟨⟨_, Tryz.runUnderlying75, rfl, ⟨⟨_, Tryz.sizeOf3, rfl⟩, ⟨⟨_, Tryz.sizeOf9, rfl⟩, ⟨⟨_, Tryz.sizeOf9, rfl⟩, ⟨⟨_, Tryz.sizeOf43, rfl⟩, trivial⟩⟩⟩⟩⟩, Tryz.sizeOf75, Tryz.isAgg75⟩, tbt19_ok⟩
theorem tbt21_ok : tbt21.Ok Tryz.prog := ⟨tbt16_ok, ⟨Tryz.runUnderlying43, Tryz.sizeOf43, Tryz.isAgg43⟩, tbt20_ok⟩
theorem tbt22_ok : tbt22.Ok Tryz.prog := ⟨tbt11_ok, ⟨Tryz.runUnderlying30, Tryz.sizeOf30, Tryz.isAgg30⟩, tbt21_ok⟩
theorem tbt23_ok : tbt23.Ok Tryz.prog := ⟨trivial, ⟨⟨_, Tryz.runUnderlying101, rfl, ⟨⟨_, Tryz.sizeOf9, rfl⟩, ⟨⟨_, Tryz.sizeOf3, rfl⟩, trivial⟩⟩⟩, Tryz.sizeOf101, Tryz.isAgg101⟩, trivial⟩
theorem tbt24_ok : tbt24.Ok Tryz.prog := ⟨tbt23_ok, ⟨trivial, Tryz.sizeOf102, Tryz.isAgg102⟩, trivial⟩
theorem tbt25_ok : tbt25.Ok Tryz.prog := ⟨trivial, ⟨⟨_, Tryz.runUnderlying109, rfl, ⟨⟨_, Tryz.sizeOf36, rfl⟩, ⟨⟨_, Tryz.sizeOf3, rfl⟩, trivial⟩⟩⟩, Tryz.sizeOf109, Tryz.isAgg109⟩, trivial⟩
theorem tbt26_ok : tbt26.Ok Tryz.prog := ⟨tbt25_ok, ⟨trivial, Tryz.sizeOf121, Tryz.isAgg121⟩, trivial⟩
theorem tbt27_ok : tbt27.Ok Tryz.prog := ⟨tbt24_ok, ⟨trivial, Tryz.sizeOf107, Tryz.isAgg107⟩, tbt26_ok⟩
theorem tbt28_ok : tbt28.Ok Tryz.prog := ⟨trivial, ⟨⟨_, Tryz.runUnderlying137, rfl, ⟨⟨_, Tryz.sizeOf3, rfl⟩, ⟨⟨_, Tryz.sizeOf9, rfl⟩, ⟨⟨_, Tryz.sizeOf9, rfl⟩, ⟨⟨_, Tryz.sizeOf3, rfl⟩, trivial⟩⟩⟩⟩⟩, Tryz.sizeOf137, Tryz.isAgg137⟩, trivial⟩
theorem tbt29_ok : tbt29.Ok Tryz.prog := ⟨tbt28_ok, ⟨⟨_, Tryz.runUnderlying148, rfl, ⟨⟨_, Tryz.sizeOf3, rfl⟩, ⟨⟨_, Tryz.sizeOf43, rfl⟩, ⟨⟨_, Tryz.sizeOf3, rfl⟩, trivial⟩⟩⟩⟩, Tryz.sizeOf148, Tryz.isAgg148⟩, trivial⟩
theorem tbt30_ok : tbt30.Ok Tryz.prog := ⟨trivial, ⟨⟨_, Tryz.runUnderlying152, rfl, ⟨⟨_, Tryz.sizeOf3, rfl⟩, ⟨⟨_, Tryz.sizeOf9, rfl⟩, ⟨⟨_, Tryz.sizeOf9, rfl⟩, ⟨⟨_, Tryz.sizeOf3, rfl⟩, trivial⟩⟩⟩⟩⟩, Tryz.sizeOf152, Tryz.isAgg152⟩, trivial⟩
theorem tbt31_ok : tbt31.Ok Tryz.prog := ⟨tbt30_ok, ⟨trivial, Tryz.sizeOf166, Tryz.isAgg166⟩, trivial⟩
theorem tbt32_ok : tbt32.Ok Tryz.prog := ⟨tbt29_ok, ⟨⟨_, Tryz.runUnderlying150, rfl, ⟨⟨_, Tryz.sizeOf9, rfl⟩, ⟨⟨_, Tryz.sizeOf3, rfl⟩, trivial⟩⟩⟩, Tryz.sizeOf150, Tryz.isAgg150⟩, tbt31_ok⟩
theorem tbt33_ok : tbt33.Ok Tryz.prog := ⟨tbt27_ok, ⟨⟨_, Tryz.runUnderlying123, rfl, ⟨⟨_, Tryz.sizeOf3, rfl⟩, ⟨⟨_, Tryz.sizeOf43, rfl⟩, ⟨⟨_, Tryz.sizeOf3, rfl⟩, trivial⟩⟩⟩⟩, Tryz.sizeOf123, Tryz.isAgg123⟩, tbt32_ok⟩
theorem tbt34_ok : tbt34.Ok Tryz.prog := ⟨trivial, ⟨trivial, Tryz.sizeOf171, Tryz.isAgg171⟩, trivial⟩
theorem tbt35_ok : tbt35.Ok Tryz.prog := ⟨tbt34_ok, ⟨trivial, Tryz.sizeOf172, Tryz.isAgg172⟩, trivial⟩
theorem tbt36_ok : tbt36.Ok Tryz.prog := ⟨trivial, ⟨trivial, Tryz.sizeOf184, Tryz.isAgg184⟩, trivial⟩
theorem tbt37_ok : tbt37.Ok Tryz.prog := ⟨tbt36_ok, ⟨trivial, Tryz.sizeOf185, Tryz.isAgg185⟩, trivial⟩
theorem tbt38_ok : tbt38.Ok Tryz.prog := ⟨tbt35_ok, ⟨Tryz.runUnderlying176, Tryz.sizeOf176, Tryz.isAgg176⟩, tbt37_ok⟩
theorem tbt39_ok : tbt39.Ok Tryz.prog := ⟨trivial, ⟨Tryz.runUnderlying195, Tryz.sizeOf195, Tryz.isAgg195⟩, trivial⟩
theorem tbt40_ok : tbt40.Ok Tryz.prog := ⟨tbt39_ok, ⟨trivial, Tryz.sizeOf199, Tryz.isAgg199⟩, trivial⟩
theorem tbt41_ok : tbt41.Ok Tryz.prog := ⟨trivial, ⟨trivial, Tryz.sizeOf204, Tryz.isAgg204⟩, trivial⟩
theorem tbt42_ok : tbt42.Ok Tryz.prog := ⟨tbt40_ok, ⟨trivial, Tryz.sizeOf200, Tryz.isAgg200⟩, tbt41_ok⟩
theorem tbt43_ok : tbt43.Ok Tryz.prog := ⟨tbt38_ok, ⟨Tryz.runUnderlying194, Tryz.sizeOf194, Tryz.isAgg194⟩, tbt42_ok⟩
theorem tbt44_ok : tbt44.Ok Tryz.prog := ⟨tbt33_ok, ⟨trivial, Tryz.sizeOf168, Tryz.isAgg168⟩, tbt43_ok⟩
theorem tbt45_ok : tbt45.Ok Tryz.prog := ⟨tbt22_ok, ⟨trivial, Tryz.sizeOf78, Tryz.isAgg78⟩, tbt44_ok⟩
theorem tbk : TT.Ok Tryz.prog tbt45 := tbt45_ok
instance tbkI : TbOk Tryz.prog tbt45 := ⟨tbk⟩
instance mxI : Mx Tryz.prog := ⟨by kernel_rfl⟩
theorem mixed : Tryz.prog.follows .mixedOrders = true := by kernel_rfl
theorem k3_ (n lo hi : Int) (w : World) :
    Calls Tryz.prog 61 #[i64 n, i64 lo, i64 hi] w fun e w' => e = .returned (.bool (within n lo hi)) ∧ St w [] [] w' := by
 refine enter 15 Tryz.func61 rfl Tryz.ntmps61 rfl rfl ?_
 have hs1 := St.init w
 refine WC.r1 hs1 [] rfl (WC.sr (WL.r 4 hs1 [] rfl (WL.pA tbk 3 Acts.nil hs1 [] rfl rfl rfl rfl (fun g_ => trivial) (WL.r 1 hs1 [] rfl (WL.nil (WC.ret (retV1 rfl (resV.tmp rfl) ?_)))))))
 refine ⟨congrArg Ending.returned ?_, hs1.nil⟩
 rfl
theorem k4_ (A_a : Option Addr) (n_a c_a : Nat) (a : List UInt8) (left : Int) (w : World) (f_a : SlF encB w A_a n_a a) (h1 : 0 ≤ left) (h2 : left ≤ 1048576) (h3 : n_a ≤ 9223372036854775807) :
    Calls Tryz.prog 172 #[.slice A_a n_a c_a, i64 left] w fun e w' => e = .returned (.int .i64 (szR left n_a)) ∧ St w [] [] w' := by
 refine enter 12 Tryz.func172 rfl Tryz.ntmps172 rfl rfl ?_
 have hs1 := St.init w
 refine WC.r1 hs1 [] rfl (WC.r1 hs1 [] rfl (WC.seq (fun K2 hK2 => WC.r1 hs1 [] rfl ?_)))
 refine WC.cD rfl (fun qh3 => ?_) (fun qh3 => ?_)
 ·refine WC.r1 hs1 [] rfl (WC.ret (tkR ?_))
  clear hK2
  refine rtv rfl rfl hs1 ?_
  simp only [szR]; rw [if_neg (by omega)]
 refine WC.skip (hK2 _ _ (WC.r1 hs1 [] rfl (WC.ret (rtv rfl rfl hs1 ?_))))
 simp only [szR]; rw [if_pos (by omega)]
theorem k5_ (A_a : Option Addr) (n_a c_a : Nat) (a : List UInt8) (w : World) (f_a : SlF encB w A_a n_a a) (hn : n_a ≤ 1099511627776) :
    Calls Tryz.prog 18 #[.slice A_a n_a c_a] w fun e w' => ∃ A c L1, e = .returned (.slice A (a).length c) ∧ St w [] L1 w' ∧ OwnF encB 5 (.slice A (a).length c) (a) L1 := by
 refine enter 22 Tryz.func18 rfl Tryz.ntmps18 rfl rfl ?_
 have hs1 := St.init w
 refine WC.r1 hs1 [] rfl (WC.sr (WL.r 2 hs1 [] rfl (WL.makeF (F := encB) hs1 Tryz.underlying43 inf5 rfl rfl rfl rfl rfl rfl rfl rfl rfl ?_ ?_ (fun A5 c6 L2 whs3 hs3 ho4 => ?_))))
 · have e_ : Tryz.t5.bytes = 1 := rfl
   rw [e_]; omega
 · omega
 refine WL.r 1 hs3 [] rfl (WL.nil (WC.seq (fun K7 hK7 => WC.r1 hs3 [] rfl (WC.block ?_))))
 refine WC.lO [0, 2] rfl hs3 (fun k_ f L_ => ∃ (i : Nat) (A8 : Option Addr) (c9 : Nat), k_ = n_a - i ∧ (i ≤ n_a) ∧ OwnF encB 5 (.slice A8 (n_a) c9) (fillG encB a i) L_ ∧ Sub [(3, .slice A8 (n_a) c9), (4, .int .i64 i)] f) (((fun (i : Nat) => n_a - i) (0))) ?_ ?_
 ·refine ⟨0, _, _, rfl, ?_, (fillG_zero f_a.len ▸ ho4), ⟨rfl, rfl, trivial⟩⟩
  · exact Nat.zero_le _
 clear hs3
 rintro _ f w L10 ⟨i, A8, c9, rfl, p0, ho11, hG⟩ hF hs12
 refine WC.sub _ (hG.app hF) ?_
 clear hG hF
 refine WC.seq (fun K13 hK13 => WC.r1 hs12 [] rfl ?_)
 refine WC.cq rfl (fun h14 qh14 => ?_) (fun h14 qh14 => ?_)
 ·refine WC.skip (hK13 _ _ (WC.seq (fun K15 hK15 => WC.block (WC.region (WL.r 4 hs12 [] rfl ?_)))))
  refine WL.val rfl rfl rfl (Run.idxN Tryz.runUnderlying43 Tryz.sizeOf5 rfl rfl rfl ?_ ?_ ?_) ?_
  · exact SlF.some_ (SlF.st0 f_a hs12)
  · omega
  · omega
  refine WL.val rfl rfl rfl (Run.load Tryz.isAgg5 rfl rfl (SlF.one1 (SlF.st0 f_a hs12) ?_ rfl)) ?_
  · omega
  refine WL.val rfl rfl rfl (Run.idxN Tryz.runUnderlying43 Tryz.sizeOf5 rfl rfl rfl ?_ ?_ ?_) ?_
  · exact SlF.some_ (SlF.ofOwn ho11 (hs12.ow L10))
  · omega
  · omega
  refine WL.storeF1 (x' := _) hs12 ho11 Tryz.sizeOf5 rfl rfl rfl rfl rfl rfl rfl rfl rfl ?_ rfl (fun L16 whs17 hs17 ho18 _ => ?_)
  · omega
  refine WL.nil (hK15 _ _ (WC.region (WL.r 3 hs17 [] rfl (WL.nil (tkN ?_)))))
  rw [fillG_set (i := i) (by rw [f_a.len]; omega) (by simp) (by simp)] at ho18
  refine ⟨sbF rfl, _, hs17, _, ?_, i + 1, _, _, rfl, ?_, ho18, ⟨rfl, rfl, trivial⟩⟩
  · omega
  · omega
 refine WC.exit (hK7 _ _ (WC.r1 hs12 [] rfl (WC.ret (retV1 rfl (resV.tmp rfl) ?_))))
 have hx_ := OwnF.eqOf (xs := a) ho11 (fillG_full (by rw [f_a.len]; omega))
 have hy_ := ho11
 rw [hx_] at hy_
 obtain ⟨A_, c_, hz_⟩ := hy_.shape
 exact ⟨A_, c_, _, congrArg Ending.returned hz_, (St.keep1 hs12), hz_ ▸ hy_⟩
theorem k6_ (A_a : Option Addr) (n_a c_a : Nat) (a : List UInt8) (A_b : Option Addr) (n_b c_b : Nat) (b : List UInt8) (w : World) (f_a : SlF encB w A_a n_a a) (f_b : SlF encB w A_b n_b b) (hn : n_a ≤ 1099511627776) (hab : a = b) :
    Calls Tryz.prog 20 #[.slice A_a n_a c_a, .slice A_b n_b c_b] w fun e w' => e = .returned (.bool true) ∧ St w [] [] w' := by
 subst hab
 obtain rfl : n_a = n_b := f_a.len.symm.trans f_b.len
 refine enter 26 Tryz.func20 rfl Tryz.ntmps20 rfl rfl ?_
 have hs1 := St.init w
 refine WC.r1 hs1 [] rfl (WC.seq (fun K2 hK2 => WC.r1 hs1 [] rfl (WC.condF rfl (by simp) (WC.skip (hK2 _ _ (WC.seq (fun K4 hK4 => WC.r1 hs1 [] rfl ?_)))))))
 refine WC.block (WC.lS [0, 1, 10] rfl hs1 (fun k_ f w' => ∃ (i : Nat), k_ = n_a - i ∧ (i ≤ n_a) ∧ Sub [(5, .int .i64 i)] f) ((fun (i : Nat) => n_a - i) (0)) ?_ ?_)
 ·refine ⟨0, rfl, ?_, ⟨rfl, trivial⟩⟩
  · exact Nat.zero_le _
 clear hs1
 rintro _ f w ⟨i, rfl, p0, hG⟩ hF hs5
 refine WC.sub _ (hG.app hF) ?_
 clear hG hF
 refine WC.seq (fun K6 hK6 => WC.r1 hs5 [] rfl ?_)
 refine WC.cD rfl (fun qh7 => ?_) (fun qh7 => ?_)
 ·refine WC.skip (hK6 _ _ (WC.seq (fun K8 hK8 => WC.block (WC.sq1 hs5 (WQ.r 2 [] rfl ?_)))))
  refine WQ.val rfl rfl rfl (fun w_ hs_ => (Run.idxN Tryz.runUnderlying43 Tryz.sizeOf5 rfl rfl rfl ?_ ?_ ?_)) ?_
  · exact SlF.some_ (SlF.st0 f_a (hs_ : St _ _ _ _))
  · omega
  · omega
  refine WQ.val rfl rfl rfl (fun w_ hs_ => (Run.load Tryz.isAgg5 rfl rfl (SlF.one1 (SlF.st0 f_a (hs_ : St _ _ _ _)) ?_ rfl))) ?_
  · omega
  refine WQ.r 2 [] rfl ?_
  refine WQ.val rfl rfl rfl (fun w_ hs_ => (Run.idxN Tryz.runUnderlying43 Tryz.sizeOf5 rfl rfl rfl ?_ ?_ ?_)) ?_
  · exact SlF.some_ (SlF.st0 f_b (hs_ : St _ _ _ _))
  · omega
  · omega
  refine WQ.val rfl rfl rfl (fun w_ hs_ => (Run.load Tryz.isAgg5 rfl rfl (SlF.one1 (SlF.st0 f_b (hs_ : St _ _ _ _)) ?_ rfl))) ?_
  · omega
  refine WQ.r 1 [] rfl (WQ.nil (fun _ (hs9 : St _ _ _ _) => WC.condF rfl (by simp) (WC.skip (hK8 _ _ (WC.region (WL.r 3 hs9 [] rfl (WL.nil ?_)))))))
  refine tkN (⟨sbF rfl, hs9, _, ?_, i + 1, rfl, ?_, ⟨rfl, trivial⟩⟩)
  · omega
  · omega
 refine WC.exit (hK4 _ _ (WC.r1 hs5 [] rfl (WC.ret (rtv rfl rfl hs5 ?_))))
 rfl
theorem k7_ (v_a : Value) (a : List UInt8) (L_a : Hp) (k : Int) (w : World) (o_a : OwnF encB 5 v_a a L_a) (h_a : Hh w L_a) (h1 : 0 ≤ k) (h2 : k ≤ 1099511627776) (h3 : a.length ≤ 1099511627776) :
    Calls Tryz.prog 21 #[v_a, i64 k] w fun e w' => ∃ L1, e = .returned (.int .i64 (k + 1 * a.length)) ∧ St w (L_a.map (·.1)) L1 w' ∧ OwnF encB 5 v_a (marks ub 1 k a.length) L1 := by
 obtain ⟨A_a, c_a, rfl⟩ := o_a.shape
 refine enter 20 Tryz.func21 rfl Tryz.ntmps21 rfl rfl ?_
 have hs1 := St.lent1 w L_a o_a h_a
 refine WC.r1 hs1 [] rfl (WC.seq (fun K2 hK2 => WC.r1 hs1 [] rfl (WC.block ?_)))
 refine WC.lO [4] rfl hs1 (fun k_ f L_ => ∃ (i : Nat) (q : Int), k_ = a.length - i ∧ (i ≤ a.length) ∧ (q = k + 1 * i) ∧ OwnF encB 5 (.slice A_a (a.length) c_a) (fillM ub 1 k a i) L_ ∧ Sub [(0, .slice A_a (a.length) c_a), (5, .int .i64 i), (1, .int .i64 q)] f) (((fun (i : Nat) (q : Int) => a.length - i) (0) (k))) ?_ ?_
 ·refine ⟨0, k, rfl, ?_, ?_, (fillM_zero.symm ▸ o_a), ⟨rfl, rfl, rfl, trivial⟩⟩
  · exact Nat.zero_le _
  · simp
 clear hs1
 rintro _ f w L5 ⟨i, q, rfl, p0, p1, ho6, hG⟩ hF hs7
 refine WC.sub _ (hG.app hF) ?_
 clear hG hF
 have hfl : (fillM ub 1 k a i).length = a.length := fillM_len p0
 have hq : k + ((1 : Nat) : Int) * (i : Int) = q := by omega
 refine WC.seq (fun K8 hK8 => WC.r1 hs7 [] rfl ?_)
 refine WC.cq rfl (fun h9 qh9 => ?_) (fun h9 qh9 => ?_)
 ·refine WC.skip (hK8 _ _ (WC.seq (fun K10 hK10 => WC.block (WC.sr (WL.r 4 hs7 [] rfl ?_)))))
  refine WL.val rfl rfl rfl (Run.idxN Tryz.runUnderlying43 Tryz.sizeOf5 rfl rfl rfl ?_ ?_ ?_) ?_
  · exact SlF.some_ (SlF.ofOwn ho6 (hs7.ow L5))
  · omega
  · omega
  refine WL.storeF1 (x' := _) hs7 ho6 Tryz.sizeOf5 rfl rfl rfl rfl rfl rfl rfl rfl rfl ?_ (by first | rfl | (rw [gat_set (by (try simp only [List.length_set]); omega) rfl]; rfl)) (fun L11 whs12 hs12 ho13 _ => ?_)
  · omega
  refine WL.nil (WC.region (WL.r 3 hs12 [] rfl (WL.nil (hK10 _ _ (WC.region (WL.r 3 hs12 [] rfl (WL.nil ?_)))))))
  refine tkN ?_
  try simp only [List.set_set] at ho13
  rw [fillM_set (i := i) (by omega) (by rw [hq]) (by simp)] at ho13
  refine ⟨sbF rfl, _, hs12, _, ?_, i + 1, _, rfl, ?_, ?_, ho13, ⟨rfl, rfl, rfl, trivial⟩⟩
  · omega
  · omega
  · omega
 refine WC.exit (hK2 _ _ (WC.r1 hs7 [] rfl (WC.ret (retV1 rfl (resV.tmp rfl) ?_))))
 have hx_ := OwnF.eqOf (xs := marks ub 1 k a.length) ho6 (fillM_full (by omega))
 have hi_ : i = a.length := by omega
 refine ⟨_, ?_, (St.keep1 hs7), hx_ ▸ ho6⟩
 rw [p1, hi_]
theorem k8_ (A_a : Option Addr) (n_a c_a : Nat) (a : List UInt8) (k : Int) (m : Nat) (w : World) (f_a : SlF encB w A_a n_a a) (hm : a = marks ub 1 k m) (h1 : 0 ≤ k) (h2 : k ≤ 1099511627776) (h3 : n_a ≤ 1099511627776) :
    Calls Tryz.prog 155 #[.slice A_a n_a c_a, i64 k] w fun e w' => e = .returned (.int .i64 (k + 1 * m)) ∧ St w [] [] w' := by
 have hnm : n_a = m := by rw [← f_a.len, hm, marks_len]
 subst hnm
 refine enter 22 Tryz.func155 rfl Tryz.ntmps155 rfl rfl ?_
 have hs1 := St.init w
 refine WC.r1 hs1 [] rfl (WC.seq (fun K2 hK2 => WC.r1 hs1 [] rfl (WC.block ?_)))
 refine WC.lS [0] rfl hs1 (fun k_ f w' => ∃ (i : Nat) (q : Int), k_ = n_a - i ∧ (i ≤ n_a) ∧ (q = k + 1 * i) ∧ Sub [(5, .int .i64 i), (1, .int .i64 q)] f) ((fun (i : Nat) (q : Int) => n_a - i) (0) (k)) ?_ ?_
 ·refine ⟨0, k, rfl, ?_, ?_, ⟨rfl, rfl, trivial⟩⟩
  · exact Nat.zero_le _
  · simp
 clear hs1
 rintro _ f w ⟨i, q, rfl, p0, p1, hG⟩ hF hs3
 refine WC.sub _ (hG.app hF) ?_
 clear hG hF
 have hq : k + ((1 : Nat) : Int) * (i : Int) = q := by omega
 refine WC.seq (fun K4 hK4 => WC.r1 hs3 [] rfl ?_)
 refine WC.cD rfl (fun qh5 => ?_) (fun qh5 => ?_)
 ·have hg : gat encB a i = ub q := by rw [hm, marks_gat (by omega), hq]
  refine WC.skip (hK4 _ _ (WC.seq (fun K6 hK6 => WC.block (WC.seq (fun K7 hK7 => WC.sr (WL.r 2 hs3 [] rfl ?_))))))
  refine WL.val rfl rfl rfl (Run.idxN Tryz.runUnderlying43 Tryz.sizeOf5 rfl rfl rfl ?_ ?_ ?_) ?_
  · exact SlF.some_ (SlF.st0 f_a hs3)
  · omega
  · omega
  refine WL.val rfl rfl rfl (Run.load Tryz.isAgg5 rfl rfl (SlF.one1 (SlF.st0 f_a hs3) ?_ rfl)) ?_
  · omega
  refine WL.r 3 hs3 [] rfl (WL.nil (WC.condF rfl (by simp [hg]) (WC.skip (hK7 _ _ (WC.region (WL.r 3 hs3 [] rfl (WL.nil ?_)))))))
  refine hK6 _ _ (WC.region (WL.r 3 hs3 [] rfl (WL.nil (tkN ?_))))
  refine ⟨sbF rfl, hs3, _, ?_, i + 1, _, rfl, ?_, ?_, ⟨rfl, rfl, trivial⟩⟩
  · omega
  · omega
  · omega
 refine WC.exit (hK2 _ _ (WC.r1 hs3 [] rfl (WC.ret (rtv rfl rfl hs3 ?_))))
 rw [p1, show i = n_a from by omega]
theorem k9_ (n : Int) (w : World) :
    Calls Tryz.prog 153 #[i64 n] w fun e w' => e = .returned (.bool (isNumB n)) ∧ St w [] [] w' := by
 refine enter 5 Tryz.func153 rfl Tryz.ntmps153 rfl rfl ?_
 have hs1 := St.init w
 refine WC.r1 hs1 [] rfl (WC.sr (WL.r 1 hs1 [] rfl (WL.cl Tryz.call61 rfl (k3_ _ _ _ _) ?_)))
 rintro _ whs2 ⟨rfl, hs2⟩
 replace hs2 := hs1.call0 hs2
 refine ⟨_, rfl, WL.r 1 hs2 [] rfl (WL.nil (WC.ret (rtv rfl rfl hs2 ?_)))⟩
 simp [isNumB, within]
theorem k10_ (n : Int) (w : World) :
    Calls Tryz.prog 156 #[i64 n] w fun e w' => e = .returned (.bool (isNumB n)) ∧ St w [] [] w' := by
 refine enter 9 Tryz.func156 rfl Tryz.ntmps156 rfl rfl ?_
 have hs1 := St.init w
 refine WC.r1 hs1 [] rfl (WC.sr (WL.r 3 hs1 [] rfl (WL.pA tbk 2 Acts.nil hs1 [] rfl rfl rfl rfl (fun g_ => trivial) (WL.r 1 hs1 [] rfl (WL.nil (WC.ret (retV1 rfl (resV.tmp rfl) ?_)))))))
 refine ⟨congrArg Ending.returned ?_, hs1.nil⟩
 simp [isNumB]
theorem k11_ (n : Int) (w : World) (ht : TabOk w) :
    Calls Tryz.prog 91 #[i64 n] w fun e w' => e = .returned (.string (numBA n)) ∧ St w [] [] w' := by
 refine enter 8 Tryz.func91 rfl Tryz.ntmps91 rfl rfl ?_
 have hs1 := St.init w
 refine WC.r1 hs1 [] rfl (WC.seq (fun K2 hK2 => WC.sr (WL.r 1 hs1 [] rfl (WL.cl Tryz.call153 rfl (k9_ _ _) ?_))))
 rintro _ whs3 ⟨rfl, hs3⟩
 replace hs3 := hs1.call0 hs3
 refine ⟨_, rfl, WL.r 1 hs3 [] rfl (WL.nil (WC.cq rfl (fun h4 qh4 => ?_) (fun h4 qh4 => ?_)))⟩
 ·have hn : ¬ (0 ≤ n ∧ n ≤ 4294967295) := by have h9 := h4; simp [isNumB] at h9; omega
  refine WC.r1 hs3 [] rfl (WC.ret (tkR ?_))
  clear hK2
  refine rtv rfl rfl hs3 ?_
  unfold numBA numT; rw [if_neg hn]
 have hn : 0 ≤ n ∧ n ≤ 4294967295 := by have h9 := h4; simp [isNumB] at h9; omega
 refine WC.skip (hK2 _ _ (WC.sr (WL.r 1 hs3 [] rfl ?_)))
 refine WL.cl Tryz.call154 rfl (k2_ _ _ ?_ ?_) ?_
 · first | omega | assumption | exact tab_st ht (by assumption)
 · first | assumption | omega | exact tab_st ht (by assumption)
 rintro _ whs5 ⟨rfl, hs5⟩
 replace hs5 := hs3.call0 hs5
 refine ⟨_, rfl, WL.r 1 hs5 [] rfl (WL.nil (WC.ret (rtv rfl rfl hs5 ?_)))⟩
 rfl
theorem k12_ (m_ : Nat) : ∀ (n : Int) (w : World) (hm_ : n.toNat = m_), Calls Tryz.prog 148 #[i64 n] w fun e w' => e = .returned (.string (numBA n)) ∧ St w [] [] w' := by
 induction m_ using Nat.strongRecOn with
 | ind m_ IH =>
  intro n w hm_
  refine enter 23 Tryz.func148 rfl Tryz.ntmps148 rfl rfl ?_
  have hs1 := St.init w
  refine WC.r1 hs1 [] rfl (WC.seq (fun K2 hK2 => WC.sr (WL.r 1 hs1 [] rfl (WL.cl Tryz.call156 rfl (k10_ _ _) ?_))))
  rintro _ whs3 ⟨rfl, hs3⟩
  replace hs3 := hs1.call0 hs3
  refine ⟨_, rfl, WL.r 1 hs3 [] rfl (WL.nil (WC.cq rfl (fun h4 qh4 => ?_) (fun h4 qh4 => ?_)))⟩
  ·have hn : ¬ (0 ≤ n ∧ n ≤ 4294967295) := by have h9 := h4; simp [isNumB] at h9; omega
   refine WC.r1 hs3 [] rfl (WC.ret (tkR ?_))
   clear hK2
   refine rtv rfl rfl hs3 ?_
   unfold numBA numT; rw [if_neg hn]
  have hn : 0 ≤ n ∧ n ≤ 4294967295 := by have h9 := h4; simp [isNumB] at h9; omega
  refine WC.skip (hK2 _ _ (WC.seq (fun K5 hK5 => WC.r1 hs3 [] rfl ?_)))
  refine WC.cq rfl (fun h6 qh6 => ?_) (fun h6 qh6 => ?_)
  ·have hs : n < 10 := by have h9 := h6; simpa using h9
   refine WC.sr (WL.r 3 hs3 [] rfl (WL.buildF (F := encB) hs3 ([ub (48 + n)]) Tryz.runUnderlying43 Tryz.sizeOf5 Tryz.zeroValue5 rfl rfl rfl rfl rfl rfl rfl rfl rfl rfl rfl rfl (fun A10 c11 L7 whs8 hs8 ho9 => WL.val rfl rfl rfl (Run.strOf (SlF.ofOwn ho9 (hs8.ow L7)) Tryz.underlying43 Tryz.underlying5 Tryz.underlying9 rfl rfl) (WL.r 1 hs8 [] rfl (WL.nil (WC.ret (tkR ?_)))))))
   clear hK5
   refine rtv rfl rfl hs8 ?_
   unfold numBA; rw [numT_small (by omega)]
  have hs : ¬ n < 10 := by have h9 := h6; simpa using h9
  refine WC.skip (hK5 _ _ (WC.seq (fun K12 hK12 => WC.rH hs3 hs3 (fun _ hs13 => ?_))))
  refine WH.rn [0] hs13 [] rfl rfl ?_
  refine WH.take 1 rfl (by kernel_rfl) rfl rfl rfl hs13 (fun w_ hs_ => (Run.quo rfl rfl rfl ?_ ?_ ?_)) ?_
  · omega
  · omega
  · omega
  refine WH.rn [3] hs13 [] rfl rfl ?_
  refine WH.take 4 rfl (by kernel_rfl) rfl rfl rfl hs13 (fun w_ hs_ => (Run.rem rfl rfl rfl ?_ ?_)) ?_
  · omega
  · omega
  refine WH.rn [5, 6] hs13 [] rfl rfl (WH.all [2, 7] (by kernel_rfl) rfl (WHs.cons (i := 2) rfl ?_ (WHs.cons (i := 7) rfl ?_ WHs.nil)))
  ·refine WL.cl Tryz.call148 rfl (IH _ ?_ _ _ rfl) ?_
   · (rw [← hm_]; omega)
   rintro _ whs14 ⟨rfl, hs14⟩
   replace hs14 := hs13.call0 hs14
   refine ⟨_, rfl, WL.nil ⟨hs14, ?_⟩⟩
   refine WH.strS hs14 (fun w_ h_ => h_) ?_
   refine WH.o1 7 rfl (WL.buildSlice hs14 Tryz.runUnderlying43 Tryz.sizeOf5 Tryz.zeroValue5 rfl rfl rfl rfl rfl rfl rfl rfl rfl rfl (fun b15 whs16 hs16 => WL.nil ⟨hs16.d1, ?_⟩))
   refine WH.strS hs16 (fun w_ h_ => h_.d1) ?_
   refine WH.take 8 rfl (by kernel_rfl) rfl rfl rfl hs16 (fun w_ hs_ => (Run.strOf (SlF.own1 ((hs_ : St _ _ _ _).own _ (nthL_mem (i := 0) rfl)).1) Tryz.underlying43 Tryz.underlying5 Tryz.underlying9 rfl rfl)) ?_
   refine WH.take 9 rfl (by kernel_rfl) rfl rfl rfl hs16 (fun w_ hs_ => (Run.addS rfl rfl rfl ?_)) ?_
   · (have h9 := numT_len (n := n / 10); simp [numBA, ByteArray.size]; omega)
   refine WH.rn [10] hs16 [] rfl rfl (WH.dn (hK12 _ _ (WC.ret (rtv rfl rfl hs16 ?_))))
   refine congrArg Value.string ?_; unfold numBA; rw [numT_big (n := n) (by omega)]; refine ByteArray.ext ?_; simp
  refine WL.buildSlice hs13 Tryz.runUnderlying43 Tryz.sizeOf5 Tryz.zeroValue5 rfl rfl rfl rfl rfl rfl rfl rfl rfl rfl (fun b17 whs18 hs18 => WL.nil ⟨hs18.d1, ?_⟩)
  refine WH.strS hs18 (fun w_ h_ => h_.d1) ?_
  refine WH.take 8 rfl (by kernel_rfl) rfl rfl rfl hs18 (fun w_ hs_ => (Run.strOf (SlF.own1 ((hs_ : St _ _ _ _).own _ (nthL_mem (i := 0) rfl)).1) Tryz.underlying43 Tryz.underlying5 Tryz.underlying9 rfl rfl)) ?_
  refine WH.o1 2 rfl (WL.cl Tryz.call148 rfl (IH _ ?_ _ _ rfl) ?_)
  · (rw [← hm_]; omega)
  rintro _ whs19 ⟨rfl, hs19⟩
  replace hs19 := hs18.call0 hs19
  refine ⟨_, rfl, WL.nil ⟨hs19, ?_⟩⟩
  refine WH.strS hs19 (fun w_ h_ => h_) ?_
  refine WH.take 9 rfl (by kernel_rfl) rfl rfl rfl hs19 (fun w_ hs_ => (Run.addS rfl rfl rfl ?_)) ?_
  · (have h9 := numT_len (n := n / 10); simp [numBA, ByteArray.size]; omega)
  refine WH.rn [10] hs19 [] rfl rfl (WH.dn (hK12 _ _ (WC.ret (rtv rfl rfl hs19 ?_))))
  refine congrArg Value.string ?_; unfold numBA; rw [numT_big (n := n) (by omega)]; refine ByteArray.ext ?_; simp
theorem k13_ (n : Int) (w : World) :
    Calls Tryz.prog 148 #[i64 n] w fun e w' => e = .returned (.string (numBA n)) ∧ St w [] [] w' := k12_ _ n w rfl
theorem k14_ (n : Int) (w : World) :
    Calls Tryz.prog 60 #[i64 n] w fun e w' => e = .returned (.bool (isGenB n)) ∧ St w [] [] w' := by
 refine enter 5 Tryz.func60 rfl Tryz.ntmps60 rfl rfl ?_
 have hs1 := St.init w
 refine WC.r1 hs1 [] rfl (WC.sr (WL.r 1 hs1 [] rfl (WL.cl Tryz.call61 rfl (k3_ _ _ _ _) ?_)))
 rintro _ whs2 ⟨rfl, hs2⟩
 replace hs2 := hs1.call0 hs2
 refine ⟨_, rfl, WL.r 1 hs2 [] rfl (WL.nil (WC.ret (rtv rfl rfl hs2 ?_)))⟩
 rfl
theorem k15_ (n : Int) (w : World) (ht : TabOk w) :
    Calls Tryz.prog 44 #[i64 n] w fun e w' => e = .returned (.string (genName logP n)) ∧ St w [] [] w' := by
 refine enter 9 Tryz.func44 rfl Tryz.ntmps44 rfl rfl ?_
 have hs1 := St.init w
 refine WC.r1 hs1 [] rfl (WC.seq (fun K2 hK2 => WC.sr (WL.r 1 hs1 [] rfl (WL.cl Tryz.call60 rfl (k14_ _ _) ?_))))
 rintro _ whs3 ⟨rfl, hs3⟩
 replace hs3 := hs1.call0 hs3
 refine ⟨_, rfl, WL.r 1 hs3 [] rfl (WL.nil (WC.cq rfl (fun h4 qh4 => ?_) (fun h4 qh4 => ?_)))⟩
 ·have hg : isGenB n = false := by have h9 := h4; simpa using h9
  refine WC.r1 hs3 [] rfl (WC.ret (tkR ?_))
  clear hK2
  refine rtv rfl rfl hs3 ?_
  rw [genName_n hg]; rfl
 have hg : isGenB n = true := by have h9 := h4; simpa using h9
 refine WC.skip (hK2 _ _ (WC.sr (WL.r 1 hs3 [] rfl ?_)))
 refine WL.cl Tryz.call91 rfl (k11_ _ _ ?_) ?_
 · first | assumption | rfl | omega | exact tab_st ht (by assumption)
 rintro _ whs5 ⟨rfl, hs5⟩
 replace hs5 := hs3.call0 hs5
 refine ⟨_, rfl, WL.val rfl rfl rfl (Run.addS rfl rfl rfl ?_) ?_⟩
 · (have h9 := numT_len (n := n); simp [numBA, ByteArray.size]; omega)
 refine WL.r 1 hs5 [] rfl (WL.nil (WC.ret (rtv rfl rfl hs5 ?_)))
 rw [genName_y hg]; first | done | rfl
theorem k16_ (n : Int) (w : World) (ht : TabOk w) :
    Calls Tryz.prog 115 #[i64 n] w fun e w' => e = .returned (.string (genName snapP n)) ∧ St w [] [] w' := by
 refine enter 9 Tryz.func115 rfl Tryz.ntmps115 rfl rfl ?_
 have hs1 := St.init w
 refine WC.r1 hs1 [] rfl (WC.seq (fun K2 hK2 => WC.sr (WL.r 1 hs1 [] rfl (WL.cl Tryz.call60 rfl (k14_ _ _) ?_))))
 rintro _ whs3 ⟨rfl, hs3⟩
 replace hs3 := hs1.call0 hs3
 refine ⟨_, rfl, WL.r 1 hs3 [] rfl (WL.nil (WC.cq rfl (fun h4 qh4 => ?_) (fun h4 qh4 => ?_)))⟩
 ·have hg : isGenB n = false := by have h9 := h4; simpa using h9
  refine WC.r1 hs3 [] rfl (WC.ret (tkR ?_))
  clear hK2
  refine rtv rfl rfl hs3 ?_
  rw [genName_n hg]; rfl
 have hg : isGenB n = true := by have h9 := h4; simpa using h9
 refine WC.skip (hK2 _ _ (WC.sr (WL.r 1 hs3 [] rfl ?_)))
 refine WL.cl Tryz.call91 rfl (k11_ _ _ ?_) ?_
 · first | assumption | rfl | omega | exact tab_st ht (by assumption)
 rintro _ whs5 ⟨rfl, hs5⟩
 replace hs5 := hs3.call0 hs5
 refine ⟨_, rfl, WL.val rfl rfl rfl (Run.addS rfl rfl rfl ?_) ?_⟩
 · (have h9 := numT_len (n := n); simp [numBA, ByteArray.size]; omega)
 refine WL.r 1 hs5 [] rfl (WL.nil (WC.ret (rtv rfl rfl hs5 ?_)))
 rw [genName_y hg]; first | done | rfl
theorem k17_ (word : ByteArray) (n : Int) (w : World) (hz : word.size ≤ 100) :
    Calls Tryz.prog 87 #[.string word, i64 n] w fun e w' => e = .returned (.string (genName word n)) ∧ St w [] [] w' := by
 refine enter 15 Tryz.func87 rfl Tryz.ntmps87 rfl rfl ?_
 have hs1 := St.init w
 refine WC.r1 hs1 [] rfl (WC.seq (fun K2 hK2 => WC.sr (WL.r 3 hs1 [] rfl (WL.pO tbk 2 Acts.nil hs1 [] rfl rfl rfl rfl (fun g_ => trivial) (WL.nil ?_)))))
 refine WC.cq rfl (fun h3 qh3 => ?_) (fun h3 qh3 => ?_)
 ·have hg : isGenB n = false := by have h9 := h3; unfold isGenB; rw [within_not]; simp at h9; omega
  refine WC.r1 hs1 [] rfl (WC.ret (tkR ?_))
  clear hK2
  refine rtv rfl rfl hs1 ?_
  rw [genName_n hg]; rfl
 have hg : isGenB n = true := by have h9 := h3; unfold isGenB; rw [within_iff]; simp at h9; omega
 refine WC.skip (hK2 _ _ (WC.sr (WL.r 2 hs1 [] rfl (WL.cl Tryz.call148 rfl (k13_ _ _) ?_))))
 rintro _ whs4 ⟨rfl, hs4⟩
 replace hs4 := hs1.call0 hs4
 refine ⟨_, rfl, WL.val rfl rfl rfl (Run.addS rfl rfl rfl ?_) ?_⟩
 · (have h9 := numT_len (n := n); have e9 : (numBA n).size = (numT n).length := (by simp [numBA, ByteArray.size]); first | omega | (rw [ByteArray.size_append]; omega))
 refine WL.r 1 hs4 [] rfl (WL.nil (WC.ret (rtv rfl rfl hs4 ?_)))
 rw [genName_y hg]; first | done | rfl
theorem k18_ (n : Int) (w : World) :
    Calls Tryz.prog 41 #[i64 n] w fun e w' => e = .returned (.string (genName logP n)) ∧ St w [] [] w' := by
 refine enter 5 Tryz.func41 rfl Tryz.ntmps41 rfl rfl ?_
 have hs1 := St.init w
 refine WC.r1 hs1 [] rfl (WC.sr (WL.r 1 hs1 [] rfl (WL.cl Tryz.call87 rfl (k17_ _ _ _ ?_) ?_)))
 · first | assumption | rfl | omega | decide
 rintro _ whs2 ⟨rfl, hs2⟩
 replace hs2 := hs1.call0 hs2
 refine ⟨_, rfl, WL.r 1 hs2 [] rfl (WL.nil (WC.ret (rtv rfl rfl hs2 ?_)))⟩
 rfl
theorem k19_ (n : Int) (w : World) :
    Calls Tryz.prog 68 #[i64 n] w fun e w' => e = .returned (.string (genName snapP n)) ∧ St w [] [] w' := by
 refine enter 5 Tryz.func68 rfl Tryz.ntmps68 rfl rfl ?_
 have hs1 := St.init w
 refine WC.r1 hs1 [] rfl (WC.sr (WL.r 1 hs1 [] rfl (WL.cl Tryz.call87 rfl (k17_ _ _ _ ?_) ?_)))
 · first | assumption | rfl | omega | decide
 rintro _ whs2 ⟨rfl, hs2⟩
 replace hs2 := hs1.call0 hs2
 refine ⟨_, rfl, WL.r 1 hs2 [] rfl (WL.nil (WC.ret (rtv rfl rfl hs2 ?_)))⟩
 rfl
set_option maxHeartbeats 4000000 in
theorem k20_ (a : FileR) (left : Int) (w : World) (f_a : okFileR 9223372036854775807 w a) (h1 : 0 ≤ left) (h2 : left ≤ 1048576) :
    Calls Tryz.prog 120 #[.agg #[i64 a.Id, .slice a.Body.A a.Body.n a.Body.c, i64 a.Safe], i64 left] w fun e w' => e = .returned (.int .i64 (szR left (totFile a.dat))) ∧ St w [] [] w' := by
 have nb_a_Body := f_a.Body_n
 have nl_a_Body := f_a.Body.len
 refine enter 12 Tryz.func120 rfl Tryz.ntmps120 rfl rfl ?_
 have hs1 := St.init w
 refine WC.sr (WL.bx hs1 rfl (fun b2 _ hs3 => WL.r 1 hs3 [] rfl (WL.nil (WC.sr (WL.r 3 hs3 [0] rfl ?_)))))
 refine WL.cl Tryz.call172 rfl (k4_ _ _ _ _ _ _ (SlF.st0 f_a.Body hs3) ?_ ?_ ?_) ?_
 · first | assumption | omega
 · first | assumption | omega | exact szR_b (by assumption) (by omega) (by first | assumption | omega)
 · first | assumption | omega
 rintro _ whs4 ⟨rfl, hs4⟩
 replace hs4 := hs3.call0 hs4
 refine ⟨_, rfl, WL.r 1 hs4 [] rfl (WL.nil (WC.seq (fun K5 hK5 => WC.r1 hs4 [] rfl ?_)))⟩
 refine WC.cD rfl (fun qh6 => ?_) (fun qh6 => ?_)
 ·try have soh6 := szR_ok qh6 (by omega)
  try have sbh6 := szR_b qh6 (by omega) (by first | assumption | omega)
  try have snh6 := szR_no qh6
  refine WC.r1 hs4 [] rfl (WC.ret (tkR ?_))
  clear hK5
  refine rtv rfl rfl hs4 ?_
  simp only [totFile, FileR.dat] at * <;> first | (rw [szR_lt (by omega)]; done) | (refine congrArg (Value.int _) ?_; symm; refine (szR_le ?_).trans ?_ <;> omega) | rfl
 try have soh6 := szR_ok qh6 (by omega)
 try have sbh6 := szR_b qh6 (by omega) (by first | assumption | omega)
 try have snh6 := szR_no qh6
 refine WC.skip (hK5 _ _ (WC.r1 hs4 [] rfl (WC.ret (rtv rfl rfl hs4 ?_))))
 simp only [totFile, FileR.dat] at * <;> first | (rw [szR_lt (by omega)]; done) | (refine congrArg (Value.int _) ?_; symm; refine (szR_le ?_).trans ?_ <;> omega) | rfl
set_option maxHeartbeats 4000000 in
theorem k21_ (a : FileR) (w : World) (f_a : okFileR 549755813888 w a) :
    Calls Tryz.prog 125 #[.agg #[i64 a.Id, .slice a.Body.A a.Body.n a.Body.c, i64 a.Safe]] w fun e w' => ∃ r L1, e = .returned (.agg #[i64 r.Id, .slice r.Body.A r.Body.n r.Body.c, i64 r.Safe]) ∧ St w [] L1 w' ∧ ownFileR r L1 ∧ r.dat = a.dat := by
 have nb_a_Body := f_a.Body_n
 have nl_a_Body := f_a.Body.len
 refine enter 15 Tryz.func125 rfl Tryz.ntmps125 rfl rfl ?_
 have hs1 := St.init w
 refine WC.sr (WL.bx hs1 rfl (fun b2 _ hs3 => WL.al hs3 Tryz.zeroValue123 rfl rfl (fun b4 _ hs5 => WL.nil (WC.sr (WL.al hs5 Tryz.zeroValue123 rfl rfl (fun b6 _ hs7 => WL.nil (WC.sr ?_)))))))
 refine WL.r 3 hs7 [2] rfl (WL.st tbk hs7 0 rfl rfl (fun _ hs8 => WL.nil (WC.sr (WL.r 2 hs8 [2] rfl ?_))))
 refine WL.cl Tryz.call18 rfl (k5_ _ _ _ _ _ (SlF.st0 f_a.Body hs8) ?_) ?_
 · first | assumption | rfl | omega
 rintro _ whs9 ⟨A10, c11, L1_12, rfl, hs9, ho13⟩
 replace hs9 := hs8.callF hs9
 refine ⟨_, rfl, ?_⟩
 replace hs9 := St.back [_, _, _] hs9
 refine WL.r 1 hs9 [] rfl (WL.st tbk hs9 0 rfl rfl (fun _ hs14 => WL.nil (WC.sr (WL.r 3 hs14 [2] rfl (WL.st tbk hs14 0 rfl rfl (fun _ hs15 => WL.nil (WC.sr ?_)))))))
 refine WL.r 1 hs15 [0] rfl (WL.st tbk hs15 1 rfl rfl (fun _ hs16 => WL.nil (WC.ret (retV1 rfl (resV.cellA tbk hs16 1 rfl rfl rfl rfl) ?_))))
 refine ⟨⟨a.Id, SlD.of ho13, a.Safe⟩, _, rfl, (St.keep1 (hs16.fr L1_12)), ?_, ?_⟩
 · exact ho13
 · exact FileD.ext' rfl rfl rfl
theorem k22_ (a_Name : ByteArray) (a_Id : Int) (left : Int) (w : World) (h1 : 0 ≤ left) (h2 : left ≤ 1048576) (hz0 : a_Name.size ≤ 9223372036854775807) :
    Calls Tryz.prog 121 #[.agg #[.string a_Name, i64 a_Id], i64 left] w fun e w' => e = .returned (.int .i64 (szR left (totLink ⟨a_Name, a_Id⟩))) ∧ St w [] [] w' := by
 refine enter 13 Tryz.func121 rfl Tryz.ntmps121 rfl rfl ?_
 have hs1 := St.init w
 refine WC.sr (WL.bx hs1 rfl (fun b2 _ hs3 => WL.r 1 hs3 [] rfl (WL.nil (WC.r1 hs3 [0] rfl (WC.seq (fun K4 hK4 => WC.r1 hs3 [] rfl ?_))))))
 refine WC.cD rfl (fun qh5 => ?_) (fun qh5 => ?_)
 ·refine WC.r1 hs3 [] rfl (WC.ret (tkR ?_))
  clear hK4
  refine rtv rfl rfl hs3 ?_
  simp only [totLink] at *; first | (rw [szR_lt (by omega)]; done) | (refine congrArg (Value.int _) ?_; symm; refine (szR_le ?_).trans ?_ <;> omega) | rfl
 refine WC.skip (hK4 _ _ (WC.r1 hs3 [] rfl (WC.ret (rtv rfl rfl hs3 ?_))))
 simp only [totLink] at *; first | (rw [szR_lt (by omega)]; done) | (refine congrArg (Value.int _) ?_; symm; refine (szR_le ?_).trans ?_ <;> omega) | rfl
theorem k23_ (a_Kind : Int) (a_Name : ByteArray) (a_To : ByteArray) (a_Id : Int) (left : Int) (w : World) (h1 : 0 ≤ left) (h2 : left ≤ 1048576) (hz0 : a_Name.size ≤ 9223372036854775807) (hz1 : a_To.size ≤ 9223372036854775807) :
    Calls Tryz.prog 122 #[.agg #[i64 a_Kind, .string a_Name, .string a_To, i64 a_Id], i64 left] w fun e w' => e = .returned (.int .i64 (szR left (totTurn ⟨a_Kind, a_Name, a_To, a_Id⟩))) ∧ St w [] [] w' := by
 refine enter 20 Tryz.func122 rfl Tryz.ntmps122 rfl rfl ?_
 have hs1 := St.init w
 refine WC.sr (WL.bx hs1 rfl (fun b2 _ hs3 => WL.r 1 hs3 [] rfl (WL.nil (WC.r1 hs3 [0] rfl (WC.seq (fun K4 hK4 => WC.r1 hs3 [] rfl ?_))))))
 refine WC.cD rfl (fun qh5 => ?_) (fun qh5 => ?_)
 ·refine WC.r1 hs3 [] rfl (WC.ret (tkR ?_))
  clear hK4
  refine rtv rfl rfl hs3 ?_
  simp only [totTurn] at *; first | (rw [szR_lt (by omega)]; done) | (refine congrArg (Value.int _) ?_; symm; refine (szR_le ?_).trans ?_ <;> omega) | rfl
 refine WC.skip (hK4 _ _ (WC.r1 hs3 [0] rfl (WC.seq (fun K6 hK6 => WC.r1 hs3 [] rfl ?_))))
 refine WC.cD rfl (fun qh7 => ?_) (fun qh7 => ?_)
 ·refine WC.r1 hs3 [] rfl (WC.ret (tkR ?_))
  clear hK6
  refine rtv rfl rfl hs3 ?_
  simp only [totTurn] at *; first | (rw [szR_lt (by omega)]; done) | (refine congrArg (Value.int _) ?_; symm; refine (szR_le ?_).trans ?_ <;> omega) | rfl
 refine WC.skip (hK6 _ _ (WC.r1 hs3 [] rfl (WC.ret (rtv rfl rfl hs3 ?_))))
 simp only [totTurn] at *; first | (rw [szR_lt (by omega)]; done) | (refine congrArg (Value.int _) ?_; symm; refine (szR_le ?_).trans ?_ <;> omega) | rfl
theorem k24_ (a_Name : ByteArray) (a_Id : Int) (w : World) :
    Calls Tryz.prog 126 #[.agg #[.string a_Name, i64 a_Id]] w fun e w' => e = .returned (.agg #[.string a_Name, i64 a_Id]) ∧ St w [] [] w' := by
 refine enter 11 Tryz.func126 rfl Tryz.ntmps126 rfl rfl ?_
 have hs1 := St.init w
 refine WC.sr (WL.bx hs1 rfl (fun b2 _ hs3 => WL.al hs3 Tryz.zeroValue101 rfl rfl (fun b4 _ hs5 => WL.nil (WC.sr (WL.al hs5 Tryz.zeroValue101 rfl rfl (fun b6 _ hs7 => WL.nil (WC.sr ?_)))))))
 refine WL.r 3 hs7 [2] rfl (WL.st tbk hs7 0 rfl rfl (fun _ hs8 => WL.nil (WC.sr (WL.r 3 hs8 [2] rfl (WL.st tbk hs8 0 rfl rfl (fun _ hs9 => WL.nil (WC.sr ?_)))))))
 refine WL.r 1 hs9 [0] rfl (WL.st tbk hs9 1 rfl rfl (fun _ hs10 => WL.nil (WC.ret (retV1 rfl (resV.cellA tbk hs10 1 rfl rfl rfl rfl) (⟨congrArg Ending.returned ?_, hs10.nil⟩)))))
 rfl
theorem k25_ (a_Kind : Int) (a_Name : ByteArray) (a_To : ByteArray) (a_Id : Int) (w : World) :
    Calls Tryz.prog 127 #[.agg #[i64 a_Kind, .string a_Name, .string a_To, i64 a_Id]] w fun e w' => e = .returned (.agg #[i64 a_Kind, .string a_Name, .string a_To, i64 a_Id]) ∧ St w [] [] w' := by
 refine enter 17 Tryz.func127 rfl Tryz.ntmps127 rfl rfl ?_
 have hs1 := St.init w
 refine WC.sr (WL.bx hs1 rfl (fun b2 _ hs3 => WL.al hs3 Tryz.zeroValue137 rfl rfl (fun b4 _ hs5 => WL.nil (WC.sr (WL.al hs5 Tryz.zeroValue137 rfl rfl (fun b6 _ hs7 => WL.nil (WC.sr ?_)))))))
 refine WL.r 3 hs7 [2] rfl (WL.st tbk hs7 0 rfl rfl (fun _ hs8 => WL.nil (WC.sr (WL.r 3 hs8 [2] rfl (WL.st tbk hs8 0 rfl rfl (fun _ hs9 => WL.nil (WC.sr ?_)))))))
 refine WL.r 3 hs9 [2] rfl (WL.st tbk hs9 0 rfl rfl (fun _ hs10 => WL.nil (WC.sr (WL.r 3 hs10 [2] rfl (WL.st tbk hs10 0 rfl rfl (fun _ hs11 => WL.nil (WC.sr ?_)))))))
 refine WL.r 1 hs11 [0] rfl (WL.st tbk hs11 1 rfl rfl (fun _ hs12 => WL.nil (WC.ret (retV1 rfl (resV.cellA tbk hs12 1 rfl rfl rfl rfl) (⟨congrArg Ending.returned ?_, hs12.nil⟩)))))
 rfl
set_option maxHeartbeats 4000000 in
theorem k26_ (a : FileR) (b : FileR) (w : World) (f_a : okFileR 549755813888 w a) (f_b : okFileR 549755813888 w b) (hab : a.dat = b.dat) :
    Calls Tryz.prog 135 #[.agg #[i64 a.Id, .slice a.Body.A a.Body.n a.Body.c, i64 a.Safe], .agg #[i64 b.Id, .slice b.Body.A b.Body.n b.Body.c, i64 b.Safe]] w fun e w' => e = .returned (.bool true) ∧ St w [] [] w' := by
 have nb_a_Body := f_a.Body_n
 have nl_a_Body := f_a.Body.len
 have nb_b_Body := f_b.Body_n
 have nl_b_Body := f_b.Body.len
 have e_Id : a.Id = b.Id := congrArg (fun d : FileD => d.Id) hab
 have e_Body : a.Body.xs = b.Body.xs := congrArg (fun d : FileD => d.Body) hab
 have e_Safe : a.Safe = b.Safe := congrArg (fun d : FileD => d.Safe) hab
 refine enter 21 Tryz.func135 rfl Tryz.ntmps135 rfl rfl ?_
 have hs1 := St.init w
 refine WC.sr (WL.bx hs1 rfl (fun b2 _ hs3 => WL.bx hs3 rfl (fun b4 _ hs5 => WL.r 1 hs5 [] rfl (WL.nil (WC.seq (fun K6 hK6 => WC.r1 hs5 [1, 0] rfl (WC.condF rfl (by simp [e_Id, e_Safe]) ?_)))))))
 refine WC.skip (hK6 _ _ (WC.seq (fun K8 hK8 => WC.sr (WL.r 4 hs5 [1, 0] rfl ?_))))
 refine WL.cl Tryz.call20 rfl (k6_ _ _ _ _ _ _ _ _ _ (SlF.st0 f_a.Body hs5) (SlF.st0 f_b.Body hs5) ?_ ?_) ?_
 iterate 2 first | assumption | rfl | omega
 rintro _ whs9 ⟨rfl, hs9⟩
 replace hs9 := hs5.call0 hs9
 refine ⟨_, rfl, WL.r 1 hs9 [] rfl (WL.nil (WC.condF rfl (by simp [e_Id, e_Safe]) (WC.skip (hK8 _ _ (WC.seq (fun K11 hK11 => WC.r1 hs9 [1, 0] rfl ?_))))))⟩
 refine WC.condF rfl (by simp [e_Id, e_Safe]) (WC.skip (hK11 _ _ (WC.r1 hs9 [] rfl (WC.ret (rtv rfl rfl hs9 ?_)))))
 rfl
theorem k27_ (a_Name : ByteArray) (a_Id : Int) (b_Name : ByteArray) (b_Id : Int) (w : World) (hab : (⟨a_Name, a_Id⟩ : LinkD) = (⟨b_Name, b_Id⟩ : LinkD)) :
    Calls Tryz.prog 136 #[.agg #[.string a_Name, i64 a_Id], .agg #[.string b_Name, i64 b_Id]] w fun e w' => e = .returned (.bool true) ∧ St w [] [] w' := by
 cases hab
 refine enter 15 Tryz.func136 rfl Tryz.ntmps136 rfl rfl ?_
 have hs1 := St.init w
 refine WC.sr (WL.bx hs1 rfl (fun b2 _ hs3 => WL.bx hs3 rfl (fun b4 _ hs5 => WL.r 1 hs5 [] rfl (WL.nil (WC.seq (fun K6 hK6 => WC.r1 hs5 [1, 0] rfl (WC.condF rfl (by simp) ?_)))))))
 refine WC.skip (hK6 _ _ (WC.seq (fun K8 hK8 => WC.r1 hs5 [1, 0] rfl (WC.condF rfl (by simp) (WC.skip (hK8 _ _ (WC.r1 hs5 [] rfl ?_)))))))
 refine WC.ret (rtv rfl rfl hs5 ?_)
 rfl
theorem k28_ (a_Kind : Int) (a_Name : ByteArray) (a_To : ByteArray) (a_Id : Int) (b_Kind : Int) (b_Name : ByteArray) (b_To : ByteArray) (b_Id : Int) (w : World) (hab : (⟨a_Kind, a_Name, a_To, a_Id⟩ : TurnD) = (⟨b_Kind, b_Name, b_To, b_Id⟩ : TurnD)) :
    Calls Tryz.prog 137 #[.agg #[i64 a_Kind, .string a_Name, .string a_To, i64 a_Id], .agg #[i64 b_Kind, .string b_Name, .string b_To, i64 b_Id]] w fun e w' => e = .returned (.bool true) ∧ St w [] [] w' := by
 cases hab
 refine enter 25 Tryz.func137 rfl Tryz.ntmps137 rfl rfl ?_
 have hs1 := St.init w
 refine WC.sr (WL.bx hs1 rfl (fun b2 _ hs3 => WL.bx hs3 rfl (fun b4 _ hs5 => WL.r 1 hs5 [] rfl (WL.nil (WC.seq (fun K6 hK6 => WC.r1 hs5 [1, 0] rfl (WC.condF rfl (by simp) ?_)))))))
 refine WC.skip (hK6 _ _ (WC.seq (fun K8 hK8 => WC.r1 hs5 [1, 0] rfl (WC.condF rfl (by simp) (WC.skip (hK8 _ _ (WC.seq (fun K10 hK10 => ?_))))))))
 refine WC.r1 hs5 [1, 0] rfl (WC.condF rfl (by simp) (WC.skip (hK10 _ _ (WC.seq (fun K12 hK12 => WC.r1 hs5 [1, 0] rfl (WC.condF rfl (by simp) (WC.skip ?_)))))))
 refine hK12 _ _ (WC.r1 hs5 [] rfl (WC.ret (rtv rfl rfl hs5 ?_)))
 rfl
theorem k29_ (A_a : Option Addr) (n_a c_a : Nat) (a : List FileR) (left : Int) (w : World) (f_a : SlN encFileR (okFileR 9223372036854775807) w A_a n_a a) (h1 : 0 ≤ left) (h2 : left ≤ 1048576) (h3 : n_a ≤ 9223372036854775807) :
    Calls Tryz.prog 62 #[.slice A_a n_a c_a, i64 left] w fun e w' => e = .returned (.int .i64 (szR left (tots totFile (a.map FileR.dat)))) ∧ St w [] [] w' := by
 have hl := f_a.sl.len
 have hT : (tots totFile (a.map FileR.dat) : Int) = n_a + (a.map (fun x => totFile (FileR.dat x))).sum := by rw [tots_map, hl]; omega
 refine enter 27 Tryz.func62 rfl Tryz.ntmps62 rfl rfl ?_
 have hs1 := St.init w
 refine WC.r1 hs1 [] rfl (WC.r1 hs1 [] rfl (WC.seq (fun K2 hK2 => WC.r1 hs1 [] rfl ?_)))
 refine WC.cD rfl (fun qh3 => ?_) (fun qh3 => ?_)
 ·refine WC.r1 hs1 [] rfl (WC.ret (tkR ?_))
  clear hK2
  refine rtv rfl rfl hs1 ?_
  rw [szR_lt (by omega)]
 refine WC.skip (hK2 _ _ (WC.seq (fun K4 hK4 => WC.r1 hs1 [] rfl (WC.block ?_))))
 refine WC.lS [0, 11] rfl hs1 (fun k_ f w' => ∃ (i : Nat) (q : Int), k_ = n_a - i ∧ (i ≤ n_a) ∧ (0 ≤ q) ∧ (q + n_a + ((a.take i).map (fun x => totFile (FileR.dat x))).sum = left) ∧ Sub [(5, .int .i64 i), (1, .int .i64 q)] f) ((fun (i : Nat) (q : Int) => n_a - i) (0) ((left - n_a))) ?_ ?_
 ·refine ⟨0, (left - n_a), rfl, ?_, ?_, ?_, ⟨rfl, rfl, trivial⟩⟩
  · exact Nat.zero_le _
  · omega
  · simp
 clear hs1
 rintro _ f w ⟨i, q, rfl, p0, p1, p2, hG⟩ hF hs5
 refine WC.sub _ (hG.app hF) ?_
 clear hG hF
 refine WC.seq (fun K6 hK6 => WC.r1 hs5 [] rfl ?_)
 refine WC.cD rfl (fun qh7 => ?_) (fun qh7 => ?_)
 ·have hs1 := sum_take (F := encFileR) (f := (fun x => totFile (FileR.dat x))) (l := a) (i := i) (by omega)
  have hs2 := sum_take_le (f := (fun x => totFile (FileR.dat x))) a (i + 1)
  refine WC.skip (hK6 _ _ (WC.seq (fun K8 hK8 => WC.block (WC.sr (WL.r 2 hs5 [] rfl ?_)))))
  refine WL.val rfl rfl rfl (Run.idxN Tryz.runUnderlying22 Tryz.sizeOf148 rfl rfl rfl ?_ ?_ ?_) ?_
  · exact SlF.some_ (SlF.st0 f_a.sl hs5)
  · omega
  · omega
  refine WL.val rfl rfl rfl (Run.loadA Tryz.isAgg148 Tryz.sizeOf148 rfl rfl (SlF.whole (SlF.st0 f_a.sl hs5) ?_)) ?_
  · omega
  refine WL.r 1 hs5 [] rfl (WL.cl Tryz.call120 rfl (k20_ (gat encFileR a i) _ _ (okFileR.st0 (SlN.nth f_a (by omega)) hs5) ?_ ?_) ?_)
  · first | assumption | omega
  · first | assumption | omega | exact szR_b (by assumption) (by omega) (by first | assumption | omega)
  rintro _ whs9 ⟨rfl, hs9⟩
  replace hs9 := hs5.call0 hs9
  refine ⟨_, rfl, WL.r 1 hs9 [] rfl (WL.nil (WC.r1 hs9 [] rfl (WC.cD rfl (fun qh10 => ?_) (fun qh10 => ?_))))⟩
  ·refine WC.r1 hs9 [] rfl (WC.ret (ibR (tkR (tkR (ibR (tkR ?_))))))
   clear hK8 hK4
   refine rtv rfl rfl hs9 ?_
   have h9 := szR_no qh10
   rw [szR_lt (by omega)]
  refine WC.skip (hK8 _ _ (WC.region (WL.r 3 hs9 [] rfl (WL.nil (tkN ?_)))))
  refine ⟨sbF rfl, hs9, _, ?_, i + 1, _, rfl, ?_, ?_, ?_, ⟨rfl, rfl, trivial⟩⟩
  · omega
  · omega
  · omega
  · have h9 := szR_ok qh10 (Int.natCast_nonneg _); omega
 refine WC.exit (hK4 _ _ (WC.r1 hs5 [] rfl (WC.ret (rtv rfl rfl hs5 ?_))))
 have h9 : a.take i = a := List.take_of_length_le (by omega)
 rw [h9] at p2
 rw [szR_le (by omega)]
 congr 1; omega
theorem k30_ (A_a : Option Addr) (n_a c_a : Nat) (a : List LinkD) (left : Int) (w : World) (f_a : SlF encLink w A_a n_a a) (h1 : 0 ≤ left) (h2 : left ≤ 1048576) (h3 : n_a ≤ 9223372036854775807) (hz : ∀ x, x ∈ a → smLink 9223372036854775807 x) :
    Calls Tryz.prog 63 #[.slice A_a n_a c_a, i64 left] w fun e w' => e = .returned (.int .i64 (szR left (tots totLink a))) ∧ St w [] [] w' := by
 have hl := f_a.len
 have hT : (tots totLink a : Int) = n_a + (a.map totLink).sum := by unfold tots; rw [hl]; omega
 refine enter 27 Tryz.func63 rfl Tryz.ntmps63 rfl rfl ?_
 have hs1 := St.init w
 refine WC.r1 hs1 [] rfl (WC.r1 hs1 [] rfl (WC.seq (fun K2 hK2 => WC.r1 hs1 [] rfl ?_)))
 refine WC.cD rfl (fun qh3 => ?_) (fun qh3 => ?_)
 ·refine WC.r1 hs1 [] rfl (WC.ret (tkR ?_))
  clear hK2
  refine rtv rfl rfl hs1 ?_
  rw [szR_lt (by omega)]
 refine WC.skip (hK2 _ _ (WC.seq (fun K4 hK4 => WC.r1 hs1 [] rfl (WC.block ?_))))
 refine WC.lS [0, 11] rfl hs1 (fun k_ f w' => ∃ (i : Nat) (q : Int), k_ = n_a - i ∧ (i ≤ n_a) ∧ (0 ≤ q) ∧ (q + n_a + ((a.take i).map totLink).sum = left) ∧ Sub [(5, .int .i64 i), (1, .int .i64 q)] f) ((fun (i : Nat) (q : Int) => n_a - i) (0) ((left - n_a))) ?_ ?_
 ·refine ⟨0, (left - n_a), rfl, ?_, ?_, ?_, ⟨rfl, rfl, trivial⟩⟩
  · exact Nat.zero_le _
  · omega
  · simp
 clear hs1
 rintro _ f w ⟨i, q, rfl, p0, p1, p2, hG⟩ hF hs5
 refine WC.sub _ (hG.app hF) ?_
 clear hG hF
 refine WC.seq (fun K6 hK6 => WC.r1 hs5 [] rfl ?_)
 refine WC.cD rfl (fun qh7 => ?_) (fun qh7 => ?_)
 ·have hs1 := sum_take (F := encLink) (f := totLink) (l := a) (i := i) (by omega)
  have hs2 := sum_take_le (f := totLink) a (i + 1)
  have hzi : (gat encLink a i).Name.size ≤ 9223372036854775807 := hz _ (gat_mem (F := encLink) (show i < a.length by omega))
  refine WC.skip (hK6 _ _ (WC.seq (fun K8 hK8 => WC.block (WC.sr (WL.r 2 hs5 [] rfl ?_)))))
  refine WL.val rfl rfl rfl (Run.idxN Tryz.runUnderlying23 Tryz.sizeOf150 rfl rfl rfl ?_ ?_ ?_) ?_
  · exact SlF.some_ (SlF.st0 f_a hs5)
  · omega
  · omega
  refine WL.val rfl rfl rfl (Run.loadA Tryz.isAgg150 Tryz.sizeOf150 rfl rfl (SlF.whole (SlF.st0 f_a hs5) ?_)) ?_
  · omega
  refine WL.r 1 hs5 [] rfl (WL.cl Tryz.call121 rfl (k22_ _ _ _ _ ?_ ?_ ?_) ?_)
  · first | assumption | omega
  · first | assumption | omega | exact szR_b (by assumption) (by omega) (by first | assumption | omega)
  · first | assumption | omega
  rintro _ whs9 ⟨rfl, hs9⟩
  replace hs9 := hs5.call0 hs9
  refine ⟨_, rfl, WL.r 1 hs9 [] rfl (WL.nil (WC.r1 hs9 [] rfl (WC.cD rfl (fun qh10 => ?_) (fun qh10 => ?_))))⟩
  ·refine WC.r1 hs9 [] rfl (WC.ret (ibR (tkR (tkR (ibR (tkR ?_))))))
   clear hK8 hK4
   refine rtv rfl rfl hs9 ?_
   have h9 := szR_no qh10
   (try simp only [totLink] at h9 hs1)
   rw [szR_lt (by omega)]
  refine WC.skip (hK8 _ _ (WC.region (WL.r 3 hs9 [] rfl (WL.nil (tkN ?_)))))
  refine ⟨sbF rfl, hs9, _, ?_, i + 1, _, rfl, ?_, ?_, ?_, ⟨rfl, rfl, trivial⟩⟩
  · omega
  · omega
  · omega
  · have h9 := szR_ok qh10 (Int.natCast_nonneg _); (try simp only [totLink] at h9 hs1 ⊢); omega
 refine WC.exit (hK4 _ _ (WC.r1 hs5 [] rfl (WC.ret (rtv rfl rfl hs5 ?_))))
 have h9 : a.take i = a := List.take_of_length_le (by omega)
 rw [h9] at p2
 rw [szR_le (by omega)]
 congr 1; omega
theorem k31_ (A_a : Option Addr) (n_a c_a : Nat) (a : List TurnD) (left : Int) (w : World) (f_a : SlF encTurn w A_a n_a a) (h1 : 0 ≤ left) (h2 : left ≤ 1048576) (h3 : n_a ≤ 9223372036854775807) (hz : ∀ x, x ∈ a → smTurn 9223372036854775807 x) :
    Calls Tryz.prog 64 #[.slice A_a n_a c_a, i64 left] w fun e w' => e = .returned (.int .i64 (szR left (tots totTurn a))) ∧ St w [] [] w' := by
 have hl := f_a.len
 have hT : (tots totTurn a : Int) = n_a + (a.map totTurn).sum := by unfold tots; rw [hl]; omega
 refine enter 27 Tryz.func64 rfl Tryz.ntmps64 rfl rfl ?_
 have hs1 := St.init w
 refine WC.r1 hs1 [] rfl (WC.r1 hs1 [] rfl (WC.seq (fun K2 hK2 => WC.r1 hs1 [] rfl ?_)))
 refine WC.cD rfl (fun qh3 => ?_) (fun qh3 => ?_)
 ·refine WC.r1 hs1 [] rfl (WC.ret (tkR ?_))
  clear hK2
  refine rtv rfl rfl hs1 ?_
  rw [szR_lt (by omega)]
 refine WC.skip (hK2 _ _ (WC.seq (fun K4 hK4 => WC.r1 hs1 [] rfl (WC.block ?_))))
 refine WC.lS [0, 11] rfl hs1 (fun k_ f w' => ∃ (i : Nat) (q : Int), k_ = n_a - i ∧ (i ≤ n_a) ∧ (0 ≤ q) ∧ (q + n_a + ((a.take i).map totTurn).sum = left) ∧ Sub [(5, .int .i64 i), (1, .int .i64 q)] f) ((fun (i : Nat) (q : Int) => n_a - i) (0) ((left - n_a))) ?_ ?_
 ·refine ⟨0, (left - n_a), rfl, ?_, ?_, ?_, ⟨rfl, rfl, trivial⟩⟩
  · exact Nat.zero_le _
  · omega
  · simp
 clear hs1
 rintro _ f w ⟨i, q, rfl, p0, p1, p2, hG⟩ hF hs5
 refine WC.sub _ (hG.app hF) ?_
 clear hG hF
 refine WC.seq (fun K6 hK6 => WC.r1 hs5 [] rfl ?_)
 refine WC.cD rfl (fun qh7 => ?_) (fun qh7 => ?_)
 ·have hs1 := sum_take (F := encTurn) (f := totTurn) (l := a) (i := i) (by omega)
  have hs2 := sum_take_le (f := totTurn) a (i + 1)
  obtain ⟨hzi0, hzi1⟩ := hz _ (gat_mem (F := encTurn) (show i < a.length by omega))
  refine WC.skip (hK6 _ _ (WC.seq (fun K8 hK8 => WC.block (WC.sr (WL.r 2 hs5 [] rfl ?_)))))
  refine WL.val rfl rfl rfl (Run.idxN Tryz.runUnderlying24 Tryz.sizeOf152 rfl rfl rfl ?_ ?_ ?_) ?_
  · exact SlF.some_ (SlF.st0 f_a hs5)
  · omega
  · omega
  refine WL.val rfl rfl rfl (Run.loadA Tryz.isAgg152 Tryz.sizeOf152 rfl rfl (SlF.whole (SlF.st0 f_a hs5) ?_)) ?_
  · omega
  refine WL.r 1 hs5 [] rfl (WL.cl Tryz.call122 rfl (k23_ _ _ _ _ _ _ ?_ ?_ ?_ ?_) ?_)
  · first | assumption | omega
  · first | assumption | omega | exact szR_b (by assumption) (by omega) (by first | assumption | omega)
  iterate 2 first | assumption | omega
  rintro _ whs9 ⟨rfl, hs9⟩
  replace hs9 := hs5.call0 hs9
  refine ⟨_, rfl, WL.r 1 hs9 [] rfl (WL.nil (WC.r1 hs9 [] rfl (WC.cD rfl (fun qh10 => ?_) (fun qh10 => ?_))))⟩
  ·refine WC.r1 hs9 [] rfl (WC.ret (ibR (tkR (tkR (ibR (tkR ?_))))))
   clear hK8 hK4
   refine rtv rfl rfl hs9 ?_
   have h9 := szR_no qh10
   (try simp only [totTurn] at h9 hs1)
   rw [szR_lt (by omega)]
  refine WC.skip (hK8 _ _ (WC.region (WL.r 3 hs9 [] rfl (WL.nil (tkN ?_)))))
  refine ⟨sbF rfl, hs9, _, ?_, i + 1, _, rfl, ?_, ?_, ?_, ⟨rfl, rfl, trivial⟩⟩
  · omega
  · omega
  · omega
  · have h9 := szR_ok qh10 (Int.natCast_nonneg _); (try simp only [totTurn] at h9 hs1 ⊢); omega
 refine WC.exit (hK4 _ _ (WC.r1 hs5 [] rfl (WC.ret (rtv rfl rfl hs5 ?_))))
 have h9 : a.take i = a := List.take_of_length_le (by omega)
 rw [h9] at p2
 rw [szR_le (by omega)]
 congr 1; omega
theorem k32_ (A_a : Option Addr) (n_a c_a : Nat) (a : List FileR) (w : World) (f_a : SlN encFileR (okFileR 549755813888) w A_a n_a a) (hn : n_a ≤ 549755813888) :
    Calls Tryz.prog 71 #[.slice A_a n_a c_a] w fun e w' => ∃ A c xs L1, e = .returned (.slice A n_a c) ∧ St w [] L1 w' ∧ OwnN encFileR ownFileR 123 (.slice A n_a c) xs L1 ∧ xs.map FileR.dat = a.map FileR.dat := by
 have hl := f_a.sl.len
 refine enter 23 Tryz.func71 rfl Tryz.ntmps71 rfl rfl ?_
 have hs1 := St.init w
 refine WC.r1 hs1 [] rfl (WC.sr (WL.r 2 hs1 [] rfl (WL.makeF (F := encFileR) hs1 Tryz.underlying30 inf123 rfl rfl rfl rfl rfl rfl rfl rfl rfl ?_ ?_ (fun A5 c6 L2 whs3 hs3 ho4 => ?_))))
 · have e_ : Tryz.t123.bytes = 40 := rfl
   rw [e_]; omega
 · omega
 obtain ⟨L7, hs8, ho9⟩ := OwnN.new (own := ownFileR) hs3 ho4 (OwnF.nil _ _)
 refine WL.r 1 hs8 [] rfl (WL.nil (WC.seq (fun K10 hK10 => WC.r1 hs8 [] rfl (WC.block ?_))))
 refine WC.lO [0, 2] rfl hs8 (fun k_ f L_ => ∃ (i : Nat) (ys : List FileR) (A11 : Option Addr) (c12 : Nat), k_ = n_a - i ∧ (i ≤ n_a) ∧ (ys.length = i) ∧ (ys.map FileR.dat = (a.take i).map FileR.dat) ∧ OwnN encFileR ownFileR 123 (.slice A11 (n_a) c12) (ys ++ List.replicate (n_a - i) encFileR.dflt) L_ ∧ Sub [(3, .slice A11 (n_a) c12), (4, .int .i64 i)] f) (((fun (i : Nat) (ys : List FileR) => n_a - i) (0) ([]))) ?_ ?_
 ·refine ⟨0, [], _, _, rfl, ?_, ?_, ?_, (by simpa using ho9), ⟨rfl, rfl, trivial⟩⟩
  · exact Nat.zero_le _
  · rfl
  · rfl
 clear hs8
 rintro _ f w L13 ⟨i, ys, A11, c12, rfl, p0, p1, p2, ho14, hG⟩ hF hs15
 refine WC.sub _ (hG.app hF) ?_
 clear hG hF
 have hlen : (ys ++ List.replicate (n_a - i) encFileR.dflt).length = n_a := by simp; omega
 refine WC.seq (fun K16 hK16 => WC.r1 hs15 [] rfl ?_)
 refine WC.cq rfl (fun h17 qh17 => ?_) (fun h17 qh17 => ?_)
 ·refine WC.skip (hK16 _ _ (WC.seq (fun K18 hK18 => WC.block (WC.region (WL.r 4 hs15 [] rfl ?_)))))
  refine WL.val rfl rfl rfl (Run.idxN Tryz.runUnderlying22 Tryz.sizeOf148 rfl rfl rfl ?_ ?_ ?_) ?_
  · exact SlF.some_ (SlF.st0 f_a.sl hs15)
  · omega
  · omega
  refine WL.val rfl rfl rfl (Run.loadA Tryz.isAgg148 Tryz.sizeOf148 rfl rfl (SlF.whole (SlF.st0 f_a.sl hs15) ?_)) ?_
  · omega
  refine WL.cl Tryz.call125 rfl (k21_ (gat encFileR a i) _ (okFileR.st0 (SlN.nth f_a (by omega)) hs15)) ?_
  rintro _ whs19 ⟨r20, L1_21, rfl, hs19, ho22, hd23⟩
  replace hs19 := hs15.callF hs19
  refine ⟨_, rfl, WL.val rfl rfl rfl (Run.idxN Tryz.runUnderlying30 Tryz.sizeOf123 rfl rfl rfl ?_ ?_ ?_) ?_⟩
  · exact SlF.some_ (OwnN.sl ho14 (hs19.ow L13))
  · omega
  · omega
  obtain ⟨L24, L25, hs28, ho26, ho27⟩ := OwnN.open_ (hs19.fr L13) ho14
  refine WL.storeF1 (x' := r20) hs28 ho26 Tryz.sizeOf123 rfl rfl rfl rfl rfl rfl rfl rfl rfl ?_ rfl (fun L29 whs30 hs30 ho31 _ => ?_)
  · omega
  obtain ⟨L32, hs34, hb33⟩ := Bag.replace (r := r20) (i := i) ((hs30.fr L1_21).fr L25) ho27 (by omega) ho22
  refine WL.nil (hK18 _ _ (WC.region (WL.r 3 hs34 [] rfl (WL.nil (tkN ?_)))))
  obtain ⟨L36, hs35, ho37⟩ := OwnN.fold (hs34.fr L29) ho31 hb33
  rw [set_at p1 (by omega)] at ho37
  refine ⟨sbF rfl, _, hs35, _, ?_, i + 1, (ys ++ [r20]), _, _, rfl, ?_, ?_, ?_, ho37, ⟨rfl, rfl, trivial⟩⟩
  · omega
  · omega
  · simp; omega
  · rw [List.map_append, p2, map_take_succ (F := encFileR) (by omega)]; congr 1 <;> simp only [List.map_cons, List.map_nil] <;> congr 1 <;> assumption
 refine WC.exit (hK10 _ _ (WC.r1 hs15 [] rfl (WC.ret (retV1 rfl (resV.tmp rfl) ?_))))
 have hi_ : i = n_a := by omega
 subst hi_
 have hx_ := ho14
 simp only [Nat.sub_self, List.replicate_zero, List.append_nil] at hx_
 exact ⟨_, _, ys, _, rfl, (St.keep1 hs15), hx_, by rw [p2, List.take_of_length_le (by omega)]⟩
theorem k33_ (A_a : Option Addr) (n_a c_a : Nat) (a : List LinkD) (w : World) (f_a : SlF encLink w A_a n_a a) (hn : n_a ≤ 1099511627776) :
    Calls Tryz.prog 72 #[.slice A_a n_a c_a] w fun e w' => ∃ A c L1, e = .returned (.slice A (a).length c) ∧ St w [] L1 w' ∧ OwnF encLink 101 (.slice A (a).length c) (a) L1 := by
 refine enter 23 Tryz.func72 rfl Tryz.ntmps72 rfl rfl ?_
 have hs1 := St.init w
 refine WC.r1 hs1 [] rfl (WC.sr (WL.r 2 hs1 [] rfl (WL.makeF (F := encLink) hs1 Tryz.underlying31 inf101 rfl rfl rfl rfl rfl rfl rfl rfl rfl ?_ ?_ (fun A5 c6 L2 whs3 hs3 ho4 => ?_))))
 · have e_ : Tryz.t101.bytes = 24 := rfl
   rw [e_]; omega
 · omega
 refine WL.r 1 hs3 [] rfl (WL.nil (WC.seq (fun K7 hK7 => WC.r1 hs3 [] rfl (WC.block ?_))))
 refine WC.lO [0, 2] rfl hs3 (fun k_ f L_ => ∃ (i : Nat) (A8 : Option Addr) (c9 : Nat), k_ = n_a - i ∧ (i ≤ n_a) ∧ OwnF encLink 101 (.slice A8 (n_a) c9) (fillG encLink a i) L_ ∧ Sub [(3, .slice A8 (n_a) c9), (4, .int .i64 i)] f) (((fun (i : Nat) => n_a - i) (0))) ?_ ?_
 ·refine ⟨0, _, _, rfl, ?_, (fillG_zero f_a.len ▸ ho4), ⟨rfl, rfl, trivial⟩⟩
  · exact Nat.zero_le _
 clear hs3
 rintro _ f w L10 ⟨i, A8, c9, rfl, p0, ho11, hG⟩ hF hs12
 refine WC.sub _ (hG.app hF) ?_
 clear hG hF
 refine WC.seq (fun K13 hK13 => WC.r1 hs12 [] rfl ?_)
 refine WC.cq rfl (fun h14 qh14 => ?_) (fun h14 qh14 => ?_)
 ·refine WC.skip (hK13 _ _ (WC.seq (fun K15 hK15 => WC.block (WC.region (WL.r 4 hs12 [] rfl ?_)))))
  refine WL.val rfl rfl rfl (Run.idxN Tryz.runUnderlying23 Tryz.sizeOf150 rfl rfl rfl ?_ ?_ ?_) ?_
  · exact SlF.some_ (SlF.st0 f_a hs12)
  · omega
  · omega
  refine WL.val rfl rfl rfl (Run.loadA Tryz.isAgg150 Tryz.sizeOf150 rfl rfl (SlF.whole (SlF.st0 f_a hs12) ?_)) ?_
  · omega
  refine WL.cl Tryz.call126 rfl (k24_ _ _ _) ?_
  rintro _ whs16 ⟨rfl, hs16⟩
  replace hs16 := hs12.call0 hs16
  refine ⟨_, rfl, WL.val rfl rfl rfl (Run.idxN Tryz.runUnderlying31 Tryz.sizeOf101 rfl rfl rfl ?_ ?_ ?_) ?_⟩
  · exact SlF.some_ (SlF.ofOwn ho11 (hs16.ow L10))
  · omega
  · omega
  refine WL.storeF1 (x' := _) hs16 ho11 Tryz.sizeOf101 rfl rfl rfl rfl rfl rfl rfl rfl rfl ?_ rfl (fun L17 whs18 hs18 ho19 _ => ?_)
  · omega
  refine WL.nil (hK15 _ _ (WC.region (WL.r 3 hs18 [] rfl (WL.nil (tkN ?_)))))
  rw [fillG_set (i := i) (by rw [f_a.len]; omega) (by simp) (by simp)] at ho19
  refine ⟨sbF rfl, _, hs18, _, ?_, i + 1, _, _, rfl, ?_, ho19, ⟨rfl, rfl, trivial⟩⟩
  · omega
  · omega
 refine WC.exit (hK7 _ _ (WC.r1 hs12 [] rfl (WC.ret (retV1 rfl (resV.tmp rfl) ?_))))
 have hx_ := OwnF.eqOf (xs := a) ho11 (fillG_full (by rw [f_a.len]; omega))
 have hy_ := ho11
 rw [hx_] at hy_
 obtain ⟨A_, c_, hz_⟩ := hy_.shape
 exact ⟨A_, c_, _, congrArg Ending.returned hz_, (St.keep1 hs12), hz_ ▸ hy_⟩
theorem k34_ (A_a : Option Addr) (n_a c_a : Nat) (a : List TurnD) (w : World) (f_a : SlF encTurn w A_a n_a a) (hn : n_a ≤ 1099511627776) :
    Calls Tryz.prog 73 #[.slice A_a n_a c_a] w fun e w' => ∃ A c L1, e = .returned (.slice A (a).length c) ∧ St w [] L1 w' ∧ OwnF encTurn 137 (.slice A (a).length c) (a) L1 := by
 refine enter 23 Tryz.func73 rfl Tryz.ntmps73 rfl rfl ?_
 have hs1 := St.init w
 refine WC.r1 hs1 [] rfl (WC.sr (WL.r 2 hs1 [] rfl (WL.makeF (F := encTurn) hs1 Tryz.underlying32 inf137 rfl rfl rfl rfl rfl rfl rfl rfl rfl ?_ ?_ (fun A5 c6 L2 whs3 hs3 ho4 => ?_))))
 · have e_ : Tryz.t137.bytes = 48 := rfl
   rw [e_]; omega
 · omega
 refine WL.r 1 hs3 [] rfl (WL.nil (WC.seq (fun K7 hK7 => WC.r1 hs3 [] rfl (WC.block ?_))))
 refine WC.lO [0, 2] rfl hs3 (fun k_ f L_ => ∃ (i : Nat) (A8 : Option Addr) (c9 : Nat), k_ = n_a - i ∧ (i ≤ n_a) ∧ OwnF encTurn 137 (.slice A8 (n_a) c9) (fillG encTurn a i) L_ ∧ Sub [(3, .slice A8 (n_a) c9), (4, .int .i64 i)] f) (((fun (i : Nat) => n_a - i) (0))) ?_ ?_
 ·refine ⟨0, _, _, rfl, ?_, (fillG_zero f_a.len ▸ ho4), ⟨rfl, rfl, trivial⟩⟩
  · exact Nat.zero_le _
 clear hs3
 rintro _ f w L10 ⟨i, A8, c9, rfl, p0, ho11, hG⟩ hF hs12
 refine WC.sub _ (hG.app hF) ?_
 clear hG hF
 refine WC.seq (fun K13 hK13 => WC.r1 hs12 [] rfl ?_)
 refine WC.cq rfl (fun h14 qh14 => ?_) (fun h14 qh14 => ?_)
 ·refine WC.skip (hK13 _ _ (WC.seq (fun K15 hK15 => WC.block (WC.region (WL.r 4 hs12 [] rfl ?_)))))
  refine WL.val rfl rfl rfl (Run.idxN Tryz.runUnderlying24 Tryz.sizeOf152 rfl rfl rfl ?_ ?_ ?_) ?_
  · exact SlF.some_ (SlF.st0 f_a hs12)
  · omega
  · omega
  refine WL.val rfl rfl rfl (Run.loadA Tryz.isAgg152 Tryz.sizeOf152 rfl rfl (SlF.whole (SlF.st0 f_a hs12) ?_)) ?_
  · omega
  refine WL.cl Tryz.call127 rfl (k25_ _ _ _ _ _) ?_
  rintro _ whs16 ⟨rfl, hs16⟩
  replace hs16 := hs12.call0 hs16
  refine ⟨_, rfl, WL.val rfl rfl rfl (Run.idxN Tryz.runUnderlying32 Tryz.sizeOf137 rfl rfl rfl ?_ ?_ ?_) ?_⟩
  · exact SlF.some_ (SlF.ofOwn ho11 (hs16.ow L10))
  · omega
  · omega
  refine WL.storeF1 (x' := _) hs16 ho11 Tryz.sizeOf137 rfl rfl rfl rfl rfl rfl rfl rfl rfl ?_ rfl (fun L17 whs18 hs18 ho19 _ => ?_)
  · omega
  refine WL.nil (hK15 _ _ (WC.region (WL.r 3 hs18 [] rfl (WL.nil (tkN ?_)))))
  rw [fillG_set (i := i) (by rw [f_a.len]; omega) (by simp) (by simp)] at ho19
  refine ⟨sbF rfl, _, hs18, _, ?_, i + 1, _, _, rfl, ?_, ho19, ⟨rfl, rfl, trivial⟩⟩
  · omega
  · omega
 refine WC.exit (hK7 _ _ (WC.r1 hs12 [] rfl (WC.ret (retV1 rfl (resV.tmp rfl) ?_))))
 have hx_ := OwnF.eqOf (xs := a) ho11 (fillG_full (by rw [f_a.len]; omega))
 have hy_ := ho11
 rw [hx_] at hy_
 obtain ⟨A_, c_, hz_⟩ := hy_.shape
 exact ⟨A_, c_, _, congrArg Ending.returned hz_, (St.keep1 hs12), hz_ ▸ hy_⟩
theorem k35_ (A_a : Option Addr) (n_a c_a : Nat) (a : List FileR) (A_b : Option Addr) (n_b c_b : Nat) (b : List FileR) (w : World) (f_a : SlN encFileR (okFileR 549755813888) w A_a n_a a) (f_b : SlN encFileR (okFileR 549755813888) w A_b n_b b) (hn : n_a ≤ 549755813888) (hab : a.map FileR.dat = b.map FileR.dat) :
    Calls Tryz.prog 77 #[.slice A_a n_a c_a, .slice A_b n_b c_b] w fun e w' => e = .returned (.bool true) ∧ St w [] [] w' := by
 have hla := f_a.sl.len
 obtain rfl : n_a = n_b := by have h9 := congrArg List.length hab; simp only [List.length_map] at h9; rw [← hla, h9]; exact f_b.sl.len
 refine enter 27 Tryz.func77 rfl Tryz.ntmps77 rfl rfl ?_
 have hs1 := St.init w
 refine WC.r1 hs1 [] rfl (WC.seq (fun K2 hK2 => WC.r1 hs1 [] rfl (WC.condF rfl (by simp) (WC.skip (hK2 _ _ (WC.seq (fun K4 hK4 => WC.r1 hs1 [] rfl ?_)))))))
 refine WC.block (WC.lS [0, 1, 10] rfl hs1 (fun k_ f w' => ∃ (i : Nat), k_ = n_a - i ∧ (i ≤ n_a) ∧ Sub [(5, .int .i64 i)] f) ((fun (i : Nat) => n_a - i) (0)) ?_ ?_)
 ·refine ⟨0, rfl, ?_, ⟨rfl, trivial⟩⟩
  · exact Nat.zero_le _
 clear hs1
 rintro _ f w ⟨i, rfl, p0, hG⟩ hF hs5
 refine WC.sub _ (hG.app hF) ?_
 clear hG hF
 refine WC.seq (fun K6 hK6 => WC.r1 hs5 [] rfl ?_)
 refine WC.cD rfl (fun qh7 => ?_) (fun qh7 => ?_)
 ·have hab_ := gat_dat (F := encFileR) (i := i) hab (by omega)
  refine WC.skip (hK6 _ _ (WC.seq (fun K8 hK8 => WC.block (WC.sq1 hs5 (WQ.r 2 [] rfl ?_)))))
  refine WQ.val rfl rfl rfl (fun w_ hs_ => (Run.idxN Tryz.runUnderlying30 Tryz.sizeOf123 rfl rfl rfl ?_ ?_ ?_)) ?_
  · exact SlF.some_ (SlF.st0 f_a.sl (hs_ : St _ _ _ _))
  · omega
  · omega
  refine WQ.val rfl rfl rfl (fun w_ hs_ => (Run.loadA Tryz.isAgg123 Tryz.sizeOf123 rfl rfl (SlF.whole (SlF.st0 f_a.sl (hs_ : St _ _ _ _)) ?_))) ?_
  · omega
  refine WQ.r 2 [] rfl ?_
  refine WQ.val rfl rfl rfl (fun w_ hs_ => (Run.idxN Tryz.runUnderlying30 Tryz.sizeOf123 rfl rfl rfl ?_ ?_ ?_)) ?_
  · exact SlF.some_ (SlF.st0 f_b.sl (hs_ : St _ _ _ _))
  · omega
  · omega
  refine WQ.val rfl rfl rfl (fun w_ hs_ => (Run.loadA Tryz.isAgg123 Tryz.sizeOf123 rfl rfl (SlF.whole (SlF.st0 f_b.sl (hs_ : St _ _ _ _)) ?_))) ?_
  · omega
  refine WQ.call rfl rfl rfl (fun w_ hs_ => (Run.call Tryz.call135 rfl rfl rfl)) (fun w_ hs_ => (k26_ (gat encFileR a i) (gat encFileR b i) _ (okFileR.st0 (SlN.nth f_a (by omega)) (hs_ : St _ _ _ _)) (okFileR.st0 (SlN.nth f_b (by omega)) (hs_ : St _ _ _ _)) ?_).mono fun e_ w_ h_ => ⟨h_.1, (hs_ : St _ _ _ _).call0 h_.2⟩) ?_
  · first | assumption | rfl | omega
  refine WQ.r 1 [] rfl (WQ.nil (fun _ (hs9 : St _ _ _ _) => WC.condF rfl (by simp) (WC.skip (hK8 _ _ (WC.region (WL.r 3 hs9 [] rfl (WL.nil ?_)))))))
  refine tkN (⟨sbF rfl, hs9, _, ?_, i + 1, rfl, ?_, ⟨rfl, trivial⟩⟩)
  · omega
  · omega
 refine WC.exit (hK4 _ _ (WC.r1 hs5 [] rfl (WC.ret (rtv rfl rfl hs5 ?_))))
 rfl
theorem k36_ (A_a : Option Addr) (n_a c_a : Nat) (a : List LinkD) (A_b : Option Addr) (n_b c_b : Nat) (b : List LinkD) (w : World) (f_a : SlF encLink w A_a n_a a) (f_b : SlF encLink w A_b n_b b) (hn : n_a ≤ 1099511627776) (hab : a = b) :
    Calls Tryz.prog 78 #[.slice A_a n_a c_a, .slice A_b n_b c_b] w fun e w' => e = .returned (.bool true) ∧ St w [] [] w' := by
 subst hab
 obtain rfl : n_a = n_b := f_a.len.symm.trans f_b.len
 refine enter 27 Tryz.func78 rfl Tryz.ntmps78 rfl rfl ?_
 have hs1 := St.init w
 refine WC.r1 hs1 [] rfl (WC.seq (fun K2 hK2 => WC.r1 hs1 [] rfl (WC.condF rfl (by simp) (WC.skip (hK2 _ _ (WC.seq (fun K4 hK4 => WC.r1 hs1 [] rfl ?_)))))))
 refine WC.block (WC.lS [0, 1, 10] rfl hs1 (fun k_ f w' => ∃ (i : Nat), k_ = n_a - i ∧ (i ≤ n_a) ∧ Sub [(5, .int .i64 i)] f) ((fun (i : Nat) => n_a - i) (0)) ?_ ?_)
 ·refine ⟨0, rfl, ?_, ⟨rfl, trivial⟩⟩
  · exact Nat.zero_le _
 clear hs1
 rintro _ f w ⟨i, rfl, p0, hG⟩ hF hs5
 refine WC.sub _ (hG.app hF) ?_
 clear hG hF
 refine WC.seq (fun K6 hK6 => WC.r1 hs5 [] rfl ?_)
 refine WC.cD rfl (fun qh7 => ?_) (fun qh7 => ?_)
 ·refine WC.skip (hK6 _ _ (WC.seq (fun K8 hK8 => WC.block (WC.sq1 hs5 (WQ.r 2 [] rfl ?_)))))
  refine WQ.val rfl rfl rfl (fun w_ hs_ => (Run.idxN Tryz.runUnderlying31 Tryz.sizeOf101 rfl rfl rfl ?_ ?_ ?_)) ?_
  · exact SlF.some_ (SlF.st0 f_a (hs_ : St _ _ _ _))
  · omega
  · omega
  refine WQ.val rfl rfl rfl (fun w_ hs_ => (Run.loadA Tryz.isAgg101 Tryz.sizeOf101 rfl rfl (SlF.whole (SlF.st0 f_a (hs_ : St _ _ _ _)) ?_))) ?_
  · omega
  refine WQ.r 2 [] rfl ?_
  refine WQ.val rfl rfl rfl (fun w_ hs_ => (Run.idxN Tryz.runUnderlying31 Tryz.sizeOf101 rfl rfl rfl ?_ ?_ ?_)) ?_
  · exact SlF.some_ (SlF.st0 f_b (hs_ : St _ _ _ _))
  · omega
  · omega
  refine WQ.val rfl rfl rfl (fun w_ hs_ => (Run.loadA Tryz.isAgg101 Tryz.sizeOf101 rfl rfl (SlF.whole (SlF.st0 f_b (hs_ : St _ _ _ _)) ?_))) ?_
  · omega
  refine WQ.call rfl rfl rfl (fun w_ hs_ => (Run.call Tryz.call136 rfl rfl rfl)) (fun w_ hs_ => (k27_ _ _ _ _ _ ?_).mono fun e_ w_ h_ => ⟨h_.1, (hs_ : St _ _ _ _).call0 h_.2⟩) ?_
  · first | assumption | rfl | omega
  refine WQ.r 1 [] rfl (WQ.nil (fun _ (hs9 : St _ _ _ _) => WC.condF rfl (by simp) (WC.skip (hK8 _ _ (WC.region (WL.r 3 hs9 [] rfl (WL.nil ?_)))))))
  refine tkN (⟨sbF rfl, hs9, _, ?_, i + 1, rfl, ?_, ⟨rfl, trivial⟩⟩)
  · omega
  · omega
 refine WC.exit (hK4 _ _ (WC.r1 hs5 [] rfl (WC.ret (rtv rfl rfl hs5 ?_))))
 rfl
theorem k37_ (A_a : Option Addr) (n_a c_a : Nat) (a : List TurnD) (A_b : Option Addr) (n_b c_b : Nat) (b : List TurnD) (w : World) (f_a : SlF encTurn w A_a n_a a) (f_b : SlF encTurn w A_b n_b b) (hn : n_a ≤ 1099511627776) (hab : a = b) :
    Calls Tryz.prog 79 #[.slice A_a n_a c_a, .slice A_b n_b c_b] w fun e w' => e = .returned (.bool true) ∧ St w [] [] w' := by
 subst hab
 obtain rfl : n_a = n_b := f_a.len.symm.trans f_b.len
 refine enter 27 Tryz.func79 rfl Tryz.ntmps79 rfl rfl ?_
 have hs1 := St.init w
 refine WC.r1 hs1 [] rfl (WC.seq (fun K2 hK2 => WC.r1 hs1 [] rfl (WC.condF rfl (by simp) (WC.skip (hK2 _ _ (WC.seq (fun K4 hK4 => WC.r1 hs1 [] rfl ?_)))))))
 refine WC.block (WC.lS [0, 1, 10] rfl hs1 (fun k_ f w' => ∃ (i : Nat), k_ = n_a - i ∧ (i ≤ n_a) ∧ Sub [(5, .int .i64 i)] f) ((fun (i : Nat) => n_a - i) (0)) ?_ ?_)
 ·refine ⟨0, rfl, ?_, ⟨rfl, trivial⟩⟩
  · exact Nat.zero_le _
 clear hs1
 rintro _ f w ⟨i, rfl, p0, hG⟩ hF hs5
 refine WC.sub _ (hG.app hF) ?_
 clear hG hF
 refine WC.seq (fun K6 hK6 => WC.r1 hs5 [] rfl ?_)
 refine WC.cD rfl (fun qh7 => ?_) (fun qh7 => ?_)
 ·refine WC.skip (hK6 _ _ (WC.seq (fun K8 hK8 => WC.block (WC.sq1 hs5 (WQ.r 2 [] rfl ?_)))))
  refine WQ.val rfl rfl rfl (fun w_ hs_ => (Run.idxN Tryz.runUnderlying32 Tryz.sizeOf137 rfl rfl rfl ?_ ?_ ?_)) ?_
  · exact SlF.some_ (SlF.st0 f_a (hs_ : St _ _ _ _))
  · omega
  · omega
  refine WQ.val rfl rfl rfl (fun w_ hs_ => (Run.loadA Tryz.isAgg137 Tryz.sizeOf137 rfl rfl (SlF.whole (SlF.st0 f_a (hs_ : St _ _ _ _)) ?_))) ?_
  · omega
  refine WQ.r 2 [] rfl ?_
  refine WQ.val rfl rfl rfl (fun w_ hs_ => (Run.idxN Tryz.runUnderlying32 Tryz.sizeOf137 rfl rfl rfl ?_ ?_ ?_)) ?_
  · exact SlF.some_ (SlF.st0 f_b (hs_ : St _ _ _ _))
  · omega
  · omega
  refine WQ.val rfl rfl rfl (fun w_ hs_ => (Run.loadA Tryz.isAgg137 Tryz.sizeOf137 rfl rfl (SlF.whole (SlF.st0 f_b (hs_ : St _ _ _ _)) ?_))) ?_
  · omega
  refine WQ.call rfl rfl rfl (fun w_ hs_ => (Run.call Tryz.call137 rfl rfl rfl)) (fun w_ hs_ => (k28_ _ _ _ _ _ _ _ _ _ ?_).mono fun e_ w_ h_ => ⟨h_.1, (hs_ : St _ _ _ _).call0 h_.2⟩) ?_
  · first | assumption | rfl | omega
  refine WQ.r 1 [] rfl (WQ.nil (fun _ (hs9 : St _ _ _ _) => WC.condF rfl (by simp) (WC.skip (hK8 _ _ (WC.region (WL.r 3 hs9 [] rfl (WL.nil ?_)))))))
  refine tkN (⟨sbF rfl, hs9, _, ?_, i + 1, rfl, ?_, ⟨rfl, trivial⟩⟩)
  · omega
  · omega
 refine WC.exit (hK4 _ _ (WC.r1 hs5 [] rfl (WC.ret (rtv rfl rfl hs5 ?_))))
 rfl
theorem k38_ (l_Name : ByteArray) (l_Id : Int) (b_p : Nat) (p : ByteArray) (w : World) (f_p : SlF encS w (some ⟨b_p, 0, none⟩) 1 [p]) :
    Calls Tryz.prog 177 #[.agg #[.string l_Name, i64 l_Id], .pointer (some ⟨b_p, 0, none⟩)] w fun e w' => e = .returned (.bool (isN p ⟨l_Name, l_Id⟩)) ∧ St w [] [] w' := by
 refine enter 8 Tryz.func177 rfl Tryz.ntmps177 rfl rfl ?_
 have hs1 := St.init w
 refine WC.sr (WL.bx hs1 rfl (fun b2 _ hs3 => WL.r 1 hs3 [] rfl (WL.nil (WC.sr (WL.r 2 hs3 [0] rfl (WL.val rfl rfl rfl (Run.load Tryz.isAgg9 rfl rfl (SlF.var (SlF.st0 f_p hs3) rfl)) (WL.r 2 hs3 [] rfl ?_)))))))
 refine WL.nil (WC.ret (rtv rfl rfl hs3 ?_))
 rfl
theorem k39_ (A_s : Option Addr) (n_s c_s : Nat) (s : List LinkD) (b_p : Nat) (p : ByteArray) (w : World) (f_s : SlF encLink w A_s n_s s) (f_p : SlF encS w (some ⟨b_p, 0, none⟩) 1 [p]) (hn : n_s ≤ 1099511627776) :
    Calls Tryz.prog 175 #[.slice A_s n_s c_s, .func (.func 177) #[] #[.pointer (some ⟨b_p, 0, none⟩)]] w fun e w' => e = .returned (.int .i64 (findI (isN p) s)) ∧ St w [] [] w' := by
 refine enter 19 Tryz.func175 rfl Tryz.ntmps175 rfl rfl ?_
 have hs1 := St.init w
 refine WC.r1 hs1 [] rfl (WC.seq (fun K2 hK2 => WC.r1 hs1 [] rfl (WC.block ?_)))
 refine WC.lS [0, 1, 7] rfl hs1 (fun k_ f w' => ∃ (i : Nat), k_ = n_s - i ∧ (i ≤ n_s) ∧ (∀ j, j < i → (isN p) (gat encLink s j) = false) ∧ Sub [(8, .int .i64 i)] f) ((fun (i : Nat) => n_s - i) (0)) ?_ ?_
 ·refine ⟨0, rfl, ?_, ?_, ⟨rfl, trivial⟩⟩
  · exact Nat.zero_le _
  · exact fun j hj => absurd hj (by omega)
 clear hs1
 rintro _ f w ⟨i, rfl, p0, p1, hG⟩ hF hs3
 refine WC.sub _ (hG.app hF) ?_
 clear hG hF
 refine WC.r1 hs3 [] rfl (WC.seq (fun K4 hK4 => ?_))
 refine WC.cond rfl (fun h5 => ?_) (fun h5 => ?_)
 ·have qh5 := h5
  try simp only [decide_eq_true_eq, decide_eq_false_iff_not] at qh5
  refine WC.skip (hK4 _ _ (WC.seq (fun K6 hK6 => WC.block (WC.r1 hs3 [] rfl (WC.sr (WL.r 3 hs3 [] rfl ?_))))))
  refine WL.val rfl rfl rfl (Run.idxN Tryz.runUnderlying31 Tryz.sizeOf101 rfl rfl rfl ?_ ?_ ?_) ?_
  · exact SlF.some_ (SlF.st0 f_s hs3)
  · omega
  · omega
  refine WL.val rfl rfl rfl (Run.loadA Tryz.isAgg101 Tryz.sizeOf101 rfl rfl (SlF.whole (SlF.st0 f_s hs3) ?_)) ?_
  · omega
  refine WL.call rfl rfl rfl (Run.callC Tryz.call177 rfl rfl rfl) (k38_ _ _ _ _ _ (SlF.st0 f_p hs3)) ?_
  rintro _ whs7 ⟨rfl, hs7⟩
  replace hs7 := hs3.call0 hs7
  refine ⟨_, rfl, WL.nil (WC.cond rfl (fun h8 => ?_) (fun h8 => ?_))⟩
  ·have qh8 := h8
   try simp only [decide_eq_true_eq, decide_eq_false_iff_not] at qh8
   refine WC.r1 hs7 [] rfl (WC.ret (ibR (tkR (tkR (ibR (tkR ?_))))))
   clear hK6 hK2
   refine rtv rfl rfl hs7 ?_
   rw [findI_some (F := encLink) (by rw [f_s.len]; omega) p1 h8]
  have qh8 := h8
  try simp only [decide_eq_true_eq, decide_eq_false_iff_not] at qh8
  refine WC.skip (hK6 _ _ (WC.region (WL.r 2 hs7 [] rfl (WL.nil (tkN ?_)))))
  refine ⟨sbF rfl, hs7, _, ?_, i + 1, rfl, ?_, ?_, ⟨rfl, trivial⟩⟩
  · omega
  · omega
  · intro j hj; rcases Nat.lt_or_ge j i with h_ | h_
    · exact p1 j h_
    · obtain rfl : j = i := by omega
      exact h8
 have qh5 := h5
 try simp only [decide_eq_true_eq, decide_eq_false_iff_not] at qh5
 refine WC.exit (hK2 _ _ (WC.r1 hs3 [] rfl (WC.ret (rtv rfl rfl hs3 ?_))))
 rw [findI_none (F := encLink) (fun j hj => p1 j (by rw [f_s.len] at hj; omega))]
theorem k40_ (A_dir : Option Addr) (n_dir c_dir : Nat) (dir : List LinkD) (name : ByteArray) (w : World) (f_dir : SlF encLink w A_dir n_dir dir) (hn : n_dir ≤ 268435456) :
    Calls Tryz.prog 150 #[.slice A_dir n_dir c_dir, .string name] w fun e w' => e = .returned (.int .i64 (findI (isN name) dir)) ∧ St w [] [] w' := by
 refine enter 8 Tryz.func150 rfl Tryz.ntmps150 rfl rfl ?_
 have hs1 := St.init w
 refine WC.sr (WL.bx hs1 rfl (fun b2 _ hs3 => WL.r 1 hs3 [] rfl (WL.nil (WC.sr (WL.r 1 hs3 [] rfl (WL.val rfl rfl rfl (Run.makeFunc rfl rfl) ?_))))))
 refine WL.cl Tryz.call175 rfl (k39_ _ _ _ _ _ _ _ (SlF.st0 f_dir hs3) (SlF.own1 (hs3.own _ (nthL_mem (i := 0) rfl)).1) ?_) ?_
 · first | assumption | rfl | omega
 rintro _ whs4 ⟨rfl, hs4⟩
 replace hs4 := hs3.call0 hs4
 refine ⟨_, rfl, WL.r 1 hs4 [] rfl (WL.nil (WC.ret (rtv rfl rfl hs4 ?_)))⟩
 rfl
theorem k41_ (A_s : Option Addr) (n_s c_s : Nat) (s : List LinkD) (w : World) (f_s : SlF encLink w A_s n_s s) (hn : n_s ≤ 268435456) :
    Calls Tryz.prog 128 #[.slice A_s n_s c_s] w fun e w' => ∃ A c L1, e = .returned (.slice A (s).length c) ∧ St w [] L1 w' ∧ OwnF encLink 101 (.slice A (s).length c) (s) L1 := by
 have hl := f_s.len
 refine enter 8 Tryz.func128 rfl Tryz.ntmps128 rfl rfl ?_
 have hs1 := St.init w
 refine WC.r1 hs1 [] rfl (WC.seq (fun K2 hK2 => WC.sr (WL.r 1 hs1 [] rfl (WL.val rfl rfl rfl (Run.eqlNil Tryz.underlying31 rfl rfl rfl) (WL.nil ?_)))))
 refine WC.cq rfl (fun h3 qh3 => ?_) (fun h3 qh3 => ?_)
 ·obtain rfl : A_s = none := by simpa using qh3
  have h0 : n_s = 0 := SlF.none_ f_s
  have hs : s = [] := List.eq_nil_of_length_eq_zero (by omega)
  refine WC.r1 hs1 [] rfl (WC.ret (tkR ?_))
  clear hK2
  refine retV1 rfl (resV.tmp rfl) ?_
  have hx_ := OwnF.eqOf (xs := s) (OwnF.nil encLink 101) (by rw [hs])
  rw [← hx_]
  exact ⟨_, _, _, rfl, hs1.nil, (OwnF.nil encLink 101)⟩
 refine WC.skip (hK2 _ _ (WC.sr (WL.buildF (F := encLink) hs1 ([]) Tryz.runUnderlying31 Tryz.sizeOf101 Tryz.zeroValue101 rfl rfl rfl rfl rfl rfl rfl rfl rfl rfl rfl rfl (fun A7 c8 L4 whs5 hs5 ho6 => WL.r 1 hs5 [] rfl ?_))))
 refine WL.appendG hs5 ho6 (SlF.src (SlF.st0 f_s hs5) Tryz.underlying31) Tryz.underlying31 inf101 rfl rfl rfl rfl rfl rfl rfl rfl rfl rfl ?_ (fun A12 c13 L9 whs10 hs10 ho11 => ?_)
 · simp; omega
 refine WL.r 1 hs10 [] rfl (WL.nil (WC.ret (retV1 rfl (resV.tmp rfl) ?_)))
 have hx_ := OwnF.eqOf (xs := s) ho11 (by simp)
 rw [← hx_]
 first | exact ⟨_, _, _, rfl, (St.keep1 hs10), ho11⟩ | exact ⟨A12, c13, _, by rw [OwnF.len_ ho11], (St.keep1 hs10), by rw [OwnF.len_ ho11]; exact ho11⟩
theorem k42_ (l_Name : ByteArray) (l_Id : Int) (b_p : Nat) (p : ByteArray) (w : World) (f_p : SlF encS w (some ⟨b_p, 0, none⟩) 1 [p]) :
    Calls Tryz.prog 191 #[.agg #[.string l_Name, i64 l_Id], .pointer (some ⟨b_p, 0, none⟩)] w fun e w' => e = .returned (.bool (isN p ⟨l_Name, l_Id⟩)) ∧ St w [] [] w' := by
 refine enter 8 Tryz.func191 rfl Tryz.ntmps191 rfl rfl ?_
 have hs1 := St.init w
 refine WC.sr (WL.bx hs1 rfl (fun b2 _ hs3 => WL.r 1 hs3 [] rfl (WL.nil (WC.sr (WL.r 2 hs3 [0] rfl (WL.val rfl rfl rfl (Run.load Tryz.isAgg9 rfl rfl (SlF.var (SlF.st0 f_p hs3) rfl)) (WL.r 2 hs3 [] rfl ?_)))))))
 refine WL.nil (WC.ret (rtv rfl rfl hs3 ?_))
 rfl
theorem k43_ (A_s : Option Addr) (n_s c_s : Nat) (s : List LinkD) (b_p : Nat) (p : ByteArray) (w : World) (f_s : SlF encLink w A_s n_s s) (f_p : SlF encS w (some ⟨b_p, 0, none⟩) 1 [p]) (hn : n_s ≤ 1099511627776) :
    Calls Tryz.prog 175 #[.slice A_s n_s c_s, .func (.func 191) #[] #[.pointer (some ⟨b_p, 0, none⟩)]] w fun e w' => e = .returned (.int .i64 (findI (isN p) s)) ∧ St w [] [] w' := by
 refine enter 19 Tryz.func175 rfl Tryz.ntmps175 rfl rfl ?_
 have hs1 := St.init w
 refine WC.r1 hs1 [] rfl (WC.seq (fun K2 hK2 => WC.r1 hs1 [] rfl (WC.block ?_)))
 refine WC.lS [0, 1, 7] rfl hs1 (fun k_ f w' => ∃ (i : Nat), k_ = n_s - i ∧ (i ≤ n_s) ∧ (∀ j, j < i → (isN p) (gat encLink s j) = false) ∧ Sub [(8, .int .i64 i)] f) ((fun (i : Nat) => n_s - i) (0)) ?_ ?_
 ·refine ⟨0, rfl, ?_, ?_, ⟨rfl, trivial⟩⟩
  · exact Nat.zero_le _
  · exact fun j hj => absurd hj (by omega)
 clear hs1
 rintro _ f w ⟨i, rfl, p0, p1, hG⟩ hF hs3
 refine WC.sub _ (hG.app hF) ?_
 clear hG hF
 refine WC.r1 hs3 [] rfl (WC.seq (fun K4 hK4 => ?_))
 refine WC.cond rfl (fun h5 => ?_) (fun h5 => ?_)
 ·have qh5 := h5
  try simp only [decide_eq_true_eq, decide_eq_false_iff_not] at qh5
  refine WC.skip (hK4 _ _ (WC.seq (fun K6 hK6 => WC.block (WC.r1 hs3 [] rfl (WC.sr (WL.r 3 hs3 [] rfl ?_))))))
  refine WL.val rfl rfl rfl (Run.idxN Tryz.runUnderlying31 Tryz.sizeOf101 rfl rfl rfl ?_ ?_ ?_) ?_
  · exact SlF.some_ (SlF.st0 f_s hs3)
  · omega
  · omega
  refine WL.val rfl rfl rfl (Run.loadA Tryz.isAgg101 Tryz.sizeOf101 rfl rfl (SlF.whole (SlF.st0 f_s hs3) ?_)) ?_
  · omega
  refine WL.call rfl rfl rfl (Run.callC Tryz.call191 rfl rfl rfl) (k42_ _ _ _ _ _ (SlF.st0 f_p hs3)) ?_
  rintro _ whs7 ⟨rfl, hs7⟩
  replace hs7 := hs3.call0 hs7
  refine ⟨_, rfl, WL.nil (WC.cond rfl (fun h8 => ?_) (fun h8 => ?_))⟩
  ·have qh8 := h8
   try simp only [decide_eq_true_eq, decide_eq_false_iff_not] at qh8
   refine WC.r1 hs7 [] rfl (WC.ret (ibR (tkR (tkR (ibR (tkR ?_))))))
   clear hK6 hK2
   refine rtv rfl rfl hs7 ?_
   rw [findI_some (F := encLink) (by rw [f_s.len]; omega) p1 h8]
  have qh8 := h8
  try simp only [decide_eq_true_eq, decide_eq_false_iff_not] at qh8
  refine WC.skip (hK6 _ _ (WC.region (WL.r 2 hs7 [] rfl (WL.nil (tkN ?_)))))
  refine ⟨sbF rfl, hs7, _, ?_, i + 1, rfl, ?_, ?_, ⟨rfl, trivial⟩⟩
  · omega
  · omega
  · intro j hj; rcases Nat.lt_or_ge j i with h_ | h_
    · exact p1 j h_
    · obtain rfl : j = i := by omega
      exact h8
 have qh5 := h5
 try simp only [decide_eq_true_eq, decide_eq_false_iff_not] at qh5
 refine WC.exit (hK2 _ _ (WC.r1 hs3 [] rfl (WC.ret (rtv rfl rfl hs3 ?_))))
 rw [findI_none (F := encLink) (fun j hj => p1 j (by rw [f_s.len] at hj; omega))]
theorem k44_ (v_s : Value) (s : List LinkD) (L_s : Hp) (b_p : Nat) (p : ByteArray) (w : World) (o_s : OwnF encLink 101 v_s s L_s) (h_s : Hh w L_s) (f_p : SlF encS w (some ⟨b_p, 0, none⟩) 1 [p]) (s_p : b_p ∉ L_s.map (·.1)) (hn : s.length ≤ 268435456) :
    Calls Tryz.prog 190 #[v_s, .func (.func 191) #[] #[.pointer (some ⟨b_p, 0, none⟩)]] w fun e w' => ∃ A c L1, e = .returned (.slice A (s.filter (fun x => !isN p x)).length c) ∧ St w (L_s.map (·.1)) L1 w' ∧ OwnF encLink 101 (.slice A (s.filter (fun x => !isN p x)).length c) (s.filter (fun x => !isN p x)) L1 := by
 obtain ⟨A_s, c_s, rfl⟩ := o_s.shape
 refine enter 42 Tryz.func190 rfl Tryz.ntmps190 rfl rfl ?_
 have hs1 := St.lent1 w L_s o_s h_s
 refine WC.r1 hs1 [] rfl ?_
 refine WC.sr ?_
 refine WL.r 2 hs1 [] rfl ?_
 refine WL.cl Tryz.call175 rfl (k43_ _ _ _ _ _ _ _ (SlF.ofOwn o_s (hs1.ow L_s)) (SlF.st f_p hs1 (fun _ => s_p)) ?_) ?_
 · first | assumption | rfl | omega
 rintro _ whs2 ⟨rfl, hs2⟩
 replace hs2 := hs1.call0 hs2
 refine ⟨_, rfl, ?_⟩
 refine WL.r 1 hs2 [] rfl ?_
 refine WL.nil ?_
 refine WC.seq (fun K3 hK3 => ?_)
 refine WC.r1 hs2 [] rfl ?_
 refine WC.cq rfl (fun h4 qh4 => ?_) (fun h4 qh4 => ?_)
 ·have hall : s.filter (fun x => !isN p x) = s := by
    rcases findI_cases (p := (isN p)) (xs := s) with ⟨_, h1_⟩ | ⟨i1, _, h1_, _⟩
    · exact List.filter_eq_self.2 (fun x hx => by have h9 := h1_ x hx; simpa using h9)
    · omega
  refine WC.r1 hs2 [] rfl ?_
  refine WC.ret ?_
  refine tkR ?_
  clear hK3
  refine retV1 rfl (resV.tmp rfl) ?_
  have hx_ := OwnF.eqOf (xs := s.filter (fun x => !isN p x)) o_s (by rw [hall])
  rw [← hx_]
  first | exact ⟨_, _, _, rfl, (St.keep1 hs2), o_s⟩ | exact ⟨A_s, c_s, _, by rw [OwnF.len_ o_s], (St.keep1 hs2), by rw [OwnF.len_ o_s]; exact o_s⟩
 obtain ⟨i0, hi0, hf0, hp0, hb0⟩ : ∃ i0 : Nat, ∃ hi : i0 < s.length, findI (isN p) s = (i0 : Int) ∧ (isN p) s[i0] = true ∧ ∀ j (hj : j < i0), (isN p) (s[j]'(by omega)) = false := by
   rcases findI_cases (p := (isN p)) (xs := s) with ⟨h1_, _⟩ | ⟨i1, hi, h1_, h2_, h3_⟩
   · omega
   · exact ⟨i1, hi, h1_, h2_, h3_⟩
 rw [hf0]
 have hinit : s.take i0 = (s.take (i0 + 1)).filter (fun x => !isN p x) := by
   rw [filter_take (F := encLink) hi0]
   have hg : gat encLink s i0 = s[i0] := by have e_ := gat_get (F := encLink) hi0; rw [List.getElem?_eq_getElem hi0] at e_; exact (Option.some.inj e_).symm
   rw [if_neg (by rw [hg]; simpa using hp0), List.append_nil]
   symm
   refine List.filter_eq_self.2 (fun x hx => ?_)
   obtain ⟨j, hj, rfl⟩ := List.mem_iff_getElem.1 hx
   rw [List.length_take] at hj
   rw [List.getElem_take]
   have h9 := hb0 j (by omega)
   simpa using h9
 refine WC.skip ?_
 refine hK3 _ _ ?_
 refine WC.seq (fun K5 hK5 => ?_)
 refine WC.r1 hs2 [] rfl ?_
 refine WC.block ?_
 refine WC.lO [1, 4, 12] rfl hs2 (fun k_ f L_ => ∃ (zs : List LinkD) (i j : Nat), k_ = s.length - j ∧ (i < j) ∧ (j ≤ s.length) ∧ (zs.length = s.length) ∧ (zs.take i = (s.take j).filter (fun x => !isN p x)) ∧ (∀ k, j ≤ k → gat encLink zs k = gat encLink s k) ∧ OwnF encLink 101 (.slice A_s (s.length) c_s) (zs) L_ ∧ Sub [(0, .slice A_s (s.length) c_s), (5, .int .i64 i), (6, .int .i64 j)] f) (((fun (zs : List LinkD) (i j : Nat) => s.length - j) (s) (i0) ((i0 + 1)))) ?_ ?_
 ·refine ⟨s, i0, (i0 + 1), rfl, ?_, ?_, ?_, ?_, ?_, o_s, ⟨rfl, rfl, rfl, trivial⟩⟩
  · omega
  · omega
  · rfl
  · exact hinit
  · exact fun k _ => rfl
 clear hs2
 rintro _ f w L8 ⟨zs, i, j, rfl, p0, p1, p2, p3, p4, ho9, hG⟩ hF hs10
 refine WC.sub _ (hG.app hF) ?_
 clear hG hF
 refine WC.seq (fun K11 hK11 => ?_)
 refine WC.r1 hs10 [] rfl ?_
 refine WC.cq rfl (fun h12 qh12 => ?_) (fun h12 qh12 => ?_)
 ·refine WC.skip ?_
  refine hK11 _ _ ?_
  refine WC.seq (fun K13 hK13 => ?_)
  refine WC.block ?_
  refine WC.sr ?_
  refine WL.r 2 hs10 [] rfl ?_
  refine WL.val rfl rfl rfl (Run.idxN Tryz.runUnderlying31 Tryz.sizeOf101 rfl rfl rfl ?_ ?_ ?_) ?_
  · exact SlF.some_ (SlF.ofOwn ho9 (hs10.ow L8))
  · omega
  · omega
  refine WL.val rfl rfl rfl (Run.loadA Tryz.isAgg101 Tryz.sizeOf101 rfl rfl (SlF.whole (SlF.ofOwn ho9 (hs10.ow L8)) ?_)) ?_
  · omega
  refine WL.al hs10 Tryz.zeroValue101 rfl rfl (fun b14 _ hs15 => ?_)
  refine WL.st tbk hs15 0 rfl rfl (fun _ hs16 => ?_)
  refine WL.nil ?_
  refine WC.sr ?_
  refine WL.r 2 hs16 [0] rfl ?_
  refine WL.call rfl rfl rfl (Run.callC Tryz.call191 rfl rfl rfl) (k42_ _ _ _ _ _ (SlF.st f_p hs16 (fun _ => s_p))) ?_
  rintro _ whs17 ⟨rfl, hs17⟩
  replace hs17 := hs16.call0 hs17
  refine ⟨_, rfl, ?_⟩
  refine WL.r 1 hs17 [] rfl ?_
  refine WL.nil ?_
  refine WC.cq rfl (fun h18 qh18 => ?_) (fun h18 qh18 => ?_)
  ·refine WC.sr ?_
   refine WL.r 3 hs17 [0] rfl ?_
   refine WL.val rfl rfl rfl (Run.idxN Tryz.runUnderlying31 Tryz.sizeOf101 rfl rfl rfl ?_ ?_ ?_) ?_
   · exact SlF.some_ (SlF.ofOwn ho9 (hs17.ow L8))
   · omega
   · omega
   refine WL.storeF1 (x' := (gat encLink zs j)) (hs17.fr L8) ho9 Tryz.sizeOf101 rfl rfl rfl rfl rfl rfl rfl rfl rfl ?_ rfl (fun L19 whs20 hs20 ho21 _ => ?_)
   · omega
   replace hs20 := St.back [_] hs20
   refine WL.nil ?_
   refine WC.region ?_
   refine WL.r 3 hs20 [] rfl ?_
   refine WL.nil ?_
   refine hK13 _ _ ?_
   refine WC.region ?_
   refine WL.r 3 hs20 [] rfl ?_
   refine WL.nil ?_
   refine tkN ?_
   replace hs20 := hs20.d1
   refine ⟨sbF rfl, _, hs20, _, ?_, _, (i + 1), (j + 1), rfl, ?_, ?_, ?_, ?_, ?_, ho21, ⟨rfl, rfl, rfl, trivial⟩⟩
   · omega
   · omega
   · omega
   · first | omega | (rw [List.length_set]; omega)
   · first | (rw [set_take (by omega), p3, filter_take (F := encLink) (by omega), if_pos (by rw [← p4 j (Nat.le_refl _)]; simpa using h18), p4 j (Nat.le_refl _)]) | (rw [p3, filter_take (F := encLink) (by omega), if_neg (by rw [← p4 j (Nat.le_refl _)]; simpa using h18), List.append_nil])
   · intro k hk; first | (rw [gat_set_ne (by omega)]; exact p4 k (by omega)) | exact p4 k (by omega)
  refine WC.skip ?_
  refine hK13 _ _ ?_
  refine WC.region ?_
  refine WL.r 3 hs17 [] rfl ?_
  refine WL.nil ?_
  refine tkN ?_
  replace hs17 := hs17.d1
  refine ⟨sbF rfl, _, hs17, _, ?_, _, i, (j + 1), rfl, ?_, ?_, ?_, ?_, ?_, ho9, ⟨rfl, rfl, rfl, trivial⟩⟩
  · omega
  · omega
  · omega
  · first | omega | (rw [List.length_set]; omega)
  · first | (rw [set_take (by omega), p3, filter_take (F := encLink) (by omega), if_pos (by rw [← p4 j (Nat.le_refl _)]; simpa using h18), p4 j (Nat.le_refl _)]) | (rw [p3, filter_take (F := encLink) (by omega), if_neg (by rw [← p4 j (Nat.le_refl _)]; simpa using h18), List.append_nil])
  · intro k hk; first | (rw [gat_set_ne (by omega)]; exact p4 k (by omega)) | exact p4 k (by omega)
 refine WC.exit ?_
 refine hK5 _ _ ?_
 refine WC.sr ?_
 refine WL.r 2 hs10 [] rfl ?_
 have hc_ := OwnF.cap ho9
 refine WL.val rfl rfl rfl (Run.sliceL (i) Tryz.runUnderlying31 Tryz.sizeOf101 rfl rfl rfl ?_ ?_) ?_
 · first | rfl | (omega)
 · refine ⟨?_, ?_, ?_⟩ <;> (omega)
 refine WL.clearF (lo := i) hs10 ho9 Tryz.underlying31 Tryz.zeroValue101 rfl rfl rfl rfl rfl ?_ (fun L22 whs23 hs23 ho24 _ => ?_)
 · omega
 refine WL.nil ?_
 refine WC.sr ?_
 refine WL.r 2 hs23 [] rfl ?_
 have ho25 := OwnF.take (k := i) ho24 (by omega)
 have hcho25 := OwnF.cap ho25
 refine WL.val rfl rfl rfl (Run.sliceH0 (i) Tryz.runUnderlying31 Tryz.sizeOf101 rfl rfl rfl ?_ ?_) ?_
 · first | rfl | (omega)
 · first | (exact Nat.zero_le _) | (omega)
 refine WL.r 1 hs23 [] rfl ?_
 refine WL.nil ?_
 refine WC.ret ?_
 refine retV1 rfl (resV.tmp rfl) ?_
 have hx_ := OwnF.eqOf (xs := s.filter (fun x => !isN p x)) ho25 (by first | (rw [List.take_left' (by rw [List.length_take]; omega), p3, List.take_of_length_le (by omega)]) | (rw [List.take_append_of_le_length (by rw [List.length_take]; omega), List.take_take, Nat.min_self, p3, List.take_of_length_le (by omega)]))
 rw [← hx_]
 first | exact ⟨_, _, _, rfl, (St.keep1 hs23), ho25⟩ | exact ⟨A_s, c_s, _, by rw [OwnF.len_ ho25], (St.keep1 hs23), by rw [OwnF.len_ ho25]; exact ho25⟩
theorem k45_ (A_dir : Option Addr) (n_dir c_dir : Nat) (dir : List LinkD) (name : ByteArray) (w : World) (f_dir : SlF encLink w A_dir n_dir dir) (hn : n_dir ≤ 1048576) :
    Calls Tryz.prog 174 #[.slice A_dir n_dir c_dir, .string name] w fun e w' => ∃ A c L1, e = .returned (.slice A (lessL dir name).length c) ∧ St w [] L1 w' ∧ OwnF encLink 101 (.slice A (lessL dir name).length c) (lessL dir name) L1 := by
 have hl := f_dir.len
 refine enter 9 Tryz.func174 rfl Tryz.ntmps174 rfl rfl ?_
 have hs1 := St.init w
 refine WC.sr (WL.bx hs1 rfl (fun b2 _ hs3 => WL.r 1 hs3 [] rfl (WL.nil (WC.sr (WL.r 1 hs3 [] rfl ?_)))))
 refine WL.cl Tryz.call128 rfl (k41_ _ _ _ _ _ (SlF.st0 f_dir hs3) ?_) ?_
 · first | assumption | rfl | omega
 rintro _ whs4 ⟨A5, c6, L1_7, rfl, hs4, ho8⟩
 replace hs4 := hs3.callF hs4
 refine ⟨_, rfl, ?_⟩
 replace hs4 := St.back [_] hs4
 refine WL.val rfl rfl rfl (Run.makeFunc rfl rfl) (WL.cl Tryz.call190 rfl (k44_ _ _ _ _ _ _ ho8 (hs4.ow L1_7) (SlF.own1 (hs4.own _ (nthL_mem (i := 0) rfl)).1) (St.sepOwn (hs4.fr L1_7) (nthL_mem (i := 0) rfl)) ?_) ?_)
 · first | assumption | rfl | omega
 rintro _ whs9 ⟨A10, c11, L1_12, rfl, hs9, ho13⟩
 replace hs9 := St.lend (hs4.fr L1_7) hs9
 refine ⟨_, rfl, ?_⟩
 replace hs9 := St.back [_] hs9
 refine WL.r 1 hs9 [] rfl (WL.nil (WC.ret (retV1 rfl (resV.tmp rfl) ?_)))
 have hx_ := OwnF.eqOf (xs := lessL dir name) ho13 (by rfl)
 rw [← hx_]
 first | exact ⟨_, _, _, rfl, (St.keep1 (hs9.fr L1_12)), ho13⟩ | exact ⟨A10, c11, _, by rw [OwnF.len_ ho13], (St.keep1 (hs9.fr L1_12)), by rw [OwnF.len_ ho13]; exact ho13⟩
theorem k46_ (a_Name : ByteArray) (a_Id : Int) (b_Name : ByteArray) (b_Id : Int) (w : World) :
    Calls Tryz.prog 187 #[.agg #[.string a_Name, i64 a_Id], .agg #[.string b_Name, i64 b_Id]] w fun e w' => e = .returned (.int .i64 (cmpS a_Name b_Name)) ∧ St w [] [] w' := by
 refine enter 10 Tryz.func187 rfl Tryz.ntmps187 rfl rfl ?_
 have hs1 := St.init w
 refine WC.sr (WL.bx hs1 rfl (fun b2 _ hs3 => WL.bx hs3 rfl (fun b4 _ hs5 => WL.r 1 hs5 [] rfl (WL.nil (WC.sr (WL.r 4 hs5 [1, 0] rfl (WL.cl Tryz.call188 rfl (k1_ _ _ _) ?_)))))))
 rintro _ whs6 ⟨rfl, hs6⟩
 replace hs6 := hs5.call0 hs6
 refine ⟨_, rfl, WL.r 1 hs6 [] rfl (WL.nil (WC.ret (rtv rfl rfl hs6 ?_)))⟩
 rfl
theorem k47_ (A_s : Option Addr) (n_s c_s : Nat) (s : List LinkD) (x_Name : ByteArray) (x_Id : Int) (w : World) (f_s : SlF encLink w A_s n_s s) (hp : sortedL s) (hn : n_s ≤ 1048576) :
    Calls Tryz.prog 186 #[.slice A_s n_s c_s, .agg #[.string x_Name, i64 x_Id], .func (.func 187) #[] #[]] w fun e w' => e = .returned (.tuple #[.int .i64 (lowN s x_Name : Nat), .bool (decide (lowN s x_Name < n_s) && decide (cmpS (gat encLink s (lowN s x_Name)).Name x_Name = 0))]) ∧ St w [] [] w' := by
 have hl := f_s.len
 refine enter 49 Tryz.func186 rfl Tryz.ntmps186 rfl rfl ?_
 have hs1 := St.init w
 refine WC.sr (WL.bx hs1 rfl (fun b2 _ hs3 => WL.r 2 hs3 [] rfl (WL.nil (WC.r1 hs3 [] rfl (WC.r1 hs3 [] rfl (WC.seq (fun K4 hK4 => WC.block ?_)))))))
 refine WC.lS [0, 2, 4, 6, 7, 8] rfl hs3 (fun k_ f w' => ∃ (i j : Nat), k_ = j - i ∧ (i ≤ j) ∧ (j ≤ n_s) ∧ (∀ k, k < i → cmpS (gat encLink s k).Name x_Name < 0) ∧ (∀ k, j ≤ k → k < n_s → 0 ≤ cmpS (gat encLink s k).Name x_Name) ∧ Sub [(9, .int .i64 i), (10, .int .i64 j)] f) ((fun (i j : Nat) => j - i) (0) (n_s)) ?_ ?_
 ·refine ⟨0, n_s, rfl, ?_, ?_, ?_, ?_, ⟨rfl, rfl, trivial⟩⟩
  · exact Nat.zero_le _
  · exact Nat.le_refl _
  · exact fun k hk => absurd hk (by omega)
  · exact fun k h1 h2 => absurd h1 (by omega)
 clear hs3
 rintro _ f w ⟨i, j, rfl, p0, p1, p2, p3, hG⟩ hF hs5
 refine WC.sub _ (hG.app hF) ?_
 clear hG hF
 refine WC.seq (fun K6 hK6 => WC.r1 hs5 [] rfl ?_)
 refine WC.cq rfl (fun h7 qh7 => ?_) (fun h7 qh7 => ?_)
 ·have hij : i < j := by have h9 := h7; simpa using h9
  refine WC.skip (hK6 _ _ (WC.block (WC.sr (WL.r 3 hs5 [] rfl ?_))))
  refine WL.val rfl rfl rfl (Run.asN ((i + j)) (Run.conv Tryz.runUnderlying3 Tryz.runUnderlying176 rfl rfl) ?_) ?_
  · exact wrapU _ (by omega) (by omega)
  refine WL.val rfl rfl rfl (Run.shrU ((i + j)) ((i + j) / 2) rfl rfl rfl ?_ ?_ ?_) ?_
  · omega
  · omega
  · (show (i + j) / 2 ^ (1 : Int).toNat = (i + j) / 2; rfl)
  refine WL.val rfl rfl rfl (Run.asN (((i + j) / 2)) (Run.conv Tryz.runUnderlying176 Tryz.runUnderlying3 rfl rfl) ?_) ?_
  · exact wrap_in (by constructor <;> omega)
  refine WL.r 1 hs5 [] rfl (WL.nil (WC.seq (fun K8 hK8 => WC.rH hs5 hs5 (fun _ hs9 => ?_))))
  refine WH.rn [0, 1, 2] hs9 [] rfl rfl ?_
  refine WH.take 3 rfl (by kernel_rfl) rfl rfl rfl hs9 (fun w_ hs_ => (Run.idxK (((i + j) / 2)) Tryz.runUnderlying31 Tryz.sizeOf101 rfl rfl rfl ?_ ?_ ?_)) ?_
  · exact SlF.some_ (SlF.st0 f_s (hs_ : St _ _ _ _))
  · first | omega | (simp only [decide_eq_true_eq] at *; omega)
  · first | omega | (simp only [decide_eq_true_eq] at *; omega)
  refine WH.take 4 rfl (by kernel_rfl) rfl rfl rfl hs9 (fun w_ hs_ => (Run.loadA Tryz.isAgg101 Tryz.sizeOf101 rfl rfl (SlF.whole (SlF.st0 f_s (hs_ : St _ _ _ _)) ?_))) ?_
  · first | omega | (simp only [decide_eq_true_eq] at *; omega)
  refine WH.rn [5] hs9 [0] rfl rfl (WH.o1 6 rfl (WL.cl Tryz.call187 rfl (k46_ _ _ _ _ _) ?_))
  rintro _ whs10 ⟨rfl, hs10⟩
  replace hs10 := hs9.call0 hs10
  refine ⟨_, rfl, WL.nil ⟨hs10, WH.rn [7] hs10 [] rfl rfl (WH.dn (hK8 _ _ ?_))⟩⟩
  refine WC.cq rfl (fun h11 qh11 => ?_) (fun h11 qh11 => ?_)
  ·have hcl : cmpS (gat encLink s ((i + j) / 2)).Name x_Name < 0 := by have h9 := h11; simpa using h9
   refine WC.region (WL.r 3 hs10 [] rfl (WL.nil (ibN (tkN (⟨sbF rfl, hs10, _, ?_, ((i + j) / 2) + 1, j, rfl, ?_, ?_, ?_, ?_, ⟨rfl, rfl, trivial⟩⟩)))))
   · omega
   · omega
   · omega
   · first | exact p2 | (intro k hk; exact bs_low hp (by omega) hcl (by omega))
   · first | exact p3 | (intro k h1 h2; exact bs_high hp h2 hch h1 (hl := hl.symm))
  have hch : 0 ≤ cmpS (gat encLink s ((i + j) / 2)).Name x_Name := by have h9 := h11; simpa using h9
  refine WC.region (WL.r 2 hs10 [] rfl (WL.nil (ibN (tkN (⟨sbF rfl, hs10, _, ?_, i, ((i + j) / 2), rfl, ?_, ?_, ?_, ?_, ⟨rfl, rfl, trivial⟩⟩)))))
  · omega
  · omega
  · omega
  · first | exact p2 | (intro k hk; exact bs_low hp (by omega) hcl (by omega))
  · first | exact p3 | (intro k h1 h2; exact bs_high hp h2 hch h1 (hl := hl.symm))
 have hij : i = j := by have h9 := h7; simp at h9; omega
 subst hij
 have hlow : lowN s x_Name = i := low_at (by omega) p2 (fun h => p3 i (Nat.le_refl _) (by omega))
 refine WC.exit (hK4 _ _ (WC.seq (fun K12 hK12 => WC.rH hs5 hs5 (fun _ hs13 => ?_))))
 refine WH.rn [0, 1, 2, 3, 4] hs13 [] rfl rfl (WH.split 39 rfl (fun g14 => ?_) (fun g14 => ?_))
 ·refine WH.rnA (Acts.nil.cons (j := 4) rfl g14) [5, 6, 7] hs13 [] rfl rfl ?_
  refine WH.take 8 rfl (by kernel_rfl) (wantT rfl g14) rfl rfl hs13 (fun w_ hs_ => (Run.idxK (i) Tryz.runUnderlying31 Tryz.sizeOf101 rfl rfl rfl ?_ ?_ ?_)) ?_
  · exact SlF.some_ (SlF.st0 f_s (hs_ : St _ _ _ _))
  · first | omega | (simp only [decide_eq_true_eq] at *; omega)
  · first | omega | (simp only [decide_eq_true_eq] at *; omega)
  refine WH.take 9 rfl (by kernel_rfl) (wantT rfl g14) rfl rfl hs13 (fun w_ hs_ => (Run.loadA Tryz.isAgg101 Tryz.sizeOf101 rfl rfl (SlF.whole (SlF.st0 f_s (hs_ : St _ _ _ _)) ?_))) ?_
  · first | omega | (simp only [decide_eq_true_eq] at *; omega)
  refine WH.rnA (Acts.nil.cons (j := 4) rfl g14) [10] hs13 [0] rfl rfl (WH.o1 11 rfl (WL.call (wantT rfl g14) rfl rfl (Run.call Tryz.call187 rfl rfl rfl) (k46_ _ _ _ _ _) ?_))
  rintro _ whs15 ⟨rfl, hs15⟩
  replace hs15 := hs13.call0 hs15
  refine ⟨_, rfl, WL.nil ⟨hs15, WH.rnA (Acts.nil.cons (j := 4) rfl g14) [12] hs15 [] rfl rfl ?_⟩⟩
  refine WH.take 13 rfl (by kernel_rfl) rfl rfl rfl hs15 (fun w_ hs_ => (Run.pick rfl rfl rfl rfl)) ?_
  refine WH.rn [14, 15] hs15 [] rfl rfl (WH.dn (hK12 _ _ (WC.ret (retV2 rfl (resV.tmp rfl) (resV.tmp rfl) (⟨congrArg Ending.returned ?_, hs15.nil⟩)))))
  rw [hlow]; first | (simp; done) | (by_cases hh : i < n_s <;> simp [hh] <;> simp_all)
 refine WH.takeSkip 5 rfl (by kernel_rfl) (wantNT rfl g14) rfl rfl hs13 (WH.takeSkip 6 rfl (by kernel_rfl) (wantNT rfl g14) rfl rfl hs13 (WH.takeSkip 7 rfl (by kernel_rfl) (wantNT rfl g14) rfl rfl hs13 (WH.takeSkip 8 rfl (by kernel_rfl) (wantNT rfl g14) rfl rfl hs13 (WH.takeSkip 9 rfl (by kernel_rfl) (wantNT rfl g14) rfl rfl hs13 (WH.takeSkip 10 rfl (by kernel_rfl) (wantNT rfl g14) rfl rfl hs13 (WH.o1 11 rfl (WL.skip (wantNT rfl g14) rfl rfl ?_)))))))
 refine WL.nil ⟨hs13, WH.takeSkip 12 rfl (by kernel_rfl) (wantNT rfl g14) rfl rfl hs13 ?_⟩
 refine WH.take 13 rfl (by kernel_rfl) rfl rfl rfl hs13 (fun w_ hs_ => (Run.pickF rfl rfl g14 rfl)) ?_
 refine WH.rn [14, 15] hs13 [] rfl rfl (WH.dn (hK12 _ _ (WC.ret (retV2 rfl (resV.tmp rfl) (resV.tmp rfl) (⟨congrArg Ending.returned ?_, hs13.nil⟩)))))
 rw [hlow]; first | (simp; done) | (by_cases hh : i < n_s <;> simp [hh] <;> simp_all)
open Go Go.RowKit Go.Shelf
theorem frozen_of_heap {w : World} {b k : Nat} {cl : List Value} {e : TypeId} {lo hi : Nat} (h : w.heap[b]? = some (.cells cl.toArray e (lo, hi))) (hf : hi ≤ lo ∨ hi ≤ k ∨ k < lo) : w.frozen? ⟨b, k, none⟩ = false := by
 simp only [World.frozen?, h, Bool.and_eq_false_iff, decide_eq_false_iff_not]
 omega
section
variable {α : Type} {F : Enc α} {e : TypeId} {A : Option Addr} {m c k : Nat} {xs : List α} {L : Hp}
theorem OwnF.short (h : OwnF F e (.slice A c c) xs L) (hk : k ≤ c) : OwnF F e (.slice A k c) (xs.take k) L := OwnF.take h hk
theorem zeroCells_rows {z : Value} (h : F.enc F.dflt = cellsOf z) (k : Nat) : (Builtin.zeroCells z.cells k).toList = rows F (List.replicate k F.dflt) := by rw [zeros_rows h.symm]
end
section
variable {P : Program} {n : Nat} {ol rest : List Oper} {o : Oper} {K : Fr → World → Prop} {f : Fr} {w0 w : World} {T : List Nat} {L R L1 : Hp} {d : Nat} {α : Type} {F : Enc α} {xs ys : List α} {A : Option Addr} {m c : Nat}
theorem WL.growZ (i0 k : Nat) (hst : St w0 T (L1 ++ R) w) {t tx e : TypeId} {i : TypeInfo} {z : Value} {x y : Operand} {q : Int} (hown : OwnF F e (.slice A m c) xs L1) (ht : P.underlying t = some (.slice e)) (htx : P.underlying tx = some (.int .i64)) (hi : P.info? e = some i) (hz : i.zero = some z) (hs1 : Nat.beq i.size F.sz = true) (hs2 : Nat.ble i.bytes 512 = true) (hdz : F.enc F.dflt = cellsOf z)
  (ho : o.op = .call { callee := .builtin .append, args := #[x, y], argTypes := #[t, tx] }) (hw : want ol o f = some true) (hd : o.dst = some d) (hn : Nat.blt d n = true) (hx : ev f x = some (.slice A i0 c)) (hy : ev f y = some (.int .i64 q)) (hq : q = (k : Int)) (h0 : 0 < k) (hi0 : i0 ≤ m) (hg : c < i0 + k) (hb : i0 + k ≤ 274877906944)
  (kk : ∀ A2 c2 L2 w', St w0 T (L2 ++ (L1 ++ R)) w' → OwnF F e (.slice A2 (i0 + k) c2) (xs.take i0 ++ List.replicate k F.dflt) L2 → WL P n ol rest K ((d, .slice A2 (i0 + k) c2) :: f) w') : WL P n ol (o :: rest) K f w := by
 subst hq
 have hs1' := Nat.eq_of_beq_eq_true hs1
 have hs2' := Nat.le_of_ble_eq_true hs2
 have hl := hown.len_
 have hti : (xs.take i0).length = i0 := by rw [List.length_take]; omega
 have hge := grownCap_ge w (i0 + k) c e
 have hcm : grownCap w (i0 + k) c e ≤ maxLen := grownCap_le_maxLen w (i0 + k) c e (by simp only [maxLen]; omega)
 have hbb : (i0 + k) * i.bytes ≤ 274877906944 * 512 := Nat.mul_le_mul hb hs2'
 have hkb : k * i.bytes ≤ (i0 + k) * i.bytes := Nat.mul_le_mul_right _ (by omega)
 have hfit : Builtin.nextslicecap (i0 + k) c * i.bytes ≤ 281474976710656 := growslice_fits hg (by omega)
 have hold : (Builtin.firstCells i.size i0 (.slice A i0 c)).run P w.drew = .ok (rows F (xs.take i0)).toArray w.drew := by
  rcases Nat.eq_zero_or_pos i0 with rfl | hp
  ·rw [List.take_zero]
   cases A <;> simp [Builtin.firstCells, loadCells, loadCellsFrom, rows]
  ·have hf : SlF F w.drew A m xs := SlF.ofOwn hown (fun p hp => (hst.drew.own p (List.mem_append_left _ hp)).1)
   obtain ⟨⟨g, off, sp⟩, rfl⟩ := Option.isSome_iff_exists.1 (hf.rd.some_ (by omega))
   have h1 := hf.rd.lds (P := P) (j := 0) (m := i0 * F.sz) (us := rows F (xs.take i0)) (by rw [List.drop_zero, rows_take]) (by rw [rows_len, hti])
   rw [← hs1'] at h1
   have h2 : ((adr (some (⟨g, off, sp⟩ : Addr))).add 0) = ⟨g, off, sp⟩ := by cases sp <;> rfl
   rw [h2] at h1
   simpa [Builtin.firstCells] using h1
 have hr := Go.Lib.run_append_grow_zeros (P := P) w t tx o.type e i z .i64 .i64 ht htx hi hz A i0 c _ hold k h0 (by rw [hs1']; exact F.pos) hg (by omega) (by omega) hfit
 generalize hC : grownCap w (i0 + k) c e = C at hr hge hcm
 have hz1 := zeroCells_rows hdz k
 have hz2 := zeroCells_rows hdz (C - (i0 + k))
 have ec : ((rows F (xs.take i0)).toArray ++ Builtin.zeroCells z.cells k ++ Builtin.zeroCells z.cells (C - (i0 + k))) = (rows F (xs.take i0 ++ List.replicate k F.dflt) ++ rows F (List.replicate (C - (i0 + k)) F.dflt)).toArray := by
  apply Array.toList_inj.1
  rw [Array.toList_append, Array.toList_append, hz1, hz2, rows_append]
 rw [ec] at hr
 refine WL.val (w' := _) hw hd hn (fun ρ hρ => ?_) (kk (some ⟨w.heap.size, 0, none⟩) C [(w.heap.size, .cells (rows F (xs.take i0 ++ List.replicate k F.dflt) ++ rows F (List.replicate (C - (i0 + k)) F.dflt)).toArray e (0, 0))] _ (hst.drew.alloc _) ?_)
 ·simp [execOp, ho, hρ _ _ hx, hρ _ _ hy, resolve, invoke, builtin, hr]
 ·have hll : (xs.take i0 ++ List.replicate k F.dflt).length = i0 + k := by rw [List.length_append, hti, List.length_replicate]
  refine ⟨rows_len _, .inr ⟨w.heap.size, C, 0, [], _, (0, 0), by rw [hll], rfl, by rw [hll]; exact hge, hcm, ?_, ?_, .inl (Nat.le_refl _), rfl⟩⟩
  ·show (rows F (xs.take i0 ++ List.replicate k F.dflt) ++ rows F (List.replicate (C - (i0 + k)) F.dflt)).length = C * F.sz
   rw [List.length_append, rows_len, rows_len, hll, List.length_replicate, ← Nat.add_mul]
   congr 1; omega
  ·exact List.take_left' (rows_len _)
theorem WL.appendFull (hst : St w0 T L w) {t tx e : TypeId} {i : TypeInfo} {z x : Value} {s y : Operand} (hs : Src P F.sz tx x ys.length (rows F ys) w) (ht : P.underlying t = some (.slice e)) (hi : P.info? e = some i) (hz : i.zero = some z) (hs1 : Nat.beq i.size F.sz = true) (hs2 : Nat.ble i.bytes 512 = true) (hdz : F.enc F.dflt = cellsOf z)
  (ho : o.op = .call { callee := .builtin .append, args := #[s, y], argTypes := #[t, tx] }) (hw : want ol o f = some true) (hd : o.dst = some d) (hn : Nat.blt d n = true) (hx : ev f s = some (.slice A 0 0)) (hy : ev f y = some x) (hb : ys.length ≤ 274877906944)
  (kk : ∀ A2 c2 L2 w', St w0 T (L2 ++ L) w' → ys.length ≤ c2 → OwnF F e (.slice A2 c2 c2) (ys ++ List.replicate (c2 - ys.length) F.dflt) L2 → WL P n ol rest K ((d, .slice A2 ys.length c2) :: f) w') : WL P n ol (o :: rest) K f w := by
 have hs1' := Nat.eq_of_beq_eq_true hs1
 have hs2' := Nat.le_of_ble_eq_true hs2
 rw [← hs1'] at hs
 rcases Nat.eq_zero_or_pos ys.length with h0 | h0
 ·obtain rfl : ys = [] := List.eq_nil_of_length_eq_zero h0
  have hst0 : ∀ a, (storeCells a []).run P w = .ok () w := fun a => by simp [storeCells]
  have hr : (Builtin.append_ #[t, tx] o.type #[.slice A 0 0, x]).run P w = .ok (.slice A 0 0) w := by
   have hs0 : Src P i.size tx x 0 [] w := hs
   have hl := hs0.len
   have hc := hs0.cells
   cases A <;> rcases hs0.kind with ⟨e', hk⟩ | hk <;> simp [Builtin.append_, run_underlying ht, run_underlying hk, sizeOf, typeInfo, hi, hl, hc, hst0]
  refine WL.val (w' := w) hw hd hn (fun ρ hρ => ?_) (kk A 0 [] w hst (Nat.le_refl _) (OwnF.nilA F e A))
  simp [execOp, ho, hρ _ _ hx, hρ _ _ hy, resolve, invoke, builtin, hr]
 have hge := grownCap_ge w (0 + ys.length) 0 e
 have hcm : grownCap w (0 + ys.length) 0 e ≤ maxLen := grownCap_le_maxLen w (0 + ys.length) 0 e (by simp only [maxLen]; omega)
 have hbb : ys.length * i.bytes ≤ 274877906944 * 512 := Nat.mul_le_mul hb hs2'
 have hfit : Builtin.nextslicecap (0 + ys.length) 0 * i.bytes ≤ 281474976710656 := growslice_fits (by omega) (by rw [Nat.zero_add]; omega)
 have hold : (Builtin.firstCells i.size 0 (.slice A 0 0)).run P w.drew = .ok ([] : List Value).toArray w.drew := by cases A <;> simp [Builtin.firstCells, loadCells, loadCellsFrom]
 have hr := run_append_grow_src (P := P) w t tx o.type e i z ht hi hz A 0 0 [] hold x ys.length _ hs (by omega) (by omega) hfit
 rw [Nat.zero_add] at hr hge hcm
 generalize hC : grownCap w ys.length 0 e = C at hr hge hcm
 have hz2 := zeroCells_rows hdz (C - ys.length)
 have ec : (([] ++ rows F ys).toArray ++ Builtin.zeroCells z.cells (C - ys.length)) = (rows F (ys ++ List.replicate (C - ys.length) F.dflt)).toArray := by
  apply Array.toList_inj.1
  rw [Array.toList_append, hz2, rows_append]; rfl
 rw [ec] at hr
 refine WL.val (w' := _) hw hd hn (fun ρ hρ => ?_) (kk (some ⟨w.heap.size, 0, none⟩) C [(w.heap.size, .cells (rows F (ys ++ List.replicate (C - ys.length) F.dflt)).toArray e (0, 0))] _ (hst.drew.alloc _) hge ?_)
 ·simp [execOp, ho, hρ _ _ hx, hρ _ _ hy, resolve, invoke, builtin, hr]
 ·exact OwnF.row (by rw [List.length_append, List.length_replicate]; omega) hcm
end
theorem overlaps_own {P : Program} {w : World} {tS tR e : TypeId} {sz b m c lb cb lo : Nat} {α : Type} {F : Enc α} {xs : List α} {A : Option Addr} {L : Hp} {vs : List Value} (ht : P.underlying tS = some (.slice e)) (hz : ∀ w, (Go.sizeOf e).run P w = .ok sz w) (hv : w.heap[b]? = some (.cells vs.toArray e (0, 0))) (hown : OwnF F e (.slice A m c) xs L) (hh : ∀ p, p ∈ L → w.heap[p.1]? = some p.2) (hb : b ∉ L.map (·.1)) (h0 : 0 < m) :
  (Extern.SlicesOverlaps.overlaps #[tS, tS] #[tR] #[.slice (some ⟨b, 0, none⟩) 1 1, .slice (cutA A lo F.sz c) lb cb]).run P w = .ok (.bool false) w := by
 have hl := hown.len_
 rcases hown.2 with ⟨_, h1, _⟩ | ⟨g, cap, o, pre, cl, fz, hvv, rfl, hn, hc, hcl, htk, hfz, rfl⟩
 ·omega
 ·cases hvv
  have hg := hh _ List.mem_cons_self
  have hne : b ≠ g := fun e => hb (by simp [e])
  obtain ⟨off, hoff⟩ : ∃ off, cutA (some (⟨g, pre.length, none⟩ : Addr)) lo F.sz c = some ⟨g, off, none⟩ := by
   unfold cutA
   split
   ·exact ⟨_, rfl⟩
   ·exact ⟨pre.length + lo * F.sz, by simp [addr_at]⟩
  rw [hoff]
  have hp := F.pos
  have hcp : 0 < cl.length := by rw [hcl]; exact Nat.mul_pos (by omega) hp
  exact Go.Lib.run_overlaps_apart w tS tR e ht sz hz ⟨b, 0, none⟩ ⟨g, off, none⟩ 1 1 lb cb hne e e vs.length (pre ++ cl).length (by simp [World.shape?, hv]) (by simp [World.shape?, hg]) (by rw [List.length_append]; omega) (frozen_of_heap hv (by omega)) (frozen_of_heap hv (by omega))
theorem Run.ext1 {P : Program} {f : Fr} {w : World} {o : Oper} {v : Value} {fo : Operand} {args : Array Operand} {ts : Array TypeId} {g : FuncId} {vl : List Value} (hc : (callFunc g vl.toArray).run P w = .ok (.value v) w) (ho : o.op = .call { callee := .value fo, args := args, argTypes := ts })
  (hfo : ev f fo = some (.func (.func g) #[] #[])) (hv : evs f args.toList = some vl) : Run P o f w (.value v) w := fun ρ hρ => by
 have e : args.map ρ = vl.toArray := by apply Array.toList_inj.1; rw [Array.toList_map, evs_map hρ hv]
 simp [execOp, ho, resolve, hρ _ _ hfo, Deferred.ofValue, invoke, hc, e]
theorem OwnF.relen {α : Type} {F : Enc α} {e : TypeId} {A : Option Addr} {n n' c : Nat} {xs : List α} {L : Hp} (h : OwnF F e (.slice A n c) xs L) (hn : n = n') : OwnF F e (.slice A n' c) xs L := hn ▸ h
theorem ext_ov {b m c lb cb lo : Nat} {xs : List LinkD} {A : Option Addr} {L : Hp} {vs : List Value} {w : World} (hv : w.heap[b]? = some (.cells vs.toArray 101 (0, 0))) (hown : OwnF encLink 101 (.slice A m c) xs L) (hh : ∀ p, p ∈ L → w.heap[p.1]? = some p.2) (hb : b ∉ L.map (·.1)) (h0 : 0 < m) : (callFunc 209 #[.slice (some ⟨b, 0, none⟩) 1 1, .slice (cutA A lo 2 c) lb cb]).run Tryz.prog w = .ok (.value (.bool false)) w := by
  have h := overlaps_own (P := Tryz.prog) (F := encLink) (tS := 31) (tR := 4) (sz := 2) (lo := lo) (lb := lb) (cb := cb) Tryz.underlying31 Tryz.sizeOf101 hv hown hh hb h0
  rw [run_callFunc_extern Tryz.func209 (by kernel_rfl) (by kernel_rfl) (by kernel_rfl) (e := Extern.SlicesOverlaps.overlaps #[31, 31] #[4]) (by kernel_rfl)]
  exact congrArg (fun r => Result.andThen r fun v w' => Result.ok (Next.value v) w') h
set_option maxHeartbeats 2000000 in
theorem k48_ (A_s : Option Addr) (n_s c_s : Nat) (u : List LinkD) (L_s : Hp) (i : Nat) (b_v : Nat) (xn : ByteArray) (xi : Int) (w : World) (o_s : OwnF encLink 101 (.slice A_s c_s c_s) u L_s) (h_s : Hh w L_s) (hv : w.heap[b_v]? = some (.cells [Value.string xn, i64 xi].toArray 101 (0, 0))) (hvn : b_v ∉ L_s.map (·.1)) (hn : n_s ≤ c_s) (hi : i ≤ n_s) (hm : n_s ≤ 1048576) :
    Calls Tryz.prog 189 #[.slice A_s n_s c_s, .int .i64 i, .slice (some ⟨b_v, 0, none⟩) 1 1] w fun e w' => ∃ A c L1, e = .returned (.slice A (n_s + 1) c) ∧ St w (L_s.map (·.1)) L1 w' ∧ OwnF encLink 101 (.slice A (n_s + 1) c) ((u.take n_s).take i ++ [(⟨xn, xi⟩ : LinkD)] ++ (u.take n_s).drop i) L1 := by
 have f_v : SlF encLink w (some ⟨b_v, 0, none⟩) 1 [(⟨xn, xi⟩ : LinkD)] := SlF.own1 hv
 have hul : u.length = c_s := OwnF.len_ o_s
 have o_2 := OwnF.short o_s hn
 have hsl : (u.take n_s).length = n_s := by rw [List.length_take]; omega
 refine enter 95 Tryz.func189 rfl Tryz.ntmps189 rfl rfl ?_
 have hs1 := St.lent1 w L_s o_s h_s
 refine WC.r1 hs1 [] rfl (WC.sr (WL.r 2 hs1 [] rfl ?_))
 have hc_ := OwnF.cap o_2
 refine WL.val rfl rfl rfl (Run.sliceL (i) Tryz.runUnderlying31 Tryz.sizeOf101 rfl rfl rfl ?_ ?_) ?_
 · first | rfl | (omega)
 · refine ⟨?_, ?_, ?_⟩ <;> (omega)
 refine WL.nil (WC.r1 hs1 [] rfl (WC.seq (fun K2 hK2 => WC.r1 hs1 [] rfl ?_)))
 refine WC.cq rfl (fun h3 qh3 => ?_) (fun h3 qh3 => ?_)
 ·exfalso; have h9 := h3; simp at h9
 refine WC.skip (hK2 _ _ (WC.r1 hs1 [] rfl (WC.seq (fun K4 hK4 => WC.r1 hs1 [] rfl ?_))))
 refine WC.cq rfl (fun h5 qh5 => ?_) (fun h5 qh5 => ?_)
 ·have hin : i = n_s := by have h9 := h5; simp at h9; omega
  refine WC.sr (WL.r 2 hs1 [] rfl (WL.appendG hs1 o_2 (SlF.src (SlF.st f_v hs1 (fun _ => hvn)) Tryz.underlying31) Tryz.underlying31 inf101 rfl rfl rfl rfl rfl rfl rfl rfl rfl rfl ?_ (fun A9 c10 L6 whs7 hs7 ho8 => ?_)))
  · simp; omega
  refine WL.r 1 hs7 [] rfl (WL.nil (WC.ret (tkR ?_)))
  clear hK4
  refine retV1 rfl (resV.tmp rfl) ?_
  have hx_ := OwnF.eqOf (xs := ((u.take n_s).take i ++ [(⟨xn, xi⟩ : LinkD)] ++ (u.take n_s).drop i)) ho8 (by exact ins_end (by omega))
  refine ⟨A9, c10, _, congrArg (fun q => Ending.returned (Value.slice A9 q c10)) ?_, (St.keep1 hs7), ?_⟩
  · first | rfl | omega | (simp; omega)
  · rw [← hx_]; exact OwnF.relen ho8 (by first | rfl | omega | (simp; omega))
 have hin : i < n_s := by have h9 := h5; simp at h9; omega
 refine WC.skip (hK4 _ _ (WC.seq (fun K11 hK11 => WC.r1 hs1 [] rfl ?_)))
 refine WC.cq rfl (fun h12 qh12 => ?_) (fun h12 qh12 => ?_)
 ·have hcc : c_s < n_s + 1 := by have h9 := h12; simp at h9; omega
  refine WC.sr (WL.r 2 hs1 [] rfl (WL.val rfl rfl rfl (Run.sliceH0 (i) Tryz.runUnderlying31 Tryz.sizeOf101 rfl rfl rfl ?_ ?_) ?_))
  · first | rfl | (omega)
  · omega
  refine WL.r 5 hs1 [] rfl (WL.growZ (F := encLink) (i) ((n_s + 1 - i)) hs1 o_2 Tryz.underlying31 Tryz.underlying3 inf101 rfl rfl rfl rfl rfl rfl rfl rfl rfl rfl ?_ ?_ ?_ ?_ ?_ (fun A16 c17 L13 whs14 hs14 ho15 => ?_))
  · first | rfl | (omega)
  · first | rfl | (omega)
  · first | rfl | (omega)
  · first | rfl | (omega)
  · first | rfl | (omega)
  refine WL.r 1 hs14 [] rfl (WL.nil (WC.sr (WL.r 2 hs14 [] rfl ?_)))
  have hc_ := OwnF.cap ho15
  refine WL.val rfl rfl rfl (Run.sliceL (i) Tryz.runUnderlying31 Tryz.sizeOf101 rfl rfl rfl ?_ ?_) ?_
  · first | rfl | (omega)
  · refine ⟨?_, ?_, ?_⟩ <;> (omega)
  refine WL.r 1 hs14 [] rfl (WL.copyF (lo := i) hs14 ho15 (SlF.st f_v hs14 (fun _ => hvn)) Tryz.underlying31 Tryz.underlying31 inf101 rfl rfl rfl rfl rfl rfl rfl (.inl rfl) ?_ ?_ (fun L18 _ hs19 ho20 => ?_))
  · omega
  · omega
  refine WL.nil (WC.seq (fun K21 hK21 => WC.rH (hs19.rm L18) hs19 (fun _ hs22 => ?_)))
  refine WH.rn [0, 1, 2, 3] (hs22.rm L18) [] rfl rfl ?_
  have hc_ := OwnF.cap ho20
  refine WH.take 4 rfl (by kernel_rfl) rfl rfl rfl (hs22.rm L18) (fun w_ hs_ => (Run.sliceL (i + 1) Tryz.runUnderlying31 Tryz.sizeOf101 rfl rfl rfl ?_ ?_)) ?_
  · first | rfl | (omega)
  · refine ⟨?_, ?_, ?_⟩ <;> (omega)
  refine WH.rn [5, 6] (hs22.rm L18) [] rfl rfl ?_
  have hc_ := OwnF.cap o_2
  refine WH.take 7 rfl (by kernel_rfl) rfl rfl rfl (hs22.rm L18) (fun w_ hs_ => (Run.sliceL (i) Tryz.runUnderlying31 Tryz.sizeOf101 rfl rfl rfl ?_ ?_)) ?_
  · first | rfl | (omega)
  · refine ⟨?_, ?_, ?_⟩ <;> (omega)
  refine WH.o1 8 rfl ?_
  refine WL.copyF (lo := i + 1) hs22 ho20 (SlF.cutL (i) (SlF.ofOwn o_2 (hs22.ow L_s)) (by refine ⟨?_, ?_, ?_⟩ <;> (omega))) Tryz.underlying31 Tryz.underlying31 inf101 rfl rfl rfl rfl rfl rfl rfl (.inl rfl) ?_ ?_ (fun L23 _ hs24 ho25 => ?_)
  · omega
  · omega
  refine WL.nil ⟨(hs24.rm L23), WH.dn (hK21 _ _ (WC.r1 hs24 [] rfl (WC.ret (tkR ?_))))⟩
  clear hK11
  refine retV1 rfl (resV.tmp rfl) ?_
  have hx_ := OwnF.eqOf (xs := ((u.take n_s).take i ++ [(⟨xn, xi⟩ : LinkD)] ++ (u.take n_s).drop i)) ho25 (by exact ins_grow (by omega) (by omega) (by omega) (by omega) rfl)
  refine ⟨A16, c17, _, congrArg (fun q => Ending.returned (Value.slice A16 q c17)) ?_, (St.keep1 hs24), ?_⟩
  · first | rfl | omega | (simp; omega)
  · rw [← hx_]; exact OwnF.relen ho25 (by first | rfl | omega | (simp; omega))
 have hcc : n_s + 1 ≤ c_s := by have h9 := h12; simp at h9; omega
 refine WC.skip (hK11 _ _ (WC.sr (WL.r 4 hs1 [] rfl ?_)))
 have ho26 := OwnF.short (k := (n_s + 1)) o_s (by omega)
 have hcho26 := OwnF.cap ho26
 refine WL.val rfl rfl rfl (Run.sliceH0 ((n_s + 1)) Tryz.runUnderlying31 Tryz.sizeOf101 rfl rfl rfl ?_ ?_) ?_
 · first | rfl | (omega)
 · omega
 refine WL.r 1 hs1 [] rfl (WL.nil (WC.seq (fun K27 hK27 => WC.sr (WL.r 5 hs1 [] rfl ?_))))
 have hc_ := OwnF.cap ho26
 refine WL.val rfl rfl rfl (Run.sliceL (i + 1) Tryz.runUnderlying31 Tryz.sizeOf101 rfl rfl rfl ?_ ?_) ?_
 · first | rfl | (omega)
 · refine ⟨?_, ?_, ?_⟩ <;> (omega)
 refine WL.val rfl rfl rfl (Run.ext1 (ext_ov ((hs1.keep b_v (lt_of_heap hv) hvn).trans hv) ho26 (hs1.ow L_s) hvn (by omega)) rfl rfl rfl) (WL.r 1 hs1 [] rfl (WL.nil (WC.cq rfl (fun h28 qh28 => ?_) (fun h28 qh28 => ?_))))
 ·refine WC.seq (fun K29 hK29 => WC.rH (hs1.rm L_s) hs1 (fun _ hs30 => ?_))
  refine WH.rn [0, 1, 2, 3] (hs30.rm L_s) [] rfl rfl ?_
  have hc_ := OwnF.cap ho26
  refine WH.take 4 rfl (by kernel_rfl) rfl rfl rfl (hs30.rm L_s) (fun w_ hs_ => (Run.sliceL (i + 1) Tryz.runUnderlying31 Tryz.sizeOf101 rfl rfl rfl ?_ ?_)) ?_
  · first | rfl | (omega)
  · refine ⟨?_, ?_, ?_⟩ <;> (omega)
  refine WH.rn [5, 6] (hs30.rm L_s) [] rfl rfl ?_
  have hc_ := OwnF.cap ho26
  refine WH.take 7 rfl (by kernel_rfl) rfl rfl rfl (hs30.rm L_s) (fun w_ hs_ => (Run.sliceL (i) Tryz.runUnderlying31 Tryz.sizeOf101 rfl rfl rfl ?_ ?_)) ?_
  · first | rfl | (omega)
  · refine ⟨?_, ?_, ?_⟩ <;> (omega)
  refine WH.o1 8 rfl ?_
  refine WL.copyF (lo := i + 1) hs30 ho26 (SlF.cutL (i) (SlF.ofOwn ho26 (hs30.ow L_s)) (by refine ⟨?_, ?_, ?_⟩ <;> (omega))) Tryz.underlying31 Tryz.underlying31 inf101 rfl rfl rfl rfl rfl rfl rfl (.inl rfl) ?_ ?_ (fun L31 _ hs32 ho33 => ?_)
  · omega
  · omega
  refine WL.nil ⟨(hs32.rm L31), WH.dn (hK29 _ _ (WC.sr (WL.r 2 hs32 [] rfl ?_)))⟩
  have hc_ := OwnF.cap ho33
  refine WL.val rfl rfl rfl (Run.sliceL (i) Tryz.runUnderlying31 Tryz.sizeOf101 rfl rfl rfl ?_ ?_) ?_
  · first | rfl | (omega)
  · refine ⟨?_, ?_, ?_⟩ <;> (omega)
  refine WL.r 1 hs32 [] rfl (WL.copyF (lo := i) hs32 ho33 (SlF.st f_v hs32 (fun _ => hvn)) Tryz.underlying31 Tryz.underlying31 inf101 rfl rfl rfl rfl rfl rfl rfl (.inl rfl) ?_ ?_ (fun L34 _ hs35 ho36 => ?_))
  · omega
  · omega
  refine WL.nil (WC.r1 hs35 [] rfl (WC.ret (tkR ?_)))
  clear hK27
  refine retV1 rfl (resV.tmp rfl) ?_
  have hx_ := OwnF.eqOf (xs := ((u.take n_s).take i ++ [(⟨xn, xi⟩ : LinkD)] ++ (u.take n_s).drop i)) ho36 (by exact ins_room (by omega) (by rw [hsl, List.take_take]; congr 1; omega) (by rw [List.length_take, List.length_take]; omega) (by omega) (by omega) rfl)
  refine ⟨A_s, c_s, _, congrArg (fun q => Ending.returned (Value.slice A_s q c_s)) ?_, (St.keep1 hs35), ?_⟩
  · first | rfl | omega | (simp; omega)
  · rw [← hx_]; exact OwnF.relen ho36 (by first | rfl | omega | (simp; omega))
 exfalso; have h9 := h28; simp at h9
theorem k49_ (A_s : Option Addr) (n_s c_s : Nat) (s : List LinkD) (w : World) (f_s : SlF encLink w A_s n_s s) (hn : n_s ≤ 268435456) :
    Calls Tryz.prog 128 #[.slice A_s n_s c_s] w fun e w' => ∃ A c u L1, e = .returned (.slice A n_s c) ∧ St w [] L1 w' ∧ OwnF encLink 101 (.slice A c c) u L1 ∧ n_s ≤ c ∧ u.take n_s = s := by
 have hl := f_s.len
 refine enter 8 Tryz.func128 rfl Tryz.ntmps128 rfl rfl ?_
 have hs1 := St.init w
 refine WC.r1 hs1 [] rfl (WC.seq (fun K2 hK2 => WC.sr (WL.r 1 hs1 [] rfl (WL.val rfl rfl rfl (Run.eqlNil Tryz.underlying31 rfl rfl rfl) (WL.nil ?_)))))
 refine WC.cq rfl (fun h3 qh3 => ?_) (fun h3 qh3 => ?_)
 ·obtain rfl : A_s = none := by simpa using qh3
  have h0 : n_s = 0 := SlF.none_ f_s
  have hs : s = [] := List.eq_nil_of_length_eq_zero (by omega)
  refine WC.r1 hs1 [] rfl (WC.ret (tkR ?_))
  clear hK2
  refine retV1 rfl (resV.tmp rfl) (⟨none, 0, [], [], by rw [h0], hs1.nil, OwnF.nil _ _, by omega, by rw [hs, List.take_nil]⟩)
 refine WC.skip (hK2 _ _ (WC.sr (WL.buildSlice hs1 Tryz.runUnderlying31 Tryz.sizeOf101 Tryz.zeroValue101 rfl rfl rfl rfl rfl rfl rfl rfl rfl rfl (fun b4 whs5 hs5 => WL.r 1 hs5 [] rfl ?_))))
 refine WL.appendFull hs5 (SlF.src (SlF.st0 f_s hs5) Tryz.underlying31) Tryz.underlying31 inf101 rfl rfl rfl rfl rfl rfl rfl rfl rfl rfl ?_ (fun A9 c10 L6 whs7 hs7 hc11 ho8 => ?_)
 · omega
 replace hs7 := St.back [_] hs7
 refine WL.r 1 hs7 [] rfl (WL.nil (WC.ret (retV1 rfl (resV.tmp rfl) (⟨A9, c10, _, _, by rw [hl], (St.keep1 (hs7.fr L6)), ho8, by omega, by rw [List.take_append_of_le_length (by omega), List.take_of_length_le (by omega)]⟩))))
theorem k50_ (A_dir : Option Addr) (n_dir c_dir : Nat) (dir : List LinkD) (l_Name : ByteArray) (l_Id : Int) (w : World) (f_dir : SlF encLink w A_dir n_dir dir) (hp : sortedL dir) (hno : ∀ x, x ∈ dir → x.Name ≠ l_Name) (hn : n_dir ≤ 1048576) :
    Calls Tryz.prog 173 #[.slice A_dir n_dir c_dir, .agg #[.string l_Name, i64 l_Id]] w fun e w' => ∃ A c L1, e = .returned (.slice A (withL dir l_Name l_Id).length c) ∧ St w [] L1 w' ∧ OwnF encLink 101 (.slice A (withL dir l_Name l_Id).length c) (withL dir l_Name l_Id) L1 := by
 have hl := f_dir.len
 refine enter 19 Tryz.func173 rfl Tryz.ntmps173 rfl rfl ?_
 have hs1 := St.init w
 refine WC.sr (WL.bx hs1 rfl (fun b2 _ hs3 => WL.r 1 hs3 [] rfl (WL.nil (WC.sr (WL.r 2 hs3 [0] rfl ?_)))))
 refine WL.cl Tryz.call186 rfl (k47_ _ _ _ _ _ _ _ (SlF.st0 f_dir hs3) ?_ ?_) ?_
 iterate 2 first | assumption | rfl | omega
 rintro _ whs4 ⟨rfl, hs4⟩
 replace hs4 := hs3.call0 hs4
 refine ⟨_, rfl, WL.r 5 hs4 [] rfl (WL.nil (WC.seq (fun K5 hK5 => WC.rH hs4 hs4 (fun _ hs6 => ?_))))⟩
 refine WH.rn [0, 2, 3] hs6 [0] rfl rfl (WH.all [1, 4] (by kernel_rfl) rfl (WHs.cons (i := 1) rfl ?_ (WHs.cons (i := 4) rfl ?_ WHs.nil)))
 ·refine WL.cl Tryz.call128 rfl (k49_ _ _ _ _ _ (SlF.st0 f_dir hs6) ?_) ?_
  · first | assumption | rfl | omega
  rintro _ whs7 ⟨A8, c9, u10, L1_11, rfl, hs7, ho12, hcap13, hu14⟩
  replace hs7 := hs6.callF hs7
  refine ⟨_, rfl, ?_⟩
  replace hs7 := St.back [_] hs7
  have hcap9 := hcap13
  have hu9 := hu14
  have hle9 := lowN_le dir l_Name
  refine WL.nil ⟨(hs7.rm L1_11), WH.o1 4 rfl (WL.buildSlice hs7 Tryz.runUnderlying31 Tryz.sizeOf101 Tryz.zeroValue101 rfl rfl rfl rfl rfl rfl rfl rfl rfl rfl (fun b15 whs16 hs16 => WL.nil ⟨(hs16.d1.rm L1_11), WH.o1 5 rfl ?_⟩))⟩
  refine WL.cl Tryz.call189 rfl (k48_ _ _ _ _ _ _ _ _ _ _ ho12 (hs16.ow L1_11) (hs16.own _ (nthL_mem (i := 0) rfl)).1 (St.sepOwn (hs16.fr L1_11) (nthL_mem (i := 0) rfl)) ?_ ?_ ?_) ?_
  iterate 3 first | assumption | rfl | omega
  rintro _ whs17 ⟨A18, c19, L1_20, rfl, hs17, ho21⟩
  replace hs17 := St.lend (hs16.fr L1_11) hs17
  refine ⟨_, rfl, ?_⟩
  replace hs17 := St.back [_, _] hs17
  refine WL.nil ⟨(hs17.d1.rm L1_20), WH.rn [6] (hs17.d1.rm L1_20) [] rfl rfl (WH.dn (hK5 _ _ (WC.ret (retV1 rfl (resV.tmp rfl) ?_))))⟩
  have hx_ : _ = withL dir l_Name l_Id := OwnF.eqOf ho21 (by rw [hu9, withL_low hno hp])
  refine ⟨A18, c19, _, congrArg (fun q => Ending.returned (Value.slice A18 q c19)) ?_, (St.keep1 (hs17.fr L1_20)), ?_⟩
  · rw [withL_len]; omega
  · have h9 := OwnF.relen ho21 (show n_dir + 1 = (withL dir l_Name l_Id).length by rw [withL_len]; omega); rw [hx_] at h9; exact h9
 refine WL.buildSlice hs6 Tryz.runUnderlying31 Tryz.sizeOf101 Tryz.zeroValue101 rfl rfl rfl rfl rfl rfl rfl rfl rfl rfl (fun b22 whs23 hs23 => WL.nil ⟨hs23.d1, WH.o1 1 rfl ?_⟩)
 refine WL.cl Tryz.call128 rfl (k49_ _ _ _ _ _ (SlF.st0 f_dir hs23) ?_) ?_
 · first | assumption | rfl | omega
 rintro _ whs24 ⟨A25, c26, u27, L1_28, rfl, hs24, ho29, hcap30, hu31⟩
 replace hs24 := hs23.callF hs24
 refine ⟨_, rfl, ?_⟩
 replace hs24 := St.back [_, _] hs24
 have hcap9 := hcap30
 have hu9 := hu31
 have hle9 := lowN_le dir l_Name
 refine WL.nil ⟨(hs24.d1.rm L1_28), WH.o1 5 rfl (WL.cl Tryz.call189 rfl (k48_ _ _ _ _ _ _ _ _ _ _ ho29 (hs24.ow L1_28) (hs24.own _ (nthL_mem (i := 0) rfl)).1 (St.sepOwn (hs24.fr L1_28) (nthL_mem (i := 0) rfl)) ?_ ?_ ?_) ?_)⟩
 iterate 3 first | assumption | rfl | omega
 rintro _ whs32 ⟨A33, c34, L1_35, rfl, hs32, ho36⟩
 replace hs32 := St.lend (hs24.fr L1_28) hs32
 refine ⟨_, rfl, ?_⟩
 replace hs32 := St.back [_, _] hs32
 refine WL.nil ⟨(hs32.d1.rm L1_35), WH.rn [6] (hs32.d1.rm L1_35) [] rfl rfl (WH.dn (hK5 _ _ (WC.ret (retV1 rfl (resV.tmp rfl) ?_))))⟩
 have hx_ : _ = withL dir l_Name l_Id := OwnF.eqOf ho36 (by rw [hu9, withL_low hno hp])
 refine ⟨A33, c34, _, congrArg (fun q => Ending.returned (Value.slice A33 q c34)) ?_, (St.keep1 (hs32.fr L1_35)), ?_⟩
 · rw [withL_len]; omega
 · have h9 := OwnF.relen ho36 (show n_dir + 1 = (withL dir l_Name l_Id).length by rw [withL_len]; omega); rw [hx_] at h9; exact h9
theorem built_101_0_1 (x0 : ByteArray) (x1 : Int) : Tryz.prog.built 101 [(0, .string x0), (1, .int .i64 x1)] = some (List.toArray [.string x0, .int .i64 x1]) := by kernel_rfl
theorem k51_ (A_dir : Option Addr) (n_dir c_dir : Nat) (dir : List LinkD) (name : ByteArray) (w : World) (f_dir : SlF encLink w A_dir n_dir dir) (hn : n_dir ≤ 268435456) :
    Calls Tryz.prog 108 #[.slice A_dir n_dir c_dir, .string name] w fun e w' => e = .returned (.int .i64 (findL dir name)) ∧ St w [] [] w' := by
 have hl := f_dir.len
 refine enter 20 Tryz.func108 rfl Tryz.ntmps108 rfl rfl ?_
 have hs1 := St.init w
 refine WC.r1 hs1 [] rfl (WC.seq (fun K2 hK2 => WC.r1 hs1 [] rfl (WC.block ?_)))
 refine WC.lS [1, 7, 8] rfl hs1 (fun k_ f w' => ∃ (i : Nat), k_ = n_dir - i ∧ (i ≤ n_dir) ∧ (∀ j, j < i → isN name (gat encLink dir j) = false) ∧ Sub [(9, .int .i64 i)] f) ((fun (i : Nat) => n_dir - i) (0)) ?_ ?_
 ·refine ⟨0, rfl, ?_, ?_, ⟨rfl, trivial⟩⟩
  · exact Nat.zero_le _
  · exact fun j hj => absurd hj (by omega)
 clear hs1
 rintro _ f w ⟨i, rfl, p0, p1, hG⟩ hF hs3
 refine WC.sub _ (hG.app hF) ?_
 clear hG hF
 refine WC.r1 hs3 [] rfl (WC.seq (fun K4 hK4 => ?_))
 refine WC.cq rfl (fun h5 qh5 => ?_) (fun h5 qh5 => ?_)
 ·refine WC.skip (hK4 _ _ (WC.seq (fun K6 hK6 => WC.block (WC.sr ?_))))
  refine WL.val rfl rfl rfl (Run.idxN Tryz.runUnderlying31 Tryz.sizeOf101 rfl rfl rfl ?_ ?_ ?_) ?_
  · exact SlF.some_ (SlF.st0 f_dir hs3)
  · omega
  · omega
  refine WL.val rfl rfl rfl (Run.loadA Tryz.isAgg101 Tryz.sizeOf101 rfl rfl (SlF.whole (SlF.st0 f_dir hs3) ?_)) ?_
  · omega
  refine WL.al hs3 Tryz.zeroValue101 rfl rfl (fun b7 _ hs8 => WL.st tbk hs8 0 rfl rfl (fun _ hs9 => WL.nil (WC.r1 hs9 [0] rfl ?_)))
  refine WC.cq rfl (fun h10 qh10 => ?_) (fun h10 qh10 => ?_)
  ·refine WC.r1 hs9 [0] rfl (WC.ret (ibR (tkR (tkR (ibR (tkR ?_))))))
   clear hK6 hK2
   refine rtv rfl rfl hs9 ?_
   rw [findL_at (i := i) (by omega) p1 h10]
  refine WC.skip (hK6 _ _ (WC.region (WL.r 2 hs9 [] rfl (WL.nil (tkN ?_)))))
  refine ⟨sbF rfl, (hs9.drop (by repeat (first | exact List.Sublist.refl _ | exact List.sublist_append_left _ _ | exact List.Sublist.trans (List.sublist_append_left _ _) (List.sublist_append_left _ _) | apply List.Sublist.cons | refine List.Sublist.trans ?_ (sR _)))), _, ?_, i + 1, rfl, ?_, ?_, ⟨rfl, trivial⟩⟩
  · omega
  · omega
  · intro j hj; rcases Nat.lt_or_ge j i with h_ | h_
    · exact p1 j h_
    · obtain rfl : j = i := by omega
      exact h10
 refine WC.exit (hK2 _ _ (WC.r1 hs3 [] rfl (WC.ret (rtv rfl rfl hs3 ?_))))
 rw [findL_no (fun j hj => p1 j (by omega))]
theorem k52_ (A_dir : Option Addr) (n_dir c_dir : Nat) (dir : List LinkD) (name : ByteArray) (w : World) (f_dir : SlF encLink w A_dir n_dir dir) (hn : n_dir ≤ 268435456) :
    Calls Tryz.prog 160 #[.slice A_dir n_dir c_dir, .string name] w fun e w' => ∃ A c L1, e = .returned (.slice A (lessL dir name).length c) ∧ St w [] L1 w' ∧ OwnF encLink 101 (.slice A (lessL dir name).length c) (lessL dir name) L1 := by
 have hl := f_dir.len
 refine enter 25 Tryz.func160 rfl Tryz.ntmps160 rfl rfl ?_
 have hs1 := St.init w
 refine WC.r1 hs1 [] rfl (WC.sr (WL.buildF (F := encLink) hs1 ([]) Tryz.runUnderlying31 Tryz.sizeOf101 Tryz.zeroValue101 rfl rfl rfl rfl rfl rfl rfl rfl rfl rfl rfl rfl (fun A5 c6 L2 whs3 hs3 ho4 => WL.r 1 hs3 [] rfl (WL.nil (WC.seq (fun K7 hK7 => WC.r1 hs3 [] rfl (WC.block ?_)))))))
 refine WC.lO [1, 4, 9, 10] rfl hs3 (fun k_ f L_ => ∃ (zs : List LinkD) (i : Nat) (A8 : Option Addr) (c9 : Nat), k_ = n_dir - i ∧ (i ≤ n_dir) ∧ (zs = lessL (dir.take i) name) ∧ OwnF encLink 101 (.slice A8 (zs.length) c9) (zs) L_ ∧ Sub [(5, .slice A8 (zs.length) c9), (11, .int .i64 i)] f) (((fun (zs : List LinkD) (i : Nat) => n_dir - i) ([]) (0))) ?_ ?_
 ·refine ⟨[], 0, _, _, rfl, ?_, ?_, ho4, ⟨rfl, rfl, trivial⟩⟩
  · exact Nat.zero_le _
  · rfl
 clear hs3
 rintro _ f w L10 ⟨zs, i, A8, c9, rfl, p0, p1, ho11, hG⟩ hF hs12
 refine WC.sub _ (hG.app hF) ?_
 clear hG hF
 have hzl : zs.length ≤ n_dir := by rw [p1]; have h9 := lessL_len (dir := dir.take i) (n := name); rw [List.length_take] at h9; omega
 refine WC.r1 hs12 [] rfl (WC.seq (fun K13 hK13 => ?_))
 refine WC.cq rfl (fun h14 qh14 => ?_) (fun h14 qh14 => ?_)
 ·refine WC.skip (hK13 _ _ (WC.seq (fun K15 hK15 => WC.block (WC.sr ?_))))
  refine WL.val rfl rfl rfl (Run.idxN Tryz.runUnderlying31 Tryz.sizeOf101 rfl rfl rfl ?_ ?_ ?_) ?_
  · exact SlF.some_ (SlF.st0 f_dir hs12)
  · omega
  · omega
  refine WL.val rfl rfl rfl (Run.loadA Tryz.isAgg101 Tryz.sizeOf101 rfl rfl (SlF.whole (SlF.st0 f_dir hs12) ?_)) ?_
  · omega
  refine WL.al hs12 Tryz.zeroValue101 rfl rfl (fun b16 _ hs17 => WL.st tbk hs17 0 rfl rfl (fun _ hs18 => WL.nil (WC.r1 hs18 [0] rfl ?_)))
  refine WC.cq rfl (fun h19 qh19 => ?_) (fun h19 qh19 => ?_)
  ·refine WC.region (WL.r 2 hs18 [0] rfl (WL.buildSlice hs18 Tryz.runUnderlying31 Tryz.sizeOf101 Tryz.zeroValue101 rfl rfl rfl rfl rfl rfl rfl rfl rfl rfl (fun b20 whs21 hs21 => ?_)))
   refine WL.appendG (hs21.fr L10) ho11 (srcF (F := encLink) (ys := [gat encLink dir i]) Tryz.underlying31 rfl rfl (hs21.own _ (nthL_mem (i := 0) rfl)).1) Tryz.underlying31 inf101 rfl rfl rfl rfl rfl rfl rfl rfl rfl rfl ?_ (fun A25 c26 L22 whs23 hs23 ho24 => ?_)
   · simp; omega
   replace hs23 := St.back [_, _] hs23
   refine WL.r 1 hs23 [] rfl (WL.nil (hK15 _ _ (WC.region (WL.r 2 hs23 [] rfl (WL.nil (tkN ?_))))))
   replace hs23 := hs23.d1.d1
   refine ⟨sbF rfl, _, hs23, _, ?_, _, i + 1, _, _, rfl, ?_, ?_, ho24, ⟨rfl, rfl, trivial⟩⟩
   · omega
   · omega
   · rw [p1, lessL_take (by omega)]; unfold isN; first | rw [if_pos h19] | (rw [if_neg (show ¬ (!decide ((gat encLink dir i).Name = name)) = true by rw [h19]; decide), List.append_nil])
  refine WC.skip (hK15 _ _ (WC.region (WL.r 2 hs18 [] rfl (WL.nil (tkN ?_)))))
  replace hs18 := hs18.d1
  refine ⟨sbF rfl, _, hs18, _, ?_, _, i + 1, _, _, rfl, ?_, ?_, ho11, ⟨rfl, rfl, trivial⟩⟩
  · omega
  · omega
  · rw [p1, lessL_take (by omega)]; unfold isN; first | rw [if_pos h19] | (rw [if_neg (show ¬ (!decide ((gat encLink dir i).Name = name)) = true by rw [h19]; decide), List.append_nil])
 refine WC.exit (hK7 _ _ (WC.r1 hs12 [] rfl (WC.ret (retV1 rfl (resV.tmp rfl) ?_))))
 have hx_ := OwnF.eqOf (xs := lessL dir name) ho11 (by rw [p1, List.take_of_length_le (by omega)])
 rw [← hx_]
 first | exact ⟨_, _, _, rfl, (St.keep1 hs12), ho11⟩ | exact ⟨A8, c9, _, by rw [OwnF.len_ ho11], (St.keep1 hs12), by rw [OwnF.len_ ho11]; exact ho11⟩
theorem k53_ (A_dir : Option Addr) (n_dir c_dir : Nat) (dir : List LinkD) (name : ByteArray) (id : Int) (w : World) (f_dir : SlF encLink w A_dir n_dir dir) (hn : n_dir ≤ 268435456) :
    Calls Tryz.prog 159 #[.slice A_dir n_dir c_dir, .string name, i64 id] w fun e w' => ∃ A c L1, e = .returned (.slice A (withL dir name id).length c) ∧ St w [] L1 w' ∧ OwnF encLink 101 (.slice A (withL dir name id).length c) (withL dir name id) L1 := by
 have hl := f_dir.len
 refine enter 46 Tryz.func159 rfl Tryz.ntmps159 rfl rfl ?_
 have hs1 := St.init w
 refine WC.r1 hs1 [] rfl (WC.sr (WL.buildF (F := encLink) hs1 ([]) Tryz.runUnderlying31 Tryz.sizeOf101 Tryz.zeroValue101 rfl rfl rfl rfl rfl rfl rfl rfl rfl rfl rfl rfl (fun A5 c6 L2 whs3 hs3 ho4 => WL.r 1 hs3 [] rfl (WL.nil (WC.r1 hs3 [] rfl (WC.seq (fun K7 hK7 => WC.r1 hs3 [] rfl ?_)))))))
 refine WC.block (WC.lO [1, 2, 6, 12, 13] rfl hs3 (fun k_ f L_ => ∃ (zs : List LinkD) (i : Nat) (b : Bool) (A8 : Option Addr) (c9 : Nat), k_ = n_dir - i ∧ (i ≤ n_dir) ∧ (zs ++ (if b = true then dir.drop i else withL (dir.drop i) name id) = withL dir name id) ∧ (zs.length ≤ i + 1) ∧ (b = false → zs.length ≤ i) ∧ OwnF encLink 101 (.slice A8 (zs.length) c9) (zs) L_ ∧ Sub [(7, .slice A8 (zs.length) c9), (14, .int .i64 i), (8, .bool b)] f) (((fun (zs : List LinkD) (i : Nat) (b : Bool) => n_dir - i) ([]) (0) (false))) ?_ ?_)
 ·refine ⟨[], 0, false, _, _, rfl, ?_, ?_, ?_, ?_, ho4, ⟨rfl, rfl, rfl, trivial⟩⟩
  · exact Nat.zero_le _
  · rfl
  · exact Nat.zero_le _
  · exact fun _ => Nat.le_refl _
 clear hs3
 rintro _ f w L10 ⟨zs, i, b, A8, c9, rfl, p0, p1, p2, p3, ho11, hG⟩ hF hs12
 refine WC.sub _ (hG.app hF) ?_
 clear hG hF
 refine WC.r1 hs12 [] rfl (WC.seq (fun K13 hK13 => ?_))
 refine WC.cq rfl (fun h14 qh14 => ?_) (fun h14 qh14 => ?_)
 ·refine WC.skip (hK13 _ _ (WC.seq (fun K15 hK15 => WC.block (WC.sr ?_))))
  refine WL.val rfl rfl rfl (Run.idxN Tryz.runUnderlying31 Tryz.sizeOf101 rfl rfl rfl ?_ ?_ ?_) ?_
  · exact SlF.some_ (SlF.st0 f_dir hs12)
  · omega
  · omega
  refine WL.val rfl rfl rfl (Run.loadA Tryz.isAgg101 Tryz.sizeOf101 rfl rfl (SlF.whole (SlF.st0 f_dir hs12) ?_)) ?_
  · omega
  refine WL.al hs12 Tryz.zeroValue101 rfl rfl (fun b16 _ hs17 => WL.st tbk hs17 0 rfl rfl (fun _ hs18 => WL.nil (WC.seq (fun K19 hK19 => WC.sr (WL.r 3 hs18 [] rfl ?_)))))
  apply WL.gA 4 Acts.nil hs18 rfl
  ·intro g20 J21
   have qg20 := g20
   try simp only [bf, within_iff, within_not] at qg20
   refine WL.runA tbk 3 (Acts.nil.cons (j := 2) rfl g20) hs18 [0] rfl ⟨rfl, trivial⟩ (WL.val (wantT rfl g20) rfl rfl (Run.gtrT rfl rfl rfl) (WL.eA 4 Acts.nil J21 hs18 g20 rfl rfl))
  intro _ hs22
  refine WL.nil (WC.cq rfl (fun h23 qh23 => ?_) (fun h23 qh23 => ?_))
  ·refine WC.sr (WL.r 3 hs22 [] rfl ?_)
   refine WL.val rfl rfl rfl (Run.build rfl rfl rfl rfl (built_101_0_1 _ _)) (WL.buildSlice hs22 Tryz.runUnderlying31 Tryz.sizeOf101 Tryz.zeroValue101 rfl rfl rfl rfl rfl rfl rfl rfl rfl rfl (fun b24 whs25 hs25 => ?_))
   refine WL.appendG (hs25.fr L10) ho11 (srcF (F := encLink) (ys := [⟨name, id⟩]) Tryz.underlying31 rfl rfl (hs25.own _ (nthL_mem (i := 0) rfl)).1) Tryz.underlying31 inf101 rfl rfl rfl rfl rfl rfl rfl rfl rfl rfl ?_ (fun A29 c30 L26 whs27 hs27 ho28 => ?_)
   · simp; omega
   replace hs27 := St.back [_, _] hs27
   refine WL.r 1 hs27 [] rfl (WL.nil (WC.region (WL.r 1 hs27 [] rfl (WL.nil (hK19 _ _ (WC.region (WL.r 2 hs27 [1] rfl ?_)))))))
   refine WL.buildSlice hs27 Tryz.runUnderlying31 Tryz.sizeOf101 Tryz.zeroValue101 rfl rfl rfl rfl rfl rfl rfl rfl rfl rfl (fun b31 whs32 hs32 => ?_)
   refine WL.appendG (hs32.fr L26) ho28 (srcF (F := encLink) (ys := [gat encLink dir i]) Tryz.underlying31 rfl rfl (hs32.own _ (nthL_mem (i := 0) rfl)).1) Tryz.underlying31 inf101 rfl rfl rfl rfl rfl rfl rfl rfl rfl rfl ?_ (fun A36 c37 L33 whs34 hs34 ho35 => ?_)
   · simp; omega
   replace hs34 := St.back [_, _, _] hs34
   refine WL.r 1 hs34 [] rfl (WL.nil (hK15 _ _ (WC.region (WL.r 2 hs34 [] rfl (WL.nil (tkN ?_))))))
   replace hs34 := hs34.d1.d1.d1
   refine ⟨sbF rfl, _, hs34, _, ?_, _, i + 1, _, _, _, rfl, ?_, ?_, ?_, ?_, ho35, ⟨rfl, rfl, rfl, trivial⟩⟩
   · omega
   · omega
   · first | exact with_new p1 (by omega) h23 | exact with_next p1 (by omega) h23
   · cases b <;> first | (have h9 := p3 rfl; simp; omega) | (simp at h23; done) | (simp; omega)
   · intro h9; cases b <;> first | (cases h9; done) | (have h9 := p3 rfl; simp; omega)
  refine WC.skip (hK19 _ _ (WC.region (WL.r 2 hs22 [0] rfl (WL.buildSlice hs22 Tryz.runUnderlying31 Tryz.sizeOf101 Tryz.zeroValue101 rfl rfl rfl rfl rfl rfl rfl rfl rfl rfl (fun b38 whs39 hs39 => ?_)))))
  refine WL.appendG (hs39.fr L10) ho11 (srcF (F := encLink) (ys := [gat encLink dir i]) Tryz.underlying31 rfl rfl (hs39.own _ (nthL_mem (i := 0) rfl)).1) Tryz.underlying31 inf101 rfl rfl rfl rfl rfl rfl rfl rfl rfl rfl ?_ (fun A43 c44 L40 whs41 hs41 ho42 => ?_)
  · simp; omega
  replace hs41 := St.back [_, _] hs41
  refine WL.r 1 hs41 [] rfl (WL.nil (hK15 _ _ (WC.region (WL.r 2 hs41 [] rfl (WL.nil (tkN ?_))))))
  replace hs41 := hs41.d1.d1
  refine ⟨sbF rfl, _, hs41, _, ?_, _, i + 1, _, _, _, rfl, ?_, ?_, ?_, ?_, ho42, ⟨rfl, rfl, rfl, trivial⟩⟩
  · omega
  · omega
  · first | exact with_new p1 (by omega) h23 | exact with_next p1 (by omega) h23
  · cases b <;> first | (have h9 := p3 rfl; simp; omega) | (simp at h23; done) | (simp; omega)
  · intro h9; cases b <;> first | (cases h9; done) | (have h9 := p3 rfl; simp; omega)
 refine WC.exit (hK7 _ _ (WC.seq (fun K45 hK45 => WC.r1 hs12 [] rfl ?_)))
 refine WC.cq rfl (fun h46 qh46 => ?_) (fun h46 qh46 => ?_)
 ·refine WC.region (WL.r 3 hs12 [] rfl ?_)
  refine WL.val rfl rfl rfl (Run.build rfl rfl rfl rfl (built_101_0_1 _ _)) (WL.buildSlice hs12 Tryz.runUnderlying31 Tryz.sizeOf101 Tryz.zeroValue101 rfl rfl rfl rfl rfl rfl rfl rfl rfl rfl (fun b47 whs48 hs48 => ?_))
  refine WL.appendG (hs48.fr L10) ho11 (srcF (F := encLink) (ys := [⟨name, id⟩]) Tryz.underlying31 rfl rfl (hs48.own _ (nthL_mem (i := 0) rfl)).1) Tryz.underlying31 inf101 rfl rfl rfl rfl rfl rfl rfl rfl rfl rfl ?_ (fun A52 c53 L49 whs50 hs50 ho51 => ?_)
  · simp; omega
  replace hs50 := St.back [_] hs50
  refine WL.r 1 hs50 [] rfl (WL.nil (hK45 _ _ (WC.r1 hs50 [] rfl (WC.ret (retV1 rfl (resV.tmp rfl) ?_)))))
  have hx_ := OwnF.eqOf (xs := withL dir name id) ho51 (by obtain rfl : i = dir.length := (by omega); have h8 := with_end p1; cases b <;> first | exact h8 | exact absurd qh46 (by decide) | (exfalso; simp_all; done))
  rw [← hx_]
  first | exact ⟨_, _, _, rfl, (St.keep1 (hs50.fr L49)), ho51⟩ | exact ⟨A52, c53, _, by rw [OwnF.len_ ho51], (St.keep1 (hs50.fr L49)), by rw [OwnF.len_ ho51]; exact ho51⟩
 refine WC.skip (hK45 _ _ (WC.r1 hs12 [] rfl (WC.ret (retV1 rfl (resV.tmp rfl) ?_))))
 have hx_ := OwnF.eqOf (xs := withL dir name id) ho11 (by obtain rfl : i = dir.length := (by omega); have h8 := with_end p1; cases b <;> first | exact h8 | exact absurd qh46 (by decide) | (exfalso; simp_all; done))
 rw [← hx_]
 first | exact ⟨_, _, _, rfl, (St.keep1 hs12), ho11⟩ | exact ⟨A8, c9, _, by rw [OwnF.len_ ho11], (St.keep1 hs12), by rw [OwnF.len_ ho11]; exact ho11⟩
set_option maxHeartbeats 2000000 in
theorem k54_ (A_dir : Option Addr) (n_dir c_dir : Nat) (dir : List LinkD) (t_Kind : Int) (t_Name : ByteArray) (t_To : ByteArray) (t_Id : Int) (w : World) (f_dir : SlF encLink w A_dir n_dir dir) (hp : sortedL dir) (hn : n_dir ≤ 1000000) (hz : ∀ x, x ∈ dir → smLink 549755813888 x) (hz1 : t_Name.size ≤ 549755813888) :
    Calls Tryz.prog 140 #[.slice A_dir n_dir c_dir, .agg #[i64 t_Kind, .string t_Name, .string t_To, i64 t_Id]] w fun e w' => ∃ A c xs L1, e = .returned (.tuple #[.slice A (List.length xs) c, .bool (appOk dir (⟨t_Kind, t_Name, t_To, t_Id⟩ : TurnD))]) ∧ St w [] L1 w' ∧ OwnF encLink 101 (.slice A (List.length xs) c) xs L1 ∧ (appOk dir (⟨t_Kind, t_Name, t_To, t_Id⟩ : TurnD) = true → xs = turnL dir (⟨t_Kind, t_Name, t_To, t_Id⟩ : TurnD)) := by
 have hl := f_dir.len
 have hll1 := lessL_len (dir := dir) (n := t_Name)
 have hll2 := lessL_len (dir := lessL dir t_Name) (n := t_To)
 have hps := sorted_less (n := t_To) (sorted_less (n := t_Name) hp)
 have hns : ∀ x, x ∈ lessL (lessL dir t_Name) t_To → x.Name ≠ t_To := fun x hx => (lessL_all hx).2
 refine enter 61 Tryz.func140 rfl Tryz.ntmps140 rfl rfl ?_
 have hs1 := St.init w
 refine WC.sr (WL.bx hs1 rfl (fun b2 _ hs3 => WL.r 2 hs3 [] rfl (WL.nil (WC.sr (WL.r 3 hs3 [0] rfl ?_)))))
 refine WL.cl Tryz.call150 rfl (k40_ _ _ _ _ _ _ (SlF.st0 f_dir hs3) ?_) ?_
 · first | assumption | rfl | omega
 rintro _ whs4 ⟨rfl, hs4⟩
 replace hs4 := hs3.call0 hs4
 refine ⟨_, rfl, WL.r 1 hs4 [] rfl (WL.nil (WC.seq (fun K5 hK5 => WC.r1 hs4 [0] rfl ?_)))⟩
 refine WC.cq rfl (fun h6 qh6 => ?_) (fun h6 qh6 => ?_)
 ·have k1 : t_Kind = 1 := by have h9 := h6; simpa using h9
  refine WC.seq (fun K7 hK7 => WC.r1 hs4 [] rfl ?_)
  refine WC.cq rfl (fun h8 qh8 => ?_) (fun h8 qh8 => ?_)
  ·have hh : hasN dir t_Name = true := has_idx (by have h9 := h8; simpa using h9)
   have hap : appOk dir (⟨t_Kind, t_Name, t_To, t_Id⟩ : TurnD) = false := by unfold appOk; rw [if_pos k1, hh]; rfl
   refine WC.r1 hs4 [] rfl (WC.ret (tkR (tkR ?_)))
   clear hK7 hK5
   refine retV2 rfl (resV.tmp rfl) (resV.tmp rfl) ?_
   exact ⟨none, 0, [], [], by rw [hap]; rfl, hs4.nil, OwnF.nil _ _, fun h9 => by rw [hap] at h9; cases h9⟩
  have hh : hasN dir t_Name = false := has_no (by have h9 := h8; simpa using h9)
  have hap : appOk dir (⟨t_Kind, t_Name, t_To, t_Id⟩ : TurnD) = true := by unfold appOk; rw [if_pos k1, hh]; rfl
  have hno := hasN_not hh
  refine WC.skip (hK7 _ _ (WC.sr (WL.r 5 hs4 [0, 0] rfl ?_)))
  refine WL.val rfl rfl rfl (Run.build rfl rfl rfl rfl (built_101_0_1 _ _)) (WL.cl Tryz.call173 rfl (k50_ _ _ _ _ _ _ _ (SlF.st0 f_dir hs4) ?_ ?_ ?_) ?_)
  iterate 3 first | assumption | rfl | omega
  rintro _ whs9 ⟨A10, c11, L1_12, rfl, hs9, ho13⟩
  replace hs9 := hs4.callF hs9
  refine ⟨_, rfl, ?_⟩
  replace hs9 := St.back [_] hs9
  refine WL.r 2 hs9 [] rfl (WL.nil (WC.ret (tkR ?_)))
  clear hK5
  refine retV2 rfl (resV.tmp rfl) (resV.tmp rfl) ?_
  have hx_ : _ = turnL dir (⟨t_Kind, t_Name, t_To, t_Id⟩ : TurnD) := OwnF.eqOf ho13 (by unfold turnL; first | (rw [if_pos k1]; done) | (rw [if_neg k1, if_pos k4, hfi]; done) | (rw [if_neg k1, if_neg k4]; done))
  have hn_ := OwnF.len_ ho13
  rw [hx_] at hn_
  have h9_ := ho13
  rw [hx_] at h9_
  refine ⟨A10, c11, turnL dir (⟨t_Kind, t_Name, t_To, t_Id⟩ : TurnD), _, by rw [hap]; first | rfl | (rw [hx_]; done) | (rw [hn_]; rfl), (St.keep1 (hs9.fr L1_12)), ?_, fun _ => rfl⟩
  first | exact h9_ | exact OwnF.relen h9_ (by omega)
 have k1 : ¬ t_Kind = 1 := by have h9 := h6; simpa using h9
 refine WC.skip (hK5 _ _ (WC.seq (fun K14 hK14 => WC.sr (WL.r 3 hs4 [] rfl ?_))))
 apply WL.gO 10 Acts.nil hs4 rfl
 ·intro g15 J16
  have qg15 := g15
  try simp only [bf, within_iff, within_not] at qg15
  refine WL.runA tbk 4 (Acts.nil.cons (j := 2) rfl g15) hs4 [0] rfl ⟨rfl, trivial⟩ (WL.pA tbk 5 (Acts.nil.cons (j := 2) rfl g15) hs4 [0, 0] rfl rfl rfl rfl (fun g_ => ⟨rfl, rfl, trivial⟩) (WL.eO 5 Acts.nil J16 hs4 g15 rfl rfl))
 intro _ hs17
 refine WL.nil (WC.cq rfl (fun h18 qh18 => ?_) (fun h18 qh18 => ?_))
 ·have hap : appOk dir (⟨t_Kind, t_Name, t_To, t_Id⟩ : TurnD) = false := app_no k1 (by have h9 := h18; first | exact h9 | simpa using h9)
  refine WC.r1 hs17 [] rfl (WC.ret (tkR ?_))
  clear hK14
  refine retV2 rfl (resV.tmp rfl) (resV.tmp rfl) ?_
  exact ⟨none, 0, [], [], by rw [hap]; rfl, hs17.nil, OwnF.nil _ _, fun h9 => by rw [hap] at h9; cases h9⟩
 obtain ⟨i9, hi9, hf9, hg9, hap⟩ := app_yes (dir := dir) (t := (⟨t_Kind, t_Name, t_To, t_Id⟩ : TurnD)) k1 (by have h9 := h18; first | exact h9 | simpa using h9)
 have hfi : (gat encLink dir i9).Id = findL dir t_Name := hg9
 refine WC.skip (hK14 _ _ (WC.seq (fun K19 hK19 => WC.rH hs17 hs17 (fun _ hs20 => ?_))))
 refine WH.rn [0, 1] hs20 [] rfl rfl ?_
 refine WH.take 2 rfl (by kernel_rfl) rfl rfl rfl hs20 (fun w_ hs_ => (Run.idxK (i9) Tryz.runUnderlying31 Tryz.sizeOf101 rfl rfl rfl ?_ ?_ ?_)) ?_
 · exact SlF.some_ (SlF.st0 f_dir (hs_ : St _ _ _ _))
 · omega
 · omega
 refine WH.take 3 rfl (by kernel_rfl) rfl rfl rfl hs20 (fun w_ hs_ => (Run.fieldO Tryz.runUnderlying101 rfl rfl rfl Tryz.sizeOf3 rfl)) ?_
 refine WH.take 4 rfl (by kernel_rfl) rfl rfl rfl hs20 (fun w_ hs_ => (Run.load Tryz.isAgg3 rfl rfl (SlF.fld (SlF.st0 f_dir (hs_ : St _ _ _ _)) ?_ rfl))) ?_
 · omega
 refine WH.rn [5, 6, 7] hs20 [0] rfl rfl (WH.o1 8 rfl (WL.cl Tryz.call174 rfl (k45_ _ _ _ _ _ _ (SlF.st0 f_dir hs20) ?_) ?_))
 · first | assumption | rfl | omega
 rintro _ whs21 ⟨A22, c23, L1_24, rfl, hs21, ho25⟩
 replace hs21 := hs20.callF hs21
 refine ⟨_, rfl, ?_⟩
 replace hs21 := St.back [_] hs21
 refine WL.nil ⟨(hs21.rm L1_24), WH.rn [9, 10] (hs21.rm L1_24) [] rfl rfl (WH.dn (hK19 _ _ (WC.seq (fun K26 hK26 => WC.r1 hs21 [0] rfl ?_))))⟩
 refine WC.cq rfl (fun h27 qh27 => ?_) (fun h27 qh27 => ?_)
 ·have k4 : t_Kind = 4 := by have h9 := h27; simpa using h9
  refine WC.rH hs21 hs21 (fun _ hs28 => ?_)
  refine WH.rn [0, 1, 2, 4, 5, 6] hs28 [0, 0] rfl rfl ?_
  refine WH.take 7 rfl (by kernel_rfl) rfl rfl rfl hs28 (fun w_ hs_ => (Run.build rfl rfl rfl rfl (built_101_0_1 _ _))) ?_
  refine WH.o1 3 rfl (WL.cl Tryz.call174 rfl (k45_ _ _ _ _ _ _ (SlF.ofOwn ho25 (hs28.ow L1_24)) ?_) ?_)
  · first | assumption | rfl | omega
  rintro _ whs29 ⟨A30, c31, L1_32, rfl, hs29, ho33⟩
  replace hs29 := hs28.callF hs29
  refine ⟨_, rfl, ?_⟩
  replace hs29 := St.back [_] hs29
  refine WL.nil ⟨(hs29.rm L1_32), WH.o1 8 rfl (WL.cl Tryz.call173 rfl (k50_ _ _ _ _ _ _ _ (SlF.ofOwn ho33 (hs29.ow L1_32)) ?_ ?_ ?_) ?_)⟩
  iterate 3 first | assumption | rfl | omega
  rintro _ whs34 ⟨A35, c36, L1_37, rfl, hs34, ho38⟩
  replace hs34 := hs29.callF hs34
  refine ⟨_, rfl, ?_⟩
  replace hs34 := St.back [_] hs34
  refine WL.nil ⟨((hs34.rm L1_37).rm L1_32), WH.rn [9] ((hs34.rm L1_37).rm L1_32) [] rfl rfl (WH.dn (hK26 _ _ (WC.r1 hs34 [] rfl (WC.ret (retV2 rfl (resV.tmp rfl) (resV.tmp rfl) ?_)))))⟩
  have hx_ : _ = turnL dir (⟨t_Kind, t_Name, t_To, t_Id⟩ : TurnD) := OwnF.eqOf ho38 (by unfold turnL; first | (rw [if_pos k1]; done) | (rw [if_neg k1, if_pos k4, hfi]; done) | (rw [if_neg k1, if_neg k4]; done))
  have hn_ := OwnF.len_ ho38
  rw [hx_] at hn_
  have h9_ := ho38
  rw [hx_] at h9_
  refine ⟨A35, c36, turnL dir (⟨t_Kind, t_Name, t_To, t_Id⟩ : TurnD), _, by rw [hap]; first | rfl | (rw [hx_]; done) | (rw [hn_]; rfl), (St.keep1 (hs34.fr L1_37)), ?_, fun _ => rfl⟩
  first | exact h9_ | exact OwnF.relen h9_ (by omega)
 have k4 : ¬ t_Kind = 4 := by have h9 := h27; simpa using h9
 refine WC.skip (hK26 _ _ (WC.r1 hs21 [] rfl (WC.ret (retV2 rfl (resV.tmp rfl) (resV.tmp rfl) ?_))))
 have hx_ : _ = turnL dir (⟨t_Kind, t_Name, t_To, t_Id⟩ : TurnD) := OwnF.eqOf ho25 (by unfold turnL; first | (rw [if_pos k1]; done) | (rw [if_neg k1, if_pos k4, hfi]; done) | (rw [if_neg k1, if_neg k4]; done))
 have hn_ := OwnF.len_ ho25
 rw [hx_] at hn_
 have h9_ := ho25
 rw [hx_] at h9_
 refine ⟨A22, c23, turnL dir (⟨t_Kind, t_Name, t_To, t_Id⟩ : TurnD), _, by rw [hap]; first | rfl | (rw [hx_]; done) | (rw [hn_]; rfl), (St.keep1 (hs21.fr L1_24)), ?_, fun _ => rfl⟩
 first | exact h9_ | exact OwnF.relen h9_ (by omega)
set_option maxHeartbeats 4000000 in
theorem k55_ (a : DiskR) (left : Int) (w : World) (f_a : okDiskR 9223372036854775807 w a) (h1 : 0 ≤ left) (h2 : left ≤ 1048576) :
    Calls Tryz.prog 26 #[.agg #[i64 a.Room, i64 a.Fuse, i64 a.Next, .slice a.Files.A a.Files.n a.Files.c, .slice a.Kept.A a.Kept.n a.Kept.c, .slice a.Turns.A a.Turns.n a.Turns.c], i64 left] w fun e w' => e = .returned (.int .i64 (szR left (totDisk a.dat))) ∧ St w [] [] w' := by
 have nb_a_Files := f_a.Files_n
 have nl_a_Files := f_a.Files.sl.len
 have nb_a_Kept := f_a.Kept_n
 have nl_a_Kept := f_a.Kept.len
 have nb_a_Turns := f_a.Turns_n
 have nl_a_Turns := f_a.Turns.len
 refine enter 24 Tryz.func26 rfl Tryz.ntmps26 rfl rfl ?_
 have hs1 := St.init w
 refine WC.sr (WL.bx hs1 rfl (fun b2 _ hs3 => WL.r 1 hs3 [] rfl (WL.nil (WC.sr (WL.r 3 hs3 [0] rfl ?_)))))
 refine WL.cl Tryz.call62 rfl (k29_ _ _ _ _ _ _ (SlN.st0 okFileR.st0 f_a.Files hs3) ?_ ?_ ?_) ?_
 · first | assumption | omega
 · first | assumption | omega | exact szR_b (by assumption) (by omega) (by first | assumption | omega)
 · first | assumption | omega
 rintro _ whs4 ⟨rfl, hs4⟩
 replace hs4 := hs3.call0 hs4
 refine ⟨_, rfl, WL.r 1 hs4 [] rfl (WL.nil (WC.seq (fun K5 hK5 => WC.r1 hs4 [] rfl ?_)))⟩
 refine WC.cD rfl (fun qh6 => ?_) (fun qh6 => ?_)
 ·try have soh6 := szR_ok qh6 (by omega)
  try have sbh6 := szR_b qh6 (by omega) (by first | assumption | omega)
  try have snh6 := szR_no qh6
  refine WC.r1 hs4 [] rfl (WC.ret (tkR ?_))
  clear hK5
  refine rtv rfl rfl hs4 ?_
  simp only [totDisk, DiskR.dat] at * <;> first | (rw [szR_lt (by omega)]; done) | (refine congrArg (Value.int _) ?_; symm; refine (szR_le ?_).trans ?_ <;> omega) | rfl
 try have soh6 := szR_ok qh6 (by omega)
 try have sbh6 := szR_b qh6 (by omega) (by first | assumption | omega)
 try have snh6 := szR_no qh6
 refine WC.skip (hK5 _ _ (WC.sr (WL.r 3 hs4 [0] rfl ?_)))
 refine WL.cl Tryz.call63 rfl (k30_ _ _ _ _ _ _ (SlF.st0 f_a.Kept hs4) ?_ ?_ ?_ ?_) ?_
 · first | assumption | omega
 · first | assumption | omega | exact szR_b (by assumption) (by omega) (by first | assumption | omega)
 · first | assumption | omega
 · first | assumption | exact f_a.Kept_s | exact f_a.Turns_s
 rintro _ whs7 ⟨rfl, hs7⟩
 replace hs7 := hs4.call0 hs7
 refine ⟨_, rfl, WL.r 1 hs7 [] rfl (WL.nil (WC.seq (fun K8 hK8 => WC.r1 hs7 [] rfl ?_)))⟩
 refine WC.cD rfl (fun qh9 => ?_) (fun qh9 => ?_)
 ·try have soh9 := szR_ok qh9 (by omega)
  try have sbh9 := szR_b qh9 (by omega) (by first | assumption | omega)
  try have snh9 := szR_no qh9
  refine WC.r1 hs7 [] rfl (WC.ret (tkR ?_))
  clear hK8
  refine rtv rfl rfl hs7 ?_
  simp only [totDisk, DiskR.dat] at * <;> first | (rw [szR_lt (by omega)]; done) | (refine congrArg (Value.int _) ?_; symm; refine (szR_le ?_).trans ?_ <;> omega) | rfl
 try have soh9 := szR_ok qh9 (by omega)
 try have sbh9 := szR_b qh9 (by omega) (by first | assumption | omega)
 try have snh9 := szR_no qh9
 refine WC.skip (hK8 _ _ (WC.sr (WL.r 3 hs7 [0] rfl ?_)))
 refine WL.cl Tryz.call64 rfl (k31_ _ _ _ _ _ _ (SlF.st0 f_a.Turns hs7) ?_ ?_ ?_ ?_) ?_
 · first | assumption | omega
 · first | assumption | omega | exact szR_b (by assumption) (by omega) (by first | assumption | omega)
 · first | assumption | omega
 · first | assumption | exact f_a.Kept_s | exact f_a.Turns_s
 rintro _ whs10 ⟨rfl, hs10⟩
 replace hs10 := hs7.call0 hs10
 refine ⟨_, rfl, WL.r 1 hs10 [] rfl (WL.nil (WC.seq (fun K11 hK11 => WC.r1 hs10 [] rfl ?_)))⟩
 refine WC.cD rfl (fun qh12 => ?_) (fun qh12 => ?_)
 ·try have soh12 := szR_ok qh12 (by omega)
  try have sbh12 := szR_b qh12 (by omega) (by first | assumption | omega)
  try have snh12 := szR_no qh12
  refine WC.r1 hs10 [] rfl (WC.ret (tkR ?_))
  clear hK11
  refine rtv rfl rfl hs10 ?_
  simp only [totDisk, DiskR.dat] at * <;> first | (rw [szR_lt (by omega)]; done) | (refine congrArg (Value.int _) ?_; symm; refine (szR_le ?_).trans ?_ <;> omega) | rfl
 try have soh12 := szR_ok qh12 (by omega)
 try have sbh12 := szR_b qh12 (by omega) (by first | assumption | omega)
 try have snh12 := szR_no qh12
 refine WC.skip (hK11 _ _ (WC.r1 hs10 [] rfl (WC.ret (rtv rfl rfl hs10 ?_))))
 simp only [totDisk, DiskR.dat] at * <;> first | (rw [szR_lt (by omega)]; done) | (refine congrArg (Value.int _) ?_; symm; refine (szR_le ?_).trans ?_ <;> omega) | rfl
set_option maxHeartbeats 4000000 in
theorem k56_ (a : DiskR) (w : World) (f_a : okDiskR 549755813888 w a) :
    Calls Tryz.prog 28 #[.agg #[i64 a.Room, i64 a.Fuse, i64 a.Next, .slice a.Files.A a.Files.n a.Files.c, .slice a.Kept.A a.Kept.n a.Kept.c, .slice a.Turns.A a.Turns.n a.Turns.c]] w fun e w' => ∃ r L1, e = .returned (.agg #[i64 r.Room, i64 r.Fuse, i64 r.Next, .slice r.Files.A r.Files.n r.Files.c, .slice r.Kept.A r.Kept.n r.Kept.c, .slice r.Turns.A r.Turns.n r.Turns.c]) ∧ St w [] L1 w' ∧ ownDiskR r L1 ∧ r.dat = a.dat := by
 have nb_a_Files := f_a.Files_n
 have nl_a_Files := f_a.Files.sl.len
 have nb_a_Kept := f_a.Kept_n
 have nl_a_Kept := f_a.Kept.len
 have nb_a_Turns := f_a.Turns_n
 have nl_a_Turns := f_a.Turns.len
 refine enter 26 Tryz.func28 rfl Tryz.ntmps28 rfl rfl ?_
 have hs1 := St.init w
 refine WC.sr (WL.bx hs1 rfl (fun b2 _ hs3 => WL.al hs3 Tryz.zeroValue34 rfl rfl (fun b4 _ hs5 => WL.nil (WC.sr (WL.al hs5 Tryz.zeroValue34 rfl rfl (fun b6 _ hs7 => WL.nil (WC.sr ?_)))))))
 refine WL.r 3 hs7 [2] rfl (WL.st tbk hs7 0 rfl rfl (fun _ hs8 => WL.nil (WC.sr (WL.r 3 hs8 [2] rfl (WL.st tbk hs8 0 rfl rfl (fun _ hs9 => WL.nil (WC.sr ?_)))))))
 refine WL.r 3 hs9 [2] rfl (WL.st tbk hs9 0 rfl rfl (fun _ hs10 => WL.nil (WC.sr (WL.r 2 hs10 [2] rfl ?_))))
 refine WL.cl Tryz.call71 rfl (k32_ _ _ _ _ _ (SlN.st0 okFileR.st0 f_a.Files hs10) ?_) ?_
 · first | assumption | rfl | omega
 rintro _ whs11 ⟨A12, c13, xs14, L1_15, rfl, hs11, ho16, hd17⟩
 replace hs11 := hs10.callF hs11
 refine ⟨_, rfl, ?_⟩
 replace hs11 := St.back [_, _, _] hs11
 refine WL.r 1 hs11 [] rfl (WL.st tbk hs11 0 rfl rfl (fun _ hs18 => WL.nil (WC.sr (WL.r 2 hs18 [2] rfl ?_))))
 refine WL.cl Tryz.call72 rfl (k33_ _ _ _ _ _ (SlF.st0 f_a.Kept hs18) ?_) ?_
 · first | assumption | rfl | omega
 rintro _ whs19 ⟨A20, c21, L1_22, rfl, hs19, ho23⟩
 replace hs19 := hs18.callF hs19
 refine ⟨_, rfl, ?_⟩
 replace hs19 := St.back [_, _, _] hs19
 refine WL.r 1 hs19 [] rfl (WL.st tbk hs19 0 rfl rfl (fun _ hs24 => WL.nil (WC.sr (WL.r 2 hs24 [2] rfl ?_))))
 refine WL.cl Tryz.call73 rfl (k34_ _ _ _ _ _ (SlF.st0 f_a.Turns hs24) ?_) ?_
 · first | assumption | rfl | omega
 rintro _ whs25 ⟨A26, c27, L1_28, rfl, hs25, ho29⟩
 replace hs25 := hs24.callF hs25
 refine ⟨_, rfl, ?_⟩
 replace hs25 := St.back [_, _, _] hs25
 refine WL.r 1 hs25 [] rfl (WL.st tbk hs25 0 rfl rfl (fun _ hs30 => WL.nil (WC.sr (WL.r 1 hs30 [0] rfl (WL.st tbk hs30 1 rfl rfl (fun _ hs31 => WL.nil (WC.ret ?_)))))))
 refine retV1 rfl (resV.cellA tbk hs31 1 rfl rfl rfl rfl) ?_
 obtain ⟨L33, hs32, ho34⟩ := ownDiskR.fl hs31 ho16 ho23 ho29
 have hs35 := (((hs32.fb b2).fb b4).fb b6)
 refine ⟨⟨a.Room, a.Fuse, a.Next, SlD.ofN ho16, SlD.of ho23, SlD.of ho29⟩, _, rfl, (St.keep1 (hs35.fr L33)), ?_, ?_⟩
 · exact (by exact ho34)
 · exact DiskD.ext' rfl rfl rfl hd17 rfl rfl
set_option maxHeartbeats 4000000 in
theorem k57_ (a : DiskR) (b : DiskR) (w : World) (f_a : okDiskR 549755813888 w a) (f_b : okDiskR 549755813888 w b) (hab : a.dat = b.dat) :
    Calls Tryz.prog 30 #[.agg #[i64 a.Room, i64 a.Fuse, i64 a.Next, .slice a.Files.A a.Files.n a.Files.c, .slice a.Kept.A a.Kept.n a.Kept.c, .slice a.Turns.A a.Turns.n a.Turns.c], .agg #[i64 b.Room, i64 b.Fuse, i64 b.Next, .slice b.Files.A b.Files.n b.Files.c, .slice b.Kept.A b.Kept.n b.Kept.c, .slice b.Turns.A b.Turns.n b.Turns.c]] w fun e w' => e = .returned (.bool true) ∧ St w [] [] w' := by
 have nb_a_Files := f_a.Files_n
 have nl_a_Files := f_a.Files.sl.len
 have nb_a_Kept := f_a.Kept_n
 have nl_a_Kept := f_a.Kept.len
 have nb_a_Turns := f_a.Turns_n
 have nl_a_Turns := f_a.Turns.len
 have nb_b_Files := f_b.Files_n
 have nl_b_Files := f_b.Files.sl.len
 have nb_b_Kept := f_b.Kept_n
 have nl_b_Kept := f_b.Kept.len
 have nb_b_Turns := f_b.Turns_n
 have nl_b_Turns := f_b.Turns.len
 have e_Room : a.Room = b.Room := congrArg (fun d : DiskD => d.Room) hab
 have e_Fuse : a.Fuse = b.Fuse := congrArg (fun d : DiskD => d.Fuse) hab
 have e_Next : a.Next = b.Next := congrArg (fun d : DiskD => d.Next) hab
 have e_Files : a.Files.xs.map FileR.dat = b.Files.xs.map FileR.dat := congrArg (fun d : DiskD => d.Files) hab
 have e_Kept : a.Kept.xs = b.Kept.xs := congrArg (fun d : DiskD => d.Kept) hab
 have e_Turns : a.Turns.xs = b.Turns.xs := congrArg (fun d : DiskD => d.Turns) hab
 refine enter 38 Tryz.func30 rfl Tryz.ntmps30 rfl rfl ?_
 have hs1 := St.init w
 refine WC.sr (WL.bx hs1 rfl (fun b2 _ hs3 => WL.bx hs3 rfl (fun b4 _ hs5 => WL.r 1 hs5 [] rfl (WL.nil (WC.seq (fun K6 hK6 => WC.r1 hs5 [1, 0] rfl (WC.condF rfl (by simp [e_Room, e_Fuse, e_Next]) ?_)))))))
 refine WC.skip (hK6 _ _ (WC.seq (fun K8 hK8 => WC.r1 hs5 [1, 0] rfl (WC.condF rfl (by simp [e_Room, e_Fuse, e_Next]) (WC.skip (hK8 _ _ (WC.seq (fun K10 hK10 => ?_))))))))
 refine WC.r1 hs5 [1, 0] rfl (WC.condF rfl (by simp [e_Room, e_Fuse, e_Next]) (WC.skip (hK10 _ _ (WC.seq (fun K12 hK12 => WC.sr (WL.r 4 hs5 [1, 0] rfl ?_))))))
 refine WL.cl Tryz.call77 rfl (k35_ _ _ _ _ _ _ _ _ _ (SlN.st0 okFileR.st0 f_a.Files hs5) (SlN.st0 okFileR.st0 f_b.Files hs5) ?_ ?_) ?_
 iterate 2 first | assumption | rfl | omega
 rintro _ whs13 ⟨rfl, hs13⟩
 replace hs13 := hs5.call0 hs13
 refine ⟨_, rfl, WL.r 1 hs13 [] rfl (WL.nil (WC.condF rfl (by simp [e_Room, e_Fuse, e_Next]) (WC.skip (hK12 _ _ (WC.seq (fun K15 hK15 => WC.sr ?_))))))⟩
 refine WL.r 4 hs13 [1, 0] rfl (WL.cl Tryz.call78 rfl (k36_ _ _ _ _ _ _ _ _ _ (SlF.st0 f_a.Kept hs13) (SlF.st0 f_b.Kept hs13) ?_ ?_) ?_)
 iterate 2 first | assumption | rfl | omega
 rintro _ whs16 ⟨rfl, hs16⟩
 replace hs16 := hs13.call0 hs16
 refine ⟨_, rfl, WL.r 1 hs16 [] rfl (WL.nil (WC.condF rfl (by simp [e_Room, e_Fuse, e_Next]) (WC.skip (hK15 _ _ (WC.seq (fun K18 hK18 => WC.sr ?_))))))⟩
 refine WL.r 4 hs16 [1, 0] rfl (WL.cl Tryz.call79 rfl (k37_ _ _ _ _ _ _ _ _ _ (SlF.st0 f_a.Turns hs16) (SlF.st0 f_b.Turns hs16) ?_ ?_) ?_)
 iterate 2 first | assumption | rfl | omega
 rintro _ whs19 ⟨rfl, hs19⟩
 replace hs19 := hs16.call0 hs19
 refine ⟨_, rfl, WL.r 1 hs19 [] rfl (WL.nil (WC.condF rfl (by simp [e_Room, e_Fuse, e_Next]) (WC.skip (hK18 _ _ (WC.r1 hs19 [] rfl (WC.ret ?_))))))⟩
 refine rtv rfl rfl hs19 ?_
 rfl
theorem k58_ (d : DiskR) (w : World) (f_d : okDiskR 549755813888 w d) (hn1 : d.Kept.n ≤ 1048576) (hn2 : d.Turns.n ≤ 1048576) :
    Calls Tryz.prog 103 #[.agg #[i64 d.Room, i64 d.Fuse, i64 d.Next, .slice d.Files.A d.Files.n d.Files.c, .slice d.Kept.A d.Kept.n d.Kept.c, .slice d.Turns.A d.Turns.n d.Turns.c]] w fun e w' => ∃ A c L1, e = .returned (.slice A (idsD d.dat).length c) ∧ St w [] L1 w' ∧ OwnF encI 3 (.slice A (idsD d.dat).length c) (idsD d.dat) L1 := by
 have nb_d_Files := f_d.Files_n
 have nl_d_Files := f_d.Files.sl.len
 have nb_d_Kept := f_d.Kept_n
 have nl_d_Kept := f_d.Kept.len
 have nb_d_Turns := f_d.Turns_n
 have nl_d_Turns := f_d.Turns.len
 have hl1 := f_d.Kept.len
 have hl2 := f_d.Turns.len
 refine enter 39 Tryz.func103 rfl Tryz.ntmps103 rfl rfl ?_
 have hs1 := St.init w
 refine WC.sr (WL.bx hs1 rfl (fun b2 _ hs3 => WL.r 1 hs3 [] rfl (WL.nil (WC.sr (WL.buildF (F := encI) hs3 ([]) Tryz.runUnderlying64 Tryz.sizeOf3 Tryz.zeroValue3 rfl rfl rfl rfl rfl rfl rfl rfl rfl rfl rfl rfl (fun A7 c8 L4 whs5 hs5 ho6 => ?_))))))
 replace hs5 := St.back [_] hs5
 refine WL.r 1 hs5 [] rfl (WL.nil (WC.seq (fun K9 hK9 => WC.r1 hs5 [0] rfl (WC.block ?_))))
 refine WC.lO [1, 2, 10, 11] rfl (hs5.fr L4) (fun k_ f L_ => ∃ (zs : List Int) (i : Nat) (A10 : Option Addr) (c11 : Nat), k_ = d.Kept.n - i ∧ (i ≤ d.Kept.n) ∧ (zs = (d.Kept.xs.take i).map (·.Id)) ∧ OwnF encI 3 (.slice A10 (zs.length) c11) (zs) L_ ∧ Sub [(3, .slice A10 (zs.length) c11), (12, .int .i64 i)] f) (((fun (zs : List Int) (i : Nat) => d.Kept.n - i) ([]) (0))) ?_ ?_
 ·refine ⟨[], 0, _, _, rfl, ?_, ?_, ho6, ⟨rfl, rfl, trivial⟩⟩
  · exact Nat.zero_le _
  · rfl
 clear hs5
 rintro _ f w L12 ⟨zs, i, A10, c11, rfl, p0, p1, ho13, hG⟩ hF hs14
 refine WC.sub _ (hG.app hF) ?_
 clear hG hF
 replace hs14 := St.back [_] hs14
 have hzl : zs.length ≤ d.Kept.n := by rw [p1, List.length_map, List.length_take]; omega
 refine WC.r1 hs14 [] rfl (WC.seq (fun K15 hK15 => ?_))
 refine WC.cq rfl (fun h16 qh16 => ?_) (fun h16 qh16 => ?_)
 ·refine WC.skip (hK15 _ _ (WC.seq (fun K17 hK17 => WC.block (WC.sr ?_))))
  refine WL.val rfl rfl rfl (Run.idxN Tryz.runUnderlying31 Tryz.sizeOf101 rfl rfl rfl ?_ ?_ ?_) ?_
  · exact SlF.some_ (SlF.st0 f_d.Kept hs14)
  · omega
  · omega
  refine WL.val rfl rfl rfl (Run.loadA Tryz.isAgg101 Tryz.sizeOf101 rfl rfl (SlF.whole (SlF.st0 f_d.Kept hs14) ?_)) ?_
  · omega
  refine WL.al hs14 Tryz.zeroValue101 rfl rfl (fun b18 _ hs19 => WL.st tbk hs19 0 rfl rfl (fun _ hs20 => WL.nil (WC.region (WL.r 3 hs20 [0] rfl (WL.buildSlice hs20 Tryz.runUnderlying64 Tryz.sizeOf3 Tryz.zeroValue3 rfl rfl rfl rfl rfl rfl rfl rfl rfl rfl (fun b21 whs22 hs22 => ?_))))))
  refine WL.appendG (hs22.fr L12) ho13 (srcF (F := encI) (ys := [(gat encLink d.Kept.xs i).Id]) Tryz.underlying64 rfl rfl (hs22.own _ (nthL_mem (i := 0) rfl)).1) Tryz.underlying64 inf3 rfl rfl rfl rfl rfl rfl rfl rfl rfl rfl ?_ (fun A26 c27 L23 whs24 hs24 ho25 => ?_)
  · simp; omega
  replace hs24 := St.back [_, _, _] hs24
  refine WL.r 1 hs24 [] rfl (WL.nil (hK17 _ _ (WC.region (WL.r 2 hs24 [] rfl (WL.nil (tkN ?_))))))
  replace hs24 := hs24.d1.d1
  refine ⟨sbF rfl, _, (hs24.fr L23), _, ?_, _, i + 1, _, _, rfl, ?_, ?_, ho25, ⟨rfl, rfl, trivial⟩⟩
  · omega
  · omega
  · rw [keptI_take (by omega), ← p1]
 refine WC.exit (hK9 _ _ (WC.seq (fun K28 hK28 => WC.r1 hs14 [0] rfl (WC.block ?_))))
 refine WC.lO [2, 13, 23, 24] rfl (hs14.fr L12) (fun k_ f L_ => ∃ (zs : List Int) (i : Nat) (A29 : Option Addr) (c30 : Nat), k_ = d.Turns.n - i ∧ (i ≤ d.Turns.n) ∧ (zs = d.Kept.xs.map (·.Id) ++ made (d.Turns.xs.take i)) ∧ OwnF encI 3 (.slice A29 (zs.length) c30) (zs) L_ ∧ Sub [(3, .slice A29 (zs.length) c30), (25, .int .i64 i)] f) (((fun (zs : List Int) (i : Nat) => d.Turns.n - i) (zs) (0))) ?_ ?_
 ·refine ⟨zs, 0, _, _, rfl, ?_, ?_, ho13, ⟨rfl, rfl, trivial⟩⟩
  · exact Nat.zero_le _
  · rw [p1, List.take_of_length_le (by omega)]; simp [made]
 clear hs14
 rintro _ f w L31 ⟨zs, i, A29, c30, rfl, p0, p1, ho32, hG⟩ hF hs33
 refine WC.sub _ (hG.app hF) ?_
 clear hG hF
 replace hs33 := St.back [_] hs33
 have hzl : zs.length ≤ d.Kept.n + d.Turns.n := by rw [p1, List.length_append, List.length_map]; have h9 := made_len (d.Turns.xs.take i); rw [List.length_take] at h9; omega
 refine WC.r1 hs33 [] rfl (WC.seq (fun K34 hK34 => ?_))
 refine WC.cq rfl (fun h35 qh35 => ?_) (fun h35 qh35 => ?_)
 ·refine WC.skip (hK34 _ _ (WC.seq (fun K36 hK36 => WC.block (WC.sr ?_))))
  refine WL.val rfl rfl rfl (Run.idxN Tryz.runUnderlying32 Tryz.sizeOf137 rfl rfl rfl ?_ ?_ ?_) ?_
  · exact SlF.some_ (SlF.st0 f_d.Turns hs33)
  · omega
  · omega
  refine WL.val rfl rfl rfl (Run.loadA Tryz.isAgg137 Tryz.sizeOf137 rfl rfl (SlF.whole (SlF.st0 f_d.Turns hs33) ?_)) ?_
  · omega
  refine WL.al hs33 Tryz.zeroValue137 rfl rfl (fun b37 _ hs38 => WL.st tbk hs38 0 rfl rfl (fun _ hs39 => WL.nil (WC.r1 hs39 [0] rfl ?_)))
  refine WC.cq rfl (fun h40 qh40 => ?_) (fun h40 qh40 => ?_)
  ·refine WC.region (WL.r 3 hs39 [0] rfl (WL.buildSlice hs39 Tryz.runUnderlying64 Tryz.sizeOf3 Tryz.zeroValue3 rfl rfl rfl rfl rfl rfl rfl rfl rfl rfl (fun b41 whs42 hs42 => ?_)))
   refine WL.appendG (hs42.fr L31) ho32 (srcF (F := encI) (ys := [(gat encTurn d.Turns.xs i).Id]) Tryz.underlying64 rfl rfl (hs42.own _ (nthL_mem (i := 0) rfl)).1) Tryz.underlying64 inf3 rfl rfl rfl rfl rfl rfl rfl rfl rfl rfl ?_ (fun A46 c47 L43 whs44 hs44 ho45 => ?_)
   · simp; omega
   replace hs44 := St.back [_, _, _] hs44
   refine WL.r 1 hs44 [] rfl (WL.nil (hK36 _ _ (WC.region (WL.r 2 hs44 [] rfl (WL.nil (tkN ?_))))))
   replace hs44 := hs44.d1.d1
   refine ⟨sbF rfl, _, (hs44.fr L43), _, ?_, _, i + 1, _, _, rfl, ?_, ?_, ho45, ⟨rfl, rfl, trivial⟩⟩
   · omega
   · omega
   · rw [p1, made_take (by omega)]; first | (rw [if_pos (by simpa using h40)]; simp; done) | (rw [if_neg (by simpa using h40)]; simp; done)
  refine WC.skip (hK36 _ _ (WC.region (WL.r 2 hs39 [] rfl (WL.nil (tkN ?_)))))
  replace hs39 := hs39.d1
  refine ⟨sbF rfl, _, (hs39.fr L31), _, ?_, _, i + 1, _, _, rfl, ?_, ?_, ho32, ⟨rfl, rfl, trivial⟩⟩
  · omega
  · omega
  · rw [p1, made_take (by omega)]; first | (rw [if_pos (by simpa using h40)]; simp; done) | (rw [if_neg (by simpa using h40)]; simp; done)
 refine WC.exit (hK28 _ _ (WC.r1 hs33 [] rfl (WC.ret (retV1 rfl (resV.tmp rfl) ?_))))
 have hx_ := OwnF.eqOf (xs := idsD d.dat) ho32 (by rw [p1, List.take_of_length_le (by omega)]; rfl)
 rw [← hx_]
 first | exact ⟨_, _, _, rfl, (St.keep1 (hs33.fr L31)), ho32⟩ | exact ⟨A29, c30, _, by rw [OwnF.len_ ho32], (St.keep1 (hs33.fr L31)), by rw [OwnF.len_ ho32]; exact ho32⟩
theorem k59_ (d : DiskR) (w : World) (f_d : okDiskR 549755813888 w d) (hu : usedF d.dat.Files ≤ 1048576) :
    Calls Tryz.prog 101 #[.agg #[i64 d.Room, i64 d.Fuse, i64 d.Next, .slice d.Files.A d.Files.n d.Files.c, .slice d.Kept.A d.Kept.n d.Kept.c, .slice d.Turns.A d.Turns.n d.Turns.c]] w fun e w' => e = .returned (.int .i64 (usedF d.dat.Files : Nat)) ∧ St w [] [] w' := by
 have nb_d_Files := f_d.Files_n
 have nl_d_Files := f_d.Files.sl.len
 have nb_d_Kept := f_d.Kept_n
 have nl_d_Kept := f_d.Kept.len
 have nb_d_Turns := f_d.Turns_n
 have nl_d_Turns := f_d.Turns.len
 have hl1 := f_d.Files.sl.len
 refine enter 20 Tryz.func101 rfl Tryz.ntmps101 rfl rfl ?_
 have hs1 := St.init w
 refine WC.sr (WL.bx hs1 rfl (fun b2 _ hs3 => WL.r 1 hs3 [] rfl (WL.nil (WC.r1 hs3 [] rfl (WC.seq (fun K4 hK4 => WC.r1 hs3 [0] rfl (WC.block ?_)))))))
 refine WC.lS [2, 7, 8] rfl hs3 (fun k_ f w' => ∃ (i : Nat), k_ = d.Files.n - i ∧ (i ≤ d.Files.n) ∧ Sub [(9, .int .i64 i), (3, .int .i64 (usedF ((d.Files.xs.take i).map FileR.dat) : Nat))] f) ((fun (i : Nat) => d.Files.n - i) (0)) ?_ ?_
 ·refine ⟨0, rfl, ?_, ⟨rfl, ?_, trivial⟩⟩
  · exact Nat.zero_le _
  · rfl
 clear hs3
 rintro _ f w ⟨i, rfl, p0, hG⟩ hF hs5
 refine WC.sub _ (hG.app hF) ?_
 clear hG hF
 have hul := usedF_le (xs := d.Files.xs) i
 refine WC.r1 hs5 [] rfl (WC.seq (fun K6 hK6 => ?_))
 refine WC.cq rfl (fun h7 qh7 => ?_) (fun h7 qh7 => ?_)
 ·have hun := usedF_le (xs := d.Files.xs) (i + 1)
  rw [usedF_take (by omega)] at hun
  have hgb := (f_d.Files.all _ (gat_mem (F := encFileR) (xs := d.Files.xs) (k := i) (by omega))).Body.len
  have hud : usedF d.dat.Files = usedF (d.Files.xs.map FileR.dat) := rfl
  refine WC.skip (hK6 _ _ (WC.seq (fun K8 hK8 => WC.block (WC.sr ?_))))
  refine WL.val rfl rfl rfl (Run.idxN Tryz.runUnderlying30 Tryz.sizeOf123 rfl rfl rfl ?_ ?_ ?_) ?_
  · exact SlF.some_ (SlF.st0 f_d.Files.sl hs5)
  · first | omega | (have hud : usedF d.dat.Files = usedF (d.Files.xs.map FileR.dat) := rfl; omega)
  · first | omega | (have hud : usedF d.dat.Files = usedF (d.Files.xs.map FileR.dat) := rfl; omega)
  refine WL.val rfl rfl rfl (Run.loadA Tryz.isAgg123 Tryz.sizeOf123 rfl rfl (SlF.whole (SlF.st0 f_d.Files.sl hs5) ?_)) ?_
  · omega
  refine WL.al hs5 Tryz.zeroValue123 rfl rfl (fun b9 _ hs10 => WL.st tbk hs10 0 rfl rfl (fun _ hs11 => WL.nil (WC.region ?_)))
  refine WL.run tbk 6 hs11 [0] rfl ⟨by first | omega | (have hud : usedF d.dat.Files = usedF (d.Files.xs.map FileR.dat) := rfl; omega), rfl, trivial⟩ (WL.nil (hK8 _ _ (WC.region ?_)))
  refine WL.run tbk 2 hs11 [] rfl ⟨by first | omega | (have hud : usedF d.dat.Files = usedF (d.Files.xs.map FileR.dat) := rfl; omega), trivial⟩ (WL.nil (tkN (⟨sbF rfl, (hs11.drop (by repeat (first | exact List.Sublist.refl _ | exact List.sublist_append_left _ _ | exact List.Sublist.trans (List.sublist_append_left _ _) (List.sublist_append_left _ _) | apply List.Sublist.cons | refine List.Sublist.trans ?_ (sR _)))), _, ?_, i + 1, rfl, ?_, ⟨rfl, ?_, trivial⟩⟩)))
  · omega
  · omega
  · (refine congrArg some (congrArg (Value.int _) ?_); rw [usedF_take (by omega)]; have h9 := gat_mem (F := encFileR) (xs := d.Files.xs) (k := i) (by omega); have h8 := (f_d.Files.all _ h9).Body.len; omega)
 refine WC.exit (hK4 _ _ (WC.r1 hs5 [] rfl (WC.ret (rtv rfl rfl hs5 ?_))))
 rw [List.take_of_length_le (by omega)]; rfl
theorem k60_ (d : DiskR) (w : World) (f_d : okDiskR 549755813888 w d) (hu : usedF d.dat.Files ≤ 1048576) :
    Calls Tryz.prog 152 #[.agg #[i64 d.Room, i64 d.Fuse, i64 d.Next, .slice d.Files.A d.Files.n d.Files.c, .slice d.Kept.A d.Kept.n d.Kept.c, .slice d.Turns.A d.Turns.n d.Turns.c]] w fun e w' => e = .returned (.int .i64 (usedF d.dat.Files : Nat)) ∧ St w [] [] w' := by
 have nb_d_Files := f_d.Files_n
 have nl_d_Files := f_d.Files.sl.len
 have nb_d_Kept := f_d.Kept_n
 have nl_d_Kept := f_d.Kept.len
 have nb_d_Turns := f_d.Turns_n
 have nl_d_Turns := f_d.Turns.len
 have hl1 := f_d.Files.sl.len
 refine enter 20 Tryz.func152 rfl Tryz.ntmps152 rfl rfl ?_
 have hs1 := St.init w
 refine WC.sr (WL.bx hs1 rfl (fun b2 _ hs3 => WL.r 1 hs3 [] rfl (WL.nil (WC.r1 hs3 [] rfl (WC.seq (fun K4 hK4 => WC.r1 hs3 [0] rfl (WC.block ?_)))))))
 refine WC.lS [2, 7, 8] rfl hs3 (fun k_ f w' => ∃ (i : Nat), k_ = d.Files.n - i ∧ (i ≤ d.Files.n) ∧ Sub [(9, .int .i64 i), (3, .int .i64 (usedF ((d.Files.xs.take i).map FileR.dat) : Nat))] f) ((fun (i : Nat) => d.Files.n - i) (0)) ?_ ?_
 ·refine ⟨0, rfl, ?_, ⟨rfl, ?_, trivial⟩⟩
  · exact Nat.zero_le _
  · rfl
 clear hs3
 rintro _ f w ⟨i, rfl, p0, hG⟩ hF hs5
 refine WC.sub _ (hG.app hF) ?_
 clear hG hF
 have hul := usedF_le (xs := d.Files.xs) i
 refine WC.r1 hs5 [] rfl (WC.seq (fun K6 hK6 => ?_))
 refine WC.cq rfl (fun h7 qh7 => ?_) (fun h7 qh7 => ?_)
 ·have hun := usedF_le (xs := d.Files.xs) (i + 1)
  rw [usedF_take (by omega)] at hun
  have hgb := (f_d.Files.all _ (gat_mem (F := encFileR) (xs := d.Files.xs) (k := i) (by omega))).Body.len
  have hud : usedF d.dat.Files = usedF (d.Files.xs.map FileR.dat) := rfl
  refine WC.skip (hK6 _ _ (WC.seq (fun K8 hK8 => WC.block (WC.sr ?_))))
  refine WL.val rfl rfl rfl (Run.idxN Tryz.runUnderlying30 Tryz.sizeOf123 rfl rfl rfl ?_ ?_ ?_) ?_
  · exact SlF.some_ (SlF.st0 f_d.Files.sl hs5)
  · first | omega | (have hud : usedF d.dat.Files = usedF (d.Files.xs.map FileR.dat) := rfl; omega)
  · first | omega | (have hud : usedF d.dat.Files = usedF (d.Files.xs.map FileR.dat) := rfl; omega)
  refine WL.val rfl rfl rfl (Run.loadA Tryz.isAgg123 Tryz.sizeOf123 rfl rfl (SlF.whole (SlF.st0 f_d.Files.sl hs5) ?_)) ?_
  · omega
  refine WL.al hs5 Tryz.zeroValue123 rfl rfl (fun b9 _ hs10 => WL.st tbk hs10 0 rfl rfl (fun _ hs11 => WL.nil (WC.region ?_)))
  refine WL.run tbk 6 hs11 [0] rfl ⟨by first | omega | (have hud : usedF d.dat.Files = usedF (d.Files.xs.map FileR.dat) := rfl; omega), rfl, trivial⟩ (WL.nil (hK8 _ _ (WC.region ?_)))
  refine WL.run tbk 2 hs11 [] rfl ⟨by first | omega | (have hud : usedF d.dat.Files = usedF (d.Files.xs.map FileR.dat) := rfl; omega), trivial⟩ (WL.nil (tkN (⟨sbF rfl, (hs11.drop (by repeat (first | exact List.Sublist.refl _ | exact List.sublist_append_left _ _ | exact List.Sublist.trans (List.sublist_append_left _ _) (List.sublist_append_left _ _) | apply List.Sublist.cons | refine List.Sublist.trans ?_ (sR _)))), _, ?_, i + 1, rfl, ?_, ⟨rfl, ?_, trivial⟩⟩)))
  · omega
  · omega
  · (refine congrArg some (congrArg (Value.int _) ?_); rw [usedF_take (by omega)]; have h9 := gat_mem (F := encFileR) (xs := d.Files.xs) (k := i) (by omega); have h8 := (f_d.Files.all _ h9).Body.len; omega)
 refine WC.exit (hK4 _ _ (WC.r1 hs5 [] rfl (WC.ret (rtv rfl rfl hs5 ?_))))
 rw [List.take_of_length_le (by omega)]; rfl
theorem ext_idx (s : ByteArray) (c : Int) (w : World) : (callFunc 232 #[.string s, .int .u8 c]).run Tryz.prog w = .ok (.value (.int .i64 (firstIdx s c.toNat.toUInt8))) w := by
  rw [run_callFunc_extern Tryz.func232 (by kernel_rfl) (by kernel_rfl) (by kernel_rfl) (e := Extern.BytealgIndexByte.indexByte) (by kernel_rfl), run_indexByte_string]
  rfl
theorem k61_ (s : ByteArray) (c : Int) (w : World) :
    Calls Tryz.prog 211 #[.string s, .int .u8 c] w fun e w' => e = .returned (.int .i64 (firstIdx s c.toNat.toUInt8)) ∧ St w [] [] w' := by
 refine enter 8 Tryz.func211 rfl Tryz.ntmps211 rfl rfl ?_
 have hs1 := St.init w
 refine WC.r1 hs1 [] rfl (WC.sr (WL.r 2 hs1 [] rfl (WL.val rfl rfl rfl (Run.ext (ext_idx _ _) rfl rfl rfl) (WL.r 1 hs1 [] rfl (WL.nil (WC.ret (retV1 rfl (resV.tmp rfl) ?_)))))))
 refine ⟨congrArg Ending.returned ?_, hs1.nil⟩
 rfl
theorem k62_ (s : ByteArray) (c : Int) (w : World) :
    Calls Tryz.prog 192 #[.string s, .int .u8 c] w fun e w' => e = .returned (.int .i64 (firstIdx s c.toNat.toUInt8)) ∧ St w [] [] w' := by
 refine enter 8 Tryz.func192 rfl Tryz.ntmps192 rfl rfl ?_
 have hs1 := St.init w
 refine WC.r1 hs1 [] rfl (WC.sr (WL.r 2 hs1 [] rfl (WL.cl Tryz.call211 rfl (k61_ _ _ _) ?_)))
 rintro _ whs2 ⟨rfl, hs2⟩
 replace hs2 := hs1.call0 hs2
 refine ⟨_, rfl, WL.r 1 hs2 [] rfl (WL.nil (WC.ret (rtv rfl rfl hs2 ?_)))⟩
 rfl
theorem k63_ (s : ByteArray) (most : Int) (more : ByteArray) (w : World) (hz : s.size ≤ 1099511627776) :
    Calls Tryz.prog 176 #[.string s, i64 most, .string more] w fun e w' => e = .returned (.bool (isPlain s most more)) ∧ St w [] [] w' := by
 refine enter 43 Tryz.func176 rfl Tryz.ntmps176 rfl rfl ?_
 have hs1 := St.init w
 refine WC.r1 hs1 [] rfl (WC.seq (fun K2 hK2 => WC.r1 hs1 [] rfl (WC.block ?_)))
 refine WC.lS [0, 1, 2, 10] rfl hs1 (fun k_ f w' => ∃ (i : Nat), k_ = s.size - i ∧ (i ≤ s.size) ∧ (upto (plainB more) s i) ∧ Sub [(11, .int .i64 i)] f) ((fun (i : Nat) => s.size - i) (0)) ?_ ?_
 ·refine ⟨0, rfl, ?_, ?_, ⟨rfl, trivial⟩⟩
  · exact Nat.zero_le _
  · exact upto_zero
 clear hs1
 rintro _ f w ⟨i, rfl, p0, p1, hG⟩ hF hs3
 refine WC.sub _ (hG.app hF) ?_
 clear hG hF
 refine WC.r1 hs3 [] rfl (WC.seq (fun K4 hK4 => ?_))
 refine WC.cD rfl (fun qh5 => ?_) (fun qh5 => ?_)
 ·refine WC.skip (hK4 _ _ (WC.seq (fun K6 hK6 => WC.block (WC.r1 hs3 [] rfl (WC.sr (WL.r 2 hs3 [] rfl ?_))))))
  refine WL.val rfl rfl rfl (Run.idxStr Tryz.runUnderlying9 rfl rfl rfl ?_ ?_) ?_
  · omega
  · omega
  refine WL.r 1 hs3 [] rfl (WL.nil (WC.sr (WL.r 3 hs3 [] rfl (WL.pA tbk 2 Acts.nil hs3 [] rfl rfl rfl rfl (fun g_ => trivial) (WL.r 1 hs3 [] rfl ?_)))))
  apply WL.gO 6 Acts.nil hs3 rfl
  ·intro g7 J8
   refine WL.runA tbk 3 (Acts.nil.cons (j := 6) rfl g7) hs3 [] rfl trivial (WL.pA tbk 2 (Acts.nil.cons (j := 6) rfl g7) hs3 [] rfl rfl rfl rfl (fun g_ => trivial) (WL.eO 4 Acts.nil J8 hs3 g7 rfl rfl))
  intro _ hs9
  refine WL.r 1 hs9 [] rfl ?_
  apply WL.gO 4 Acts.nil hs9 rfl
  ·intro g10 J11
   refine WL.runA tbk 2 (Acts.nil.cons (j := 14) rfl g10) hs9 [] rfl trivial (WL.call (wantF rfl g10) rfl rfl (Run.call Tryz.call192 rfl rfl rfl) (k62_ _ _ _) ?_)
   rintro _ whs12 ⟨rfl, hs12⟩
   replace hs12 := hs9.call0 hs12
   refine ⟨_, rfl, WL.runA tbk 1 (Acts.nil.cons (j := 14) rfl g10) hs12 [] rfl trivial (WL.eO 4 Acts.nil J11 hs12 g10 rfl rfl)⟩
  intro _ hs13
  refine WL.r 1 hs13 [] rfl (WL.nil (WC.cq rfl (fun h14 qh14 => ?_) (fun h14 qh14 => ?_)))
  ·refine WC.r1 hs13 [] rfl (WC.ret (ibR (tkR (tkR (ibR (tkR ?_))))))
   clear hK6 hK2
   refine rtv rfl rfl hs13 ?_
   have e : plainB more (sbyte s i) = false := by simpa [plainB, wordB] using qh14
   simp [isPlain, allB_false (by omega) e]
  refine WC.skip (hK6 _ _ (WC.region (WL.r 2 hs13 [] rfl (WL.nil (tkN ?_)))))
  refine ⟨sbF rfl, hs13, _, ?_, i + 1, rfl, ?_, ?_, ⟨rfl, trivial⟩⟩
  · omega
  · omega
  · refine upto_succ p1 ?_; simpa [plainB, wordB] using qh14
 refine WC.exit (hK2 _ _ (WC.sr (WL.r 3 hs3 [] rfl (WL.cl Tryz.call61 rfl (k3_ _ _ _ _) ?_))))
 rintro _ whs15 ⟨rfl, hs15⟩
 replace hs15 := hs3.call0 hs15
 refine ⟨_, rfl, WL.r 1 hs15 [] rfl (WL.nil (WC.ret (rtv rfl rfl hs15 ?_)))⟩
 simp [isPlain, allB_true p1 (by omega)]
theorem k64_ (s : ByteArray) (w : World) (hz : s.size ≤ 1099511627776) :
    Calls Tryz.prog 149 #[.string s] w fun e w' => e = .returned (.bool (nameOk s)) ∧ St w [] [] w' := by
 refine enter 5 Tryz.func149 rfl Tryz.ntmps149 rfl rfl ?_
 have hs1 := St.init w
 refine WC.r1 hs1 [] rfl (WC.sr (WL.r 1 hs1 [] rfl (WL.cl Tryz.call176 rfl (k63_ _ _ _ _ ?_) ?_)))
 · first | assumption | rfl | omega
 rintro _ whs2 ⟨rfl, hs2⟩
 replace hs2 := hs1.call0 hs2
 refine ⟨_, rfl, WL.r 1 hs2 [] rfl (WL.nil (WC.ret (rtv rfl rfl hs2 ?_)))⟩
 rfl
theorem k65_ (s : ByteArray) (w : World) (hz : s.size ≤ 1099511627776) :
    Calls Tryz.prog 102 #[.string s] w fun e w' => e = .returned (.bool (nameOk s)) ∧ St w [] [] w' := by
 refine enter 46 Tryz.func102 rfl Tryz.ntmps102 rfl rfl ?_
 have hs1 := St.init w
 refine WC.r1 hs1 [] rfl (WC.seq (fun K2 hK2 => WC.r1 hs1 [] rfl (WC.block ?_)))
 refine WC.lS [0] rfl hs1 (fun k_ f w' => ∃ (i : Nat), k_ = s.size - i ∧ (i ≤ s.size) ∧ (upto (plainB ⟨#[46]⟩) s i) ∧ Sub [(3, .int .i64 i)] f) ((fun (i : Nat) => s.size - i) (0)) ?_ ?_
 ·refine ⟨0, rfl, ?_, ?_, ⟨rfl, trivial⟩⟩
  · exact Nat.zero_le _
  · exact upto_zero
 clear hs1
 rintro _ f w ⟨i, rfl, p0, p1, hG⟩ hF hs3
 refine WC.sub _ (hG.app hF) ?_
 clear hG hF
 refine WC.seq (fun K4 hK4 => WC.r1 hs3 [] rfl ?_)
 refine WC.cond rfl (fun h5 => ?_) (fun h5 => ?_)
 ·have qh5 := h5
  try simp only [decide_eq_true_eq, decide_eq_false_iff_not] at qh5
  refine WC.skip (hK4 _ _ (WC.seq (fun K6 hK6 => WC.block (WC.sr (WL.r 2 hs3 [] rfl ?_)))))
  refine WL.val rfl rfl rfl (Run.idxStr Tryz.runUnderlying9 rfl rfl rfl ?_ ?_) ?_
  · omega
  · omega
  refine WL.r 2 hs3 [] rfl ?_
  apply WL.gO 4 Acts.nil hs3 rfl
  ·intro g7 J8
   refine WL.runA tbk 2 (Acts.nil.cons (j := 4) rfl g7) hs3 [] rfl trivial (WL.val (wantF rfl g7) rfl rfl (Run.idxStr Tryz.runUnderlying9 rfl rfl rfl ?_ ?_) ?_)
   · omega
   · omega
   refine WL.runA tbk 1 (Acts.nil.cons (j := 4) rfl g7) hs3 [] rfl trivial (WL.eO 4 Acts.nil J8 hs3 g7 rfl rfl)
  intro _ hs9
  refine WL.r 1 hs9 [] rfl ?_
  apply WL.gA 10 Acts.nil hs9 rfl
  ·intro g10 J11
   refine WL.runA tbk 2 (Acts.nil.cons (j := 10) rfl g10) hs9 [] rfl trivial (WL.val (wantT rfl g10) rfl rfl (Run.idxStr Tryz.runUnderlying9 rfl rfl rfl ?_ ?_) ?_)
   · omega
   · omega
   refine WL.runA tbk 2 (Acts.nil.cons (j := 10) rfl g10) hs9 [] rfl trivial ?_
   apply WL.gO 4 (Acts.nil.cons (j := 10) rfl g10) hs9 rfl
   ·intro g12 J13
    refine WL.runA tbk 2 (Acts.nil.cons (j := 15) rfl g12) hs9 [] rfl trivial (WL.val (wantF rfl g12) rfl rfl (Run.idxStr Tryz.runUnderlying9 rfl rfl rfl ?_ ?_) ?_)
    · omega
    · omega
    refine WL.runA tbk 1 (Acts.nil.cons (j := 15) rfl g12) hs9 [] rfl trivial (WL.eO 4 (Acts.nil.cons (j := 10) rfl g10) J13 hs9 g12 rfl rfl)
   intro _ hs14
   exact WL.eA 6 Acts.nil J11 hs14 g10 rfl rfl
  intro _ hs15
  refine WL.r 1 hs15 [] rfl ?_
  apply WL.gA 4 Acts.nil hs15 rfl
  ·intro g16 J17
   refine WL.runA tbk 2 (Acts.nil.cons (j := 22) rfl g16) hs15 [] rfl trivial (WL.val (wantT rfl g16) rfl rfl (Run.idxStr Tryz.runUnderlying9 rfl rfl rfl ?_ ?_) ?_)
   · omega
   · omega
   refine WL.runA tbk 1 (Acts.nil.cons (j := 22) rfl g16) hs15 [] rfl trivial (WL.eA 4 Acts.nil J17 hs15 g16 rfl rfl)
  intro _ hs18
  refine WL.nil (WC.cond rfl (fun h19 => ?_) (fun h19 => ?_))
  ·have qh19 := h19
   try simp only [decide_eq_true_eq, decide_eq_false_iff_not] at qh19
   refine WC.r1 hs18 [] rfl (WC.ret (ibR (tkR (tkR (ibR (tkR ?_))))))
   clear hK6 hK2
   refine rtv rfl rfl hs18 ?_
   have e : plainB ⟨#[46]⟩ (sbyte s i) = false := by rw [plainB_dot]; simp only [Int.toNat_natCast] at qh19; simpa [wordB] using nameB_not qh19
   simp [nameOk, isPlain, allB_false (by omega) e]
  have qh19 := h19
  try simp only [decide_eq_true_eq, decide_eq_false_iff_not] at qh19
  refine WC.skip (hK6 _ _ (WC.region (WL.r 3 hs18 [] rfl (WL.nil (tkN ?_)))))
  refine ⟨sbF rfl, hs18, _, ?_, i + 1, rfl, ?_, ?_, ⟨rfl, trivial⟩⟩
  · omega
  · omega
  · refine upto_succ p1 ?_; rw [plainB_dot]; simp only [Int.toNat_natCast] at qh19; simpa [wordB] using nameB_of qh19
 have qh5 := h5
 try simp only [decide_eq_true_eq, decide_eq_false_iff_not] at qh5
 refine WC.exit (hK2 _ _ (WC.sr (WL.r 4 hs3 [] rfl (WL.pA tbk 3 Acts.nil hs3 [] rfl rfl rfl rfl (fun g_ => trivial) (WL.r 1 hs3 [] rfl (WL.nil (WC.ret ?_)))))))
 refine rtv rfl rfl hs3 ?_
 simp only [nameOk, isPlain, allB_true p1 (by omega), Bool.true_and]; rfl
theorem k66_ (A_l : Option Addr) (n_l c_l : Nat) (l : List Int) (x : Int) (w : World) (f_l : SlF encI w A_l n_l l) (hn : n_l ≤ 549755813888) :
    Calls Tryz.prog 104 #[.slice A_l n_l c_l, i64 x] w fun e w' => e = .returned (.bool (l.contains x)) ∧ St w [] [] w' := by
 have hl := f_l.len
 refine enter 17 Tryz.func104 rfl Tryz.ntmps104 rfl rfl ?_
 have hs1 := St.init w
 refine WC.r1 hs1 [] rfl (WC.seq (fun K2 hK2 => WC.r1 hs1 [] rfl (WC.block ?_)))
 refine WC.lS [1, 7, 8] rfl hs1 (fun k_ f w' => ∃ (i : Nat), k_ = n_l - i ∧ (i ≤ n_l) ∧ (∀ j, j < i → iat l j ≠ x) ∧ Sub [(9, .int .i64 i)] f) ((fun (i : Nat) => n_l - i) (0)) ?_ ?_
 ·refine ⟨0, rfl, ?_, ?_, ⟨rfl, trivial⟩⟩
  · exact Nat.zero_le _
  · exact fun j hj => absurd hj (by omega)
 clear hs1
 rintro _ f w ⟨i, rfl, p0, p1, hG⟩ hF hs3
 refine WC.sub _ (hG.app hF) ?_
 clear hG hF
 refine WC.r1 hs3 [] rfl (WC.seq (fun K4 hK4 => ?_))
 refine WC.cD rfl (fun qh5 => ?_) (fun qh5 => ?_)
 ·refine WC.skip (hK4 _ _ (WC.seq (fun K6 hK6 => WC.block (WC.sr ?_))))
  refine WL.val rfl rfl rfl (Run.idxN Tryz.runUnderlying64 Tryz.sizeOf3 rfl rfl rfl ?_ ?_ ?_) ?_
  · exact SlF.some_ (SlF.st0 f_l hs3)
  · omega
  · omega
  refine WL.val rfl rfl rfl (Run.load Tryz.isAgg3 rfl rfl (SlF.one1 (SlF.st0 f_l hs3) ?_ rfl)) ?_
  · omega
  refine WL.r 1 hs3 [] rfl (WL.nil (WC.r1 hs3 [] rfl (WC.cD rfl (fun qh7 => ?_) (fun qh7 => ?_))))
  ·refine WC.r1 hs3 [] rfl (WC.ret (ibR (tkR (tkR (ibR (tkR ?_))))))
   clear hK6 hK2
   refine rtv rfl rfl hs3 ?_
   congr 1; symm; rw [List.contains_iff_mem]; rw [← qh7]; exact gat_mem (F := encI) (by omega)
  refine WC.skip (hK6 _ _ (WC.region (WL.r 2 hs3 [] rfl (WL.nil (tkN ?_)))))
  refine ⟨sbF rfl, hs3, _, ?_, i + 1, rfl, ?_, ?_, ⟨rfl, trivial⟩⟩
  · omega
  · omega
  · intro j hj; rcases Nat.lt_or_ge j i with h_ | h_
    · exact p1 j h_
    · obtain rfl : j = i := by omega
      exact qh7
 refine WC.exit (hK2 _ _ (WC.r1 hs3 [] rfl (WC.ret (rtv rfl rfl hs3 ?_))))
 congr 1; symm; rw [← Bool.not_eq_true, List.contains_iff_mem]; exact int_not (fun j hj => p1 j (by omega))
theorem k67_ (A_dir : Option Addr) (n_dir c_dir : Nat) (dir : List LinkD) (t_Kind : Int) (t_Name : ByteArray) (t_To : ByteArray) (t_Id : Int) (w : World) (f_dir : SlF encLink w A_dir n_dir dir) (hn : n_dir ≤ 268435456) :
    Calls Tryz.prog 106 #[.slice A_dir n_dir c_dir, .agg #[i64 t_Kind, .string t_Name, .string t_To, i64 t_Id]] w fun e w' => ∃ A c L1, e = .returned (.slice A (turnL dir (⟨t_Kind, t_Name, t_To, t_Id⟩ : TurnD)).length c) ∧ St w [] L1 w' ∧ OwnF encLink 101 (.slice A (turnL dir (⟨t_Kind, t_Name, t_To, t_Id⟩ : TurnD)).length c) (turnL dir (⟨t_Kind, t_Name, t_To, t_Id⟩ : TurnD)) L1 := by
 have hl := f_dir.len
 have hll1 := lessL_len (dir := dir) (n := t_Name)
 have hll2 := lessL_len (dir := lessL dir t_Name) (n := t_To)
 refine enter 35 Tryz.func106 rfl Tryz.ntmps106 rfl rfl ?_
 have hs1 := St.init w
 refine WC.sr (WL.bx hs1 rfl (fun b2 _ hs3 => WL.r 1 hs3 [] rfl (WL.nil (WC.seq (fun K4 hK4 => WC.r1 hs3 [0] rfl ?_)))))
 refine WC.cq rfl (fun h5 qh5 => ?_) (fun h5 qh5 => ?_)
 ·have k1 : t_Kind = 1 := by have h9 := h5; simpa using h9
  refine WC.sr (WL.r 5 hs3 [0, 0] rfl (WL.cl Tryz.call159 rfl (k53_ _ _ _ _ _ _ _ (SlF.st0 f_dir hs3) ?_) ?_))
  · first | assumption | rfl | omega
  rintro _ whs6 ⟨A7, c8, L1_9, rfl, hs6, ho10⟩
  replace hs6 := hs3.callF hs6
  refine ⟨_, rfl, ?_⟩
  replace hs6 := St.back [_] hs6
  refine WL.r 1 hs6 [] rfl (WL.nil (WC.ret (tkR ?_)))
  clear hK4
  refine retV1 rfl (resV.tmp rfl) ?_
  have hx_ := OwnF.eqOf (xs := turnL dir (⟨t_Kind, t_Name, t_To, t_Id⟩ : TurnD)) ho10 (by unfold turnL; rw [if_pos k1])
  rw [← hx_]
  first | exact ⟨_, _, _, rfl, (St.keep1 (hs6.fr L1_9)), ho10⟩ | exact ⟨A7, c8, _, by rw [OwnF.len_ ho10], (St.keep1 (hs6.fr L1_9)), by rw [OwnF.len_ ho10]; exact ho10⟩
 have k1 : ¬ t_Kind = 1 := by have h9 := h5; simpa using h9
 refine WC.skip (hK4 _ _ (WC.sr (WL.r 3 hs3 [0] rfl ?_)))
 refine WL.cl Tryz.call108 rfl (k51_ _ _ _ _ _ _ (SlF.st0 f_dir hs3) ?_) ?_
 · first | assumption | rfl | omega
 rintro _ whs11 ⟨rfl, hs11⟩
 replace hs11 := hs3.call0 hs11
 refine ⟨_, rfl, WL.r 1 hs11 [] rfl (WL.nil (WC.sr (WL.r 3 hs11 [0] rfl (WL.cl Tryz.call160 rfl (k52_ _ _ _ _ _ _ (SlF.st0 f_dir hs11) ?_) ?_))))⟩
 · first | assumption | rfl | omega
 rintro _ whs12 ⟨A13, c14, L1_15, rfl, hs12, ho16⟩
 replace hs12 := hs11.callF hs12
 refine ⟨_, rfl, ?_⟩
 replace hs12 := St.back [_] hs12
 refine WL.r 1 hs12 [] rfl (WL.nil (WC.seq (fun K17 hK17 => WC.r1 hs12 [0] rfl ?_)))
 refine WC.cq rfl (fun h18 qh18 => ?_) (fun h18 qh18 => ?_)
 ·have k4 : t_Kind = 4 := by have h9 := h18; simpa using h9
  refine WC.rH hs12 hs12 (fun _ hs19 => ?_)
  refine WH.rn [0, 1, 2, 4, 5, 6] hs19 [0, 0] rfl rfl (WH.o1 3 rfl (WL.cl Tryz.call160 rfl (k52_ _ _ _ _ _ _ (SlF.ofOwn ho16 (hs19.ow L1_15)) ?_) ?_))
  · first | assumption | rfl | omega
  rintro _ whs20 ⟨A21, c22, L1_23, rfl, hs20, ho24⟩
  replace hs20 := hs19.callF hs20
  refine ⟨_, rfl, ?_⟩
  replace hs20 := St.back [_] hs20
  refine WL.nil ⟨(hs20.rm L1_23), WH.o1 7 rfl (WL.cl Tryz.call159 rfl (k53_ _ _ _ _ _ _ _ (SlF.ofOwn ho24 (hs20.ow L1_23)) ?_) ?_)⟩
  · first | assumption | rfl | omega
  rintro _ whs25 ⟨A26, c27, L1_28, rfl, hs25, ho29⟩
  replace hs25 := hs20.callF hs25
  refine ⟨_, rfl, ?_⟩
  replace hs25 := St.back [_] hs25
  refine WL.nil ⟨((hs25.rm L1_28).rm L1_23), WH.rn [8] ((hs25.rm L1_28).rm L1_23) [] rfl rfl (WH.dn (hK17 _ _ (WC.r1 hs25 [] rfl (WC.ret (retV1 rfl (resV.tmp rfl) ?_)))))⟩
  have hx_ := OwnF.eqOf (xs := turnL dir (⟨t_Kind, t_Name, t_To, t_Id⟩ : TurnD)) ho29 (by unfold turnL; rw [if_neg k1, if_pos k4])
  rw [← hx_]
  first | exact ⟨_, _, _, rfl, (St.keep1 (hs25.fr L1_28)), ho29⟩ | exact ⟨A26, c27, _, by rw [OwnF.len_ ho29], (St.keep1 (hs25.fr L1_28)), by rw [OwnF.len_ ho29]; exact ho29⟩
 have k4 : ¬ t_Kind = 4 := by have h9 := h18; simpa using h9
 refine WC.skip (hK17 _ _ (WC.r1 hs12 [] rfl (WC.ret (retV1 rfl (resV.tmp rfl) ?_))))
 have hx_ := OwnF.eqOf (xs := turnL dir (⟨t_Kind, t_Name, t_To, t_Id⟩ : TurnD)) ho16 (by unfold turnL; rw [if_neg k1, if_neg k4])
 rw [← hx_]
 first | exact ⟨_, _, _, rfl, (St.keep1 (hs12.fr L1_15)), ho16⟩ | exact ⟨A13, c14, _, by rw [OwnF.len_ ho16], (St.keep1 (hs12.fr L1_15)), by rw [OwnF.len_ ho16]; exact ho16⟩
set_option maxHeartbeats 2000000 in
theorem k68_ (A_dir : Option Addr) (n_dir c_dir : Nat) (dir : List LinkD) (t_Kind : Int) (t_Name : ByteArray) (t_To : ByteArray) (t_Id : Int) (w : World) (f_dir : SlF encLink w A_dir n_dir dir) (hn : n_dir ≤ 268435456) (h1 : t_Name.size ≤ 1099511627776) (h2 : t_To.size ≤ 1099511627776) :
    Calls Tryz.prog 105 #[.slice A_dir n_dir c_dir, .agg #[i64 t_Kind, .string t_Name, .string t_To, i64 t_Id]] w fun e w' => e = .returned (.bool (turnOk dir (⟨t_Kind, t_Name, t_To, t_Id⟩ : TurnD))) ∧ St w [] [] w' := by
 refine enter 64 Tryz.func105 rfl Tryz.ntmps105 rfl rfl ?_
 have hs1 := St.init w
 refine WC.sr (WL.bx hs1 rfl (fun b2 _ hs3 => WL.r 1 hs3 [] rfl (WL.nil (WC.sr (WL.r 3 hs3 [0] rfl ?_)))))
 refine WL.cl Tryz.call108 rfl (k51_ _ _ _ _ _ _ (SlF.st0 f_dir hs3) ?_) ?_
 · first | assumption | rfl | omega
 rintro _ whs4 ⟨rfl, hs4⟩
 replace hs4 := hs3.call0 hs4
 refine ⟨_, rfl, WL.r 2 hs4 [] rfl (WL.nil (WC.seq (fun K5 hK5 => WC.sr (WL.r 2 hs4 [0] rfl ?_))))⟩
 refine WL.cl Tryz.call102 rfl (k65_ _ _ ?_) ?_
 · first | assumption | rfl | omega
 rintro _ whs6 ⟨rfl, hs6⟩
 replace hs6 := hs4.call0 hs6
 refine ⟨_, rfl, WL.r 1 hs6 [] rfl (WL.nil (WC.cq rfl (fun h7 qh7 => ?_) (fun h7 qh7 => ?_)))⟩
 ·refine WC.r1 hs6 [] rfl (WC.ret (tkR ?_))
  clear hK5
  refine rtv rfl rfl hs6 ?_
  unfold turnOk noName; simp_all
 refine WC.skip (hK5 _ _ (WC.seq (fun K8 hK8 => WC.r1 hs6 [0] rfl (WC.block (WC.r1 hs6 [] rfl ?_)))))
 refine WC.cq rfl (fun h9 qh9 => ?_) (fun h9 qh9 => ?_)
 ·refine WC.sr (WL.r 4 hs6 [0] rfl (WL.pA tbk 3 Acts.nil hs6 [0] rfl rfl rfl rfl (fun g_ => ⟨rfl, trivial⟩) (WL.r 1 hs6 [] rfl (WL.pA tbk 2 Acts.nil hs6 [] rfl rfl rfl rfl (fun g_ => trivial) (WL.r 1 hs6 [] rfl (WL.nil (WC.ret ?_)))))))
  refine ibR (tkR ?_)
  clear hK8
  refine rtv rfl rfl hs6 ?_
  unfold turnOk noName; simp_all
 refine WC.r1 hs6 [] rfl (WC.cq rfl (fun h10 qh10 => ?_) (fun h10 qh10 => ?_))
 ·refine WC.sr (WL.r 2 hs6 [0] rfl (WL.cl Tryz.call102 rfl (k65_ _ _ ?_) ?_))
  · first | assumption | rfl | omega
  rintro _ whs11 ⟨rfl, hs11⟩
  replace hs11 := hs6.call0 hs11
  refine ⟨_, rfl, WL.r 1 hs11 [] rfl (WL.pA tbk 5 Acts.nil hs11 [0, 0] rfl rfl rfl rfl (fun g_ => ⟨rfl, rfl, trivial⟩) (WL.r 1 hs11 [] rfl (WL.pA tbk 3 Acts.nil hs11 [0] rfl rfl rfl rfl (fun g_ => ⟨rfl, trivial⟩) (WL.r 1 hs11 [] rfl (WL.pA tbk 1 Acts.nil hs11 [] rfl rfl rfl rfl (fun g_ => trivial) (WL.r 1 hs11 [] rfl ?_))))))⟩
  refine WL.nil (WC.ret (ibR (tkR ?_)))
  clear hK8
  refine rtv rfl rfl hs11 ?_
  unfold turnOk noName; simp_all
 refine WC.r1 hs6 [] rfl (WC.cq rfl (fun h12 qh12 => ?_) (fun h12 qh12 => ?_))
 ·refine WC.sr (WL.r 4 hs6 [0] rfl (WL.pA tbk 3 Acts.nil hs6 [0] rfl rfl rfl rfl (fun g_ => ⟨rfl, trivial⟩) (WL.r 1 hs6 [] rfl (WL.pA tbk 1 Acts.nil hs6 [] rfl rfl rfl rfl (fun g_ => trivial) (WL.r 1 hs6 [] rfl (WL.nil (WC.ret ?_)))))))
  refine ibR (tkR ?_)
  clear hK8
  refine rtv rfl rfl hs6 ?_
  unfold turnOk noName; simp_all
 refine WC.skip (hK8 _ _ (WC.r1 hs6 [] rfl (WC.ret (rtv rfl rfl hs6 ?_))))
 unfold turnOk noName; simp_all
set_option maxHeartbeats 2000000 in
theorem k69_ (t_Kind : Int) (t_Name : ByteArray) (t_To : ByteArray) (t_Id : Int) (w : World) (h1 : t_Name.size ≤ 1099511627776) (h2 : t_To.size ≤ 1099511627776) :
    Calls Tryz.prog 162 #[.agg #[i64 t_Kind, .string t_Name, .string t_To, i64 t_Id]] w fun e w' => e = .returned (.bool (isTurn (⟨t_Kind, t_Name, t_To, t_Id⟩ : TurnD))) ∧ St w [] [] w' := by
 refine enter 45 Tryz.func162 rfl Tryz.ntmps162 rfl rfl ?_
 have hs1 := St.init w
 refine WC.sr (WL.bx hs1 rfl (fun b2 _ hs3 => WL.r 1 hs3 [] rfl (WL.nil (WC.seq (fun K4 hK4 => WC.r1 hs3 [0] rfl (WC.block (WC.r1 hs3 [] rfl ?_)))))))
 refine WC.cq rfl (fun h5 qh5 => ?_) (fun h5 qh5 => ?_)
 ·refine WC.sr (WL.r 2 hs3 [0] rfl (WL.cl Tryz.call149 rfl (k64_ _ _ ?_) ?_))
  · first | assumption | rfl | omega
  rintro _ whs6 ⟨rfl, hs6⟩
  replace hs6 := hs3.call0 hs6
  refine ⟨_, rfl, WL.r 1 hs6 [] rfl (WL.pA tbk 3 Acts.nil hs6 [0] rfl rfl rfl rfl (fun g_ => ⟨rfl, trivial⟩) (WL.r 1 hs6 [] rfl (WL.nil (WC.ret (ibR (tkR ?_))))))⟩
  clear hK4
  refine rtv rfl rfl hs6 ?_
  unfold isTurn noName; simp_all
 refine WC.r1 hs3 [] rfl (WC.cq rfl (fun h7 qh7 => ?_) (fun h7 qh7 => ?_))
 ·refine WC.sr (WL.r 2 hs3 [0] rfl (WL.cl Tryz.call149 rfl (k64_ _ _ ?_) ?_))
  · first | assumption | rfl | omega
  rintro _ whs8 ⟨rfl, hs8⟩
  replace hs8 := hs3.call0 hs8
  refine ⟨_, rfl, WL.r 1 hs8 [] rfl ?_⟩
  apply WL.gA 3 Acts.nil hs8 rfl
  ·intro g9 J10
   have qg9 := g9
   try simp only [bf, within_iff, within_not] at qg9
   refine WL.runA tbk 2 (Acts.nil.cons (j := 3) rfl g9) hs8 [0] rfl ⟨rfl, trivial⟩ (WL.call (wantT rfl g9) rfl rfl (Run.call Tryz.call149 rfl rfl rfl) (k64_ _ _ ?_) ?_)
   · first | assumption | rfl | omega
   rintro _ whs11 ⟨rfl, hs11⟩
   replace hs11 := hs8.call0 hs11
   refine ⟨_, rfl, WL.eA 3 Acts.nil J10 hs11 g9 rfl rfl⟩
  intro _ hs12
  refine WL.r 1 hs12 [] rfl (WL.pA tbk 3 Acts.nil hs12 [0] rfl rfl rfl rfl (fun g_ => ⟨rfl, trivial⟩) (WL.r 1 hs12 [] rfl (WL.nil (WC.ret (ibR (tkR ?_))))))
  clear hK4
  refine rtv rfl rfl hs12 ?_
  unfold isTurn noName; simp_all
 refine WC.r1 hs3 [] rfl (WC.cq rfl (fun h13 qh13 => ?_) (fun h13 qh13 => ?_))
 ·refine WC.sr (WL.r 2 hs3 [0] rfl (WL.cl Tryz.call149 rfl (k64_ _ _ ?_) ?_))
  · first | assumption | rfl | omega
  rintro _ whs14 ⟨rfl, hs14⟩
  replace hs14 := hs3.call0 hs14
  refine ⟨_, rfl, WL.r 1 hs14 [] rfl (WL.pA tbk 3 Acts.nil hs14 [0] rfl rfl rfl rfl (fun g_ => ⟨rfl, trivial⟩) (WL.r 1 hs14 [] rfl (WL.pA tbk 3 Acts.nil hs14 [0] rfl rfl rfl rfl (fun g_ => ⟨rfl, trivial⟩) (WL.r 1 hs14 [] rfl (WL.nil (WC.ret ?_))))))⟩
  refine ibR (tkR ?_)
  clear hK4
  refine rtv rfl rfl hs14 ?_
  unfold isTurn noName; simp_all
 refine WC.skip (hK4 _ _ (WC.r1 hs3 [] rfl (WC.ret (rtv rfl rfl hs3 ?_))))
 unfold isTurn noName; simp_all
set_option maxHeartbeats 4000000 in
theorem k70_ (d : DiskR) (w : World) (f_d : okDiskR 549755813888 w d) (hb : totDisk d.dat ≤ 1048576) (hx1 : -9223372036854775807 ≤ d.Next) (hx2 : d.Next ≤ 9223372036854775807) :
    Calls Tryz.prog 111 #[.agg #[i64 d.Room, i64 d.Fuse, i64 d.Next, .slice d.Files.A d.Files.n d.Files.c, .slice d.Kept.A d.Kept.n d.Kept.c, .slice d.Turns.A d.Turns.n d.Turns.c]] w fun e w' => e = .returned (.bool (filesOk d.Next d.dat.Files && (decide ((d.Files.n : Int) ≤ 10) && decide (((usedF d.dat.Files : Nat) : Int) ≤ d.Room)))) ∧ St w [] [] w' := by
 have nb_d_Files := f_d.Files_n
 have nl_d_Files := f_d.Files.sl.len
 have nb_d_Kept := f_d.Kept_n
 have nl_d_Kept := f_d.Kept.len
 have nb_d_Turns := f_d.Turns_n
 have nl_d_Turns := f_d.Turns.len
 let w0 := w
 obtain ⟨⟨hb1, hb2, hb3⟩, hb4⟩ := totDisk_facts hb
 have hl1 := f_d.Files.sl.len
 have hl2 := f_d.Kept.len
 have hl3 := f_d.Turns.len
 have hm1 : d.Files.n ≤ 1048576 := by rw [← hl1, ← List.length_map (f := FileR.dat)]; exact hb1
 have hm2 : d.Kept.n ≤ 1048576 := by rw [← hl2]; exact hb2
 have hm3 : d.Turns.n ≤ 1048576 := by rw [← hl3]; exact hb3
 refine enter 57 Tryz.func111 rfl Tryz.ntmps111 rfl rfl ?_
 have hs1 := St.init w
 refine WC.sr (WL.bx hs1 rfl (fun b2 _ hs3 => WL.r 1 hs3 [] rfl (WL.nil (WC.seq (fun K4 hK4 => WC.r1 hs3 [0] rfl (WC.block ?_))))))
 refine WC.lS [1, 6, 7] rfl hs3 (fun k_ f w' => ∃ (i : Nat), k_ = d.Files.n - i ∧ (i ≤ d.Files.n) ∧ (∀ j, j < i → fileOkAt d.Next d.dat.Files j = true) ∧ Sub [(8, .int .i64 i)] f) ((fun (i : Nat) => d.Files.n - i) (0)) ?_ ?_
 ·refine ⟨0, rfl, ?_, ?_, ⟨rfl, trivial⟩⟩
  · exact Nat.zero_le _
  · exact fun j hj => absurd hj (by omega)
 clear hs3
 rintro _ f w ⟨i, rfl, p0, p1, hG⟩ hF hs5
 refine WC.sub _ (hG.app hF) ?_
 clear hG hF
 refine WC.r1 hs5 [] rfl (WC.seq (fun K6 hK6 => ?_))
 refine WC.cq rfl (fun h7 qh7 => ?_) (fun h7 qh7 => ?_)
 ·have hbl := (f_d.Files.all _ (gat_mem (F := encFileR) (xs := d.Files.xs) (k := i) (by omega))).Body.len
  refine WC.skip (hK6 _ _ (WC.seq (fun K8 hK8 => WC.block (WC.sr (WL.r 1 hs5 [] rfl ?_)))))
  refine WL.val rfl rfl rfl (Run.idxN Tryz.runUnderlying30 Tryz.sizeOf123 rfl rfl rfl ?_ ?_ ?_) ?_
  · exact SlF.some_ (SlF.st0 f_d.Files.sl hs5)
  · omega
  · omega
  refine WL.val rfl rfl rfl (Run.loadA Tryz.isAgg123 Tryz.sizeOf123 rfl rfl (SlF.whole (SlF.st0 f_d.Files.sl hs5) ?_)) ?_
  · omega
  refine WL.al hs5 Tryz.zeroValue123 rfl rfl (fun b9 _ hs10 => WL.r 1 hs10 [] rfl (WL.st tbk hs10 0 rfl rfl (fun _ hs11 => WL.nil (WC.sq1 hs11 (WQ.r 5 [0, 1] rfl ?_)))))
  refine WQ.call rfl rfl rfl (fun w_ hs_ => (Run.call Tryz.call61 rfl rfl rfl)) (fun w_ hs_ => (k3_ _ _ _ _).mono fun e_ w_ h_ => ⟨h_.1, (hs_ : St _ _ _ _).call0 h_.2⟩) ?_
  refine WQ.r 2 [] rfl ?_
  apply WQ.gO 14 Acts.nil rfl
  ·intro g12 J13
   have qg12 := g12
   try simp only [bf, within_iff, within_not] at qg12
   refine WQ.runA tbk 3 (Acts.nil.cons (j := 7) rfl g12) [] rfl trivial ?_
   apply WQ.gA 10 (Acts.nil.cons (j := 7) rfl g12) rfl
   ·intro g14 J15
    have qg14 := g14
    try simp only [bf, within_iff, within_not] at qg14
    refine WQ.runA tbk 4 (Acts.nil.cons (j := 10) rfl g14) [1] rfl ⟨by omega, rfl, trivial⟩ ?_
    refine WQ.val (wantT rfl g14) rfl rfl (fun w_ hs_ => (Run.idxK ((i - 1)) Tryz.runUnderlying30 Tryz.sizeOf123 rfl rfl rfl ?_ ?_ ?_)) ?_
    · exact SlF.some_ (SlF.st0 f_d.Files.sl (hs_ : St _ _ _ _))
    · omega
    · omega
    refine WQ.val (wantT rfl g14) rfl rfl (fun w_ hs_ => (Run.fieldO Tryz.runUnderlying123 rfl rfl rfl Tryz.sizeOf3 rfl)) ?_
    refine WQ.val (wantT rfl g14) rfl rfl (fun w_ hs_ => (Run.load Tryz.isAgg3 rfl rfl (SlF.fld (SlF.st0 f_d.Files.sl (hs_ : St _ _ _ _)) ?_ rfl))) ?_
    · omega
    refine WQ.runA tbk 3 (Acts.nil.cons (j := 10) rfl g14) [0] rfl ⟨rfl, trivial⟩ (WQ.eA 10 (Acts.nil.cons (j := 7) rfl g12) J15 g14 rfl rfl)
   exact WQ.eO 4 Acts.nil J13 g12 rfl rfl
  refine WQ.r 1 [] rfl ?_
  apply WQ.gO 7 Acts.nil rfl
  ·intro g16 J17
   have qg16 := g16
   try simp only [bf, within_iff, within_not] at qg16
   refine WQ.runA tbk 5 (Acts.nil.cons (j := 23) rfl g16) [0, 0] rfl ⟨rfl, rfl, trivial⟩ ?_
   refine WQ.call (wantF rfl g16) rfl rfl (fun w_ hs_ => (Run.call Tryz.call61 rfl rfl rfl)) (fun w_ hs_ => (k3_ _ _ _ _).mono fun e_ w_ h_ => ⟨h_.1, (hs_ : St _ _ _ _).call0 h_.2⟩) ?_
   refine WQ.runA tbk 1 (Acts.nil.cons (j := 23) rfl g16) [] rfl trivial (WQ.eO 7 Acts.nil J17 g16 rfl rfl)
  refine WQ.nil (fun _ (hs18 : St _ _ _ _) => ?_)
  refine WC.cq rfl (fun h19 qh19 => ?_) (fun h19 qh19 => ?_)
  ·have hbad : filesOk d.Next d.dat.Files = false := range_no (i := i) (by have h9 : d.dat.Files.length = d.Files.xs.length := List.length_map _; omega) (by rw [fileOk_impl (by omega) hbl, h19]; rfl)
   refine WC.r1 hs18 [] rfl (WC.ret (ibR (tkR (tkR (ibR (tkR ?_))))))
   clear hK8 hK4
   refine rtv rfl rfl hs18 ?_
   rw [hbad]; rfl
  have hgood : fileOkAt d.Next d.dat.Files i = true := by rw [fileOk_impl (by omega) hbl, h19]; rfl
  refine WC.skip (hK8 _ _ (WC.region (WL.r 2 hs18 [] rfl (WL.nil (tkN ?_)))))
  refine ⟨sbF rfl, (hs18.drop (by repeat (first | exact List.Sublist.refl _ | exact List.sublist_append_left _ _ | exact List.Sublist.trans (List.sublist_append_left _ _) (List.sublist_append_left _ _) | apply List.Sublist.cons | refine List.Sublist.trans ?_ (sR _)))), _, ?_, i + 1, rfl, ?_, ?_, ⟨rfl, trivial⟩⟩
  · omega
  · omega
  · intro j hj; rcases Nat.lt_or_ge j i with h_ | h_
    · exact p1 j h_
    · obtain rfl : j = i := by omega
      exact hgood
 have hF : filesOk d.Next d.dat.Files = true := range_all fun j hj => p1 j (by have h9 : d.dat.Files.length = d.Files.xs.length := List.length_map _; omega)
 refine WC.exit (hK4 _ _ (WC.sq1 hs5 (WQ.r 5 [0] rfl ?_)))
 apply WQ.gA 5 Acts.nil rfl
 ·intro g20 J21
  have qg20 := g20
  try simp only [bf, within_iff, within_not] at qg20
  refine WQ.runA tbk 1 (Acts.nil.cons (j := 4) rfl g20) [0] rfl ⟨rfl, trivial⟩ ?_
  refine WQ.call (wantT rfl g20) rfl rfl (fun w_ hs_ => (Run.call Tryz.call152 rfl rfl rfl)) (fun w_ hs_ => (k60_ d _ (okDiskR.st0 f_d (hs_ : St _ _ _ _)) ?_).mono fun e_ w_ h_ => ⟨h_.1, (hs_ : St _ _ _ _).call0 h_.2⟩) ?_
  · first | assumption | rfl | omega
  refine WQ.runA tbk 3 (Acts.nil.cons (j := 4) rfl g20) [0] rfl ⟨rfl, trivial⟩ (WQ.eA 5 Acts.nil J21 g20 rfl rfl)
 refine WQ.r 1 [] rfl (WQ.nil (fun _ (hs22 : St _ _ _ _) => WC.ret (rtv rfl rfl hs22 ?_)))
 rw [hF]; rfl
theorem k71_ (id : Int) (f : FileR) (w : World) :
    Calls Tryz.prog 165 #[i64 id, .agg #[i64 f.Id, .slice f.Body.A f.Body.n f.Body.c, i64 f.Safe]] w fun e w' => e = .returned (.bool (decide (id = f.Id))) ∧ St w [] [] w' := by
 refine enter 9 Tryz.func165 rfl Tryz.ntmps165 rfl rfl ?_
 have hs1 := St.init w
 refine WC.sr (WL.bx hs1 rfl (fun b2 _ hs3 => WL.r 1 hs3 [] rfl (WL.nil (WC.r1 hs3 [0] rfl (WC.ret (rtv rfl rfl hs3 ?_))))))
 rfl
theorem k72_ (A_a : Option Addr) (n_a c_a : Nat) (a : List Int) (A_b : Option Addr) (n_b c_b : Nat) (b : List FileR) (w : World) (f_a : SlF encI w A_a n_a a) (f_b : SlN encFileR (okFileR 549755813888) w A_b n_b b) (hn : n_a ≤ 1048576) :
    Calls Tryz.prog 164 #[.slice A_a n_a c_a, .slice A_b n_b c_b, .func (.func 165) #[] #[]] w fun e w' => e = .returned (.bool (decide (a = b.map (·.Id)))) ∧ St w [] [] w' := by
 have hla := f_a.len
 have hlb := f_b.sl.len
 refine enter 32 Tryz.func164 rfl Tryz.ntmps164 rfl rfl ?_
 have hs1 := St.init w
 refine WC.r1 hs1 [] rfl (WC.seq (fun K2 hK2 => WC.r1 hs1 [] rfl ?_))
 refine WC.cq rfl (fun h3 qh3 => ?_) (fun h3 qh3 => ?_)
 ·have hne : a ≠ b.map (·.Id) := fun h9 => by have h8 := congrArg List.length h9; rw [List.length_map] at h8; have h7 := h3; simp at h7; omega
  refine WC.r1 hs1 [] rfl (WC.ret (tkR ?_))
  clear hK2
  refine rtv rfl rfl hs1 ?_
  rw [decide_eq_false hne]
 have hab : a.length = b.length := by have h7 := h3; simp at h7; omega
 refine WC.skip (hK2 _ _ (WC.seq (fun K4 hK4 => WC.r1 hs1 [] rfl (WC.block ?_))))
 refine WC.lS [1, 2, 14, 15, 16] rfl hs1 (fun k_ f w' => ∃ (i : Nat), k_ = n_a - i ∧ (i ≤ n_a) ∧ (∀ j, j < i → gat encI a j = (gat encFileR b j).Id) ∧ Sub [(17, .int .i64 i)] f) ((fun (i : Nat) => n_a - i) (0)) ?_ ?_
 ·refine ⟨0, rfl, ?_, ?_, ⟨rfl, trivial⟩⟩
  · exact Nat.zero_le _
  · exact fun j hj => absurd hj (by omega)
 clear hs1
 rintro _ f w ⟨i, rfl, p0, p1, hG⟩ hF hs5
 refine WC.sub _ (hG.app hF) ?_
 clear hG hF
 refine WC.r1 hs5 [] rfl (WC.seq (fun K6 hK6 => ?_))
 refine WC.cq rfl (fun h7 qh7 => ?_) (fun h7 qh7 => ?_)
 ·refine WC.skip (hK6 _ _ (WC.seq (fun K8 hK8 => WC.block (WC.sr (WL.r 1 hs5 [] rfl ?_)))))
  refine WL.val rfl rfl rfl (Run.idxN Tryz.runUnderlying64 Tryz.sizeOf3 rfl rfl rfl ?_ ?_ ?_) ?_
  · exact SlF.some_ (SlF.st0 f_a hs5)
  · omega
  · omega
  refine WL.val rfl rfl rfl (Run.load Tryz.isAgg3 rfl rfl (SlF.one1 (SlF.st0 f_a hs5) ?_ rfl)) ?_
  · omega
  refine WL.r 2 hs5 [] rfl (WL.nil (WC.sr (WL.r 2 hs5 [] rfl (WL.val rfl rfl rfl (Run.idxN Tryz.runUnderlying30 Tryz.sizeOf123 rfl rfl rfl ?_ ?_ ?_) ?_))))
  · exact SlF.some_ (SlF.st0 f_b.sl hs5)
  · omega
  · omega
  refine WL.val rfl rfl rfl (Run.loadA Tryz.isAgg123 Tryz.sizeOf123 rfl rfl (SlF.whole (SlF.st0 f_b.sl hs5) ?_)) ?_
  · omega
  refine WL.al hs5 Tryz.zeroValue123 rfl rfl (fun b9 _ hs10 => WL.st tbk hs10 0 rfl rfl (fun _ hs11 => WL.nil (WC.sr (WL.r 3 hs11 [0] rfl (WL.cl Tryz.call165 rfl (k71_ _ _ _) ?_)))))
  rintro _ whs12 ⟨rfl, hs12⟩
  replace hs12 := hs11.call0 hs12
  refine ⟨_, rfl, WL.r 1 hs12 [] rfl (WL.nil (WC.cq rfl (fun h13 qh13 => ?_) (fun h13 qh13 => ?_)))⟩
  ·have hne : a ≠ b.map (·.Id) := fun h9 => by have h8 := ids_at (i := i) h9 (by omega); have h7 := h13; simp at h7; exact h7 h8
   refine WC.r1 hs12 [] rfl (WC.ret (ibR (tkR (tkR (ibR (tkR ?_))))))
   clear hK8 hK4
   refine rtv rfl rfl hs12 ?_
   rw [decide_eq_false hne]
  have hgood : gat encI a i = (gat encFileR b i).Id := by have h7 := h13; simpa using h7
  refine WC.skip (hK8 _ _ (WC.region (WL.r 2 hs12 [] rfl (WL.nil (tkN ?_)))))
  refine ⟨sbF rfl, (hs12.drop (by repeat (first | exact List.Sublist.refl _ | exact List.sublist_append_left _ _ | exact List.Sublist.trans (List.sublist_append_left _ _) (List.sublist_append_left _ _) | apply List.Sublist.cons | refine List.Sublist.trans ?_ (sR _)))), _, ?_, i + 1, rfl, ?_, ?_, ⟨rfl, trivial⟩⟩
  · omega
  · omega
  · intro j hj; rcases Nat.lt_or_ge j i with h_ | h_
    · exact p1 j h_
    · obtain rfl : j = i := by omega
      exact hgood
 have heq : a = b.map (·.Id) := ids_eq hab fun j hj => p1 j (by omega)
 refine WC.exit (hK4 _ _ (WC.r1 hs5 [] rfl (WC.ret (rtv rfl rfl hs5 ?_))))
 rw [decide_eq_true heq]
set_option maxHeartbeats 4000000 in
theorem k73_ (d : DiskR) (w : World) (f_d : okDiskR 549755813888 w d) (hb : totDisk d.dat ≤ 1048576) :
    Calls Tryz.prog 112 #[.agg #[i64 d.Room, i64 d.Fuse, i64 d.Next, .slice d.Files.A d.Files.n d.Files.c, .slice d.Kept.A d.Kept.n d.Kept.c, .slice d.Turns.A d.Turns.n d.Turns.c]] w fun e w' => e = .returned (.bool (linksI d.dat)) ∧ St w [] [] w' := by
 have nb_d_Files := f_d.Files_n
 have nl_d_Files := f_d.Files.sl.len
 have nb_d_Kept := f_d.Kept_n
 have nl_d_Kept := f_d.Kept.len
 have nb_d_Turns := f_d.Turns_n
 have nl_d_Turns := f_d.Turns.len
 let w0 := w
 obtain ⟨⟨hb1, hb2, hb3⟩, hb4⟩ := totDisk_facts hb
 have hl1 := f_d.Files.sl.len
 have hl2 := f_d.Kept.len
 have hl3 := f_d.Turns.len
 have hm1 : d.Files.n ≤ 1048576 := by rw [← hl1, ← List.length_map (f := FileR.dat)]; exact hb1
 have hm2 : d.Kept.n ≤ 1048576 := by rw [← hl2]; exact hb2
 have hm3 : d.Turns.n ≤ 1048576 := by rw [← hl3]; exact hb3
 refine enter 90 Tryz.func112 rfl Tryz.ntmps112 rfl rfl ?_
 have hs1 := St.init w
 refine WC.sr (WL.bx hs1 rfl (fun b2 _ hs3 => WL.r 1 hs3 [] rfl (WL.nil (WC.seq (fun K4 hK4 => WC.sr (WL.r 5 hs3 [0] rfl (WL.pO tbk 4 Acts.nil hs3 [0] rfl rfl rfl rfl (fun g_ => ⟨rfl, trivial⟩) ?_)))))))
 refine WL.nil (WC.cq rfl (fun h5 qh5 => ?_) (fun h5 qh5 => ?_))
 ·have hbad : linksI d.dat = false := linksI_len hl2 hl3 h5
  refine WC.r1 hs3 [] rfl (WC.ret (tkR ?_))
  clear hK4
  refine rtv rfl rfl hs3 ?_
  rw [hbad]
 obtain ⟨hT30, hK10⟩ := linksI_front h5
 refine WC.skip (hK4 _ _ (WC.sr (WL.buildF (F := encI) hs3 ([]) Tryz.runUnderlying64 Tryz.sizeOf3 Tryz.zeroValue3 rfl rfl rfl rfl rfl rfl rfl rfl rfl rfl rfl rfl (fun A9 c10 L6 whs7 hs7 ho8 => ?_))))
 replace hs7 := St.back [_] hs7
 refine WL.r 1 hs7 [] rfl (WL.nil (WC.seq (fun K11 hK11 => WC.r1 hs7 [0] rfl (WC.block ?_))))
 refine WC.lO [1, 19, 22, 23] rfl (hs7.fr L6) (fun k_ f L_ => ∃ (zs : List Int) (i : Nat) (A12 : Option Addr) (c13 : Nat), k_ = d.Kept.n - i ∧ (i ≤ d.Kept.n) ∧ (zs = (d.Kept.xs.take i).map (·.Id)) ∧ (∀ j, j < i → keptOkAt d.Kept.xs j = true) ∧ OwnF encI 3 (.slice A12 (zs.length) c13) (zs) L_ ∧ Sub [(3, .slice A12 (zs.length) c13), (24, .int .i64 i)] f) (((fun (zs : List Int) (i : Nat) => d.Kept.n - i) ([]) (0))) ?_ ?_
 ·refine ⟨[], 0, _, _, rfl, ?_, ?_, ?_, ho8, ⟨rfl, rfl, trivial⟩⟩
  · exact Nat.zero_le _
  · rfl
  · exact fun j hj => absurd hj (by omega)
 clear hs7
 rintro _ f w L14 ⟨zs, i, A12, c13, rfl, p0, p1, p2, ho15, hG⟩ hF hs16
 refine WC.sub _ (hG.app hF) ?_
 clear hG hF
 replace hs16 := St.back [_] hs16
 have hzl : zs.length ≤ d.Kept.n := by rw [p1, List.length_map, List.length_take]; omega
 refine WC.r1 hs16 [] rfl (WC.seq (fun K17 hK17 => ?_))
 refine WC.cq rfl (fun h18 qh18 => ?_) (fun h18 qh18 => ?_)
 ·have hkz : (gat encLink d.Kept.xs i).Name.size ≤ 549755813888 := f_d.Kept_s _ (gat_mem (F := encLink) (xs := d.Kept.xs) (k := i) (by omega))
  refine WC.skip (hK17 _ _ (WC.seq (fun K19 hK19 => WC.block (WC.sr (WL.r 1 hs16 [] rfl ?_)))))
  refine WL.val rfl rfl rfl (Run.idxN Tryz.runUnderlying31 Tryz.sizeOf101 rfl rfl rfl ?_ ?_ ?_) ?_
  · exact SlF.some_ (SlF.st0 f_d.Kept hs16)
  · omega
  · omega
  refine WL.val rfl rfl rfl (Run.loadA Tryz.isAgg101 Tryz.sizeOf101 rfl rfl (SlF.whole (SlF.st0 f_d.Kept hs16) ?_)) ?_
  · omega
  refine WL.al hs16 Tryz.zeroValue101 rfl rfl (fun b20 _ hs21 => WL.r 1 hs21 [] rfl (WL.st tbk hs21 0 rfl rfl (fun _ hs22 => WL.nil (WC.seq (fun K23 hK23 => WC.sq1 hs22 (WQ.r 2 [0] rfl ?_))))))
  refine WQ.call rfl rfl rfl (fun w_ hs_ => (Run.call Tryz.call149 rfl rfl rfl)) (fun w_ hs_ => (k64_ _ _ ?_).mono fun e_ w_ h_ => ⟨h_.1, (hs_ : St _ _ _ _).call0 h_.2⟩) ?_
  · first | assumption | rfl | omega
  refine WQ.r 2 [] rfl ?_
  apply WQ.gO 14 Acts.nil rfl
  ·intro g24 J25
   have qg24 := g24
   try simp only [bf, within_iff, within_not] at qg24
   refine WQ.runA tbk 3 (Acts.nil.cons (j := 4) rfl g24) [] rfl trivial ?_
   apply WQ.gA 10 (Acts.nil.cons (j := 4) rfl g24) rfl
   ·intro g26 J27
    have qg26 := g26
    try simp only [bf, within_iff, within_not] at qg26
    refine WQ.runA tbk 4 (Acts.nil.cons (j := 7) rfl g26) [1] rfl ⟨by omega, rfl, trivial⟩ ?_
    refine WQ.val (wantT rfl g26) rfl rfl (fun w_ hs_ => (Run.idxK ((i - 1)) Tryz.runUnderlying31 Tryz.sizeOf101 rfl rfl rfl ?_ ?_ ?_)) ?_
    · exact SlF.some_ (SlF.st0 f_d.Kept (hs_ : St _ _ _ _))
    · omega
    · omega
    refine WQ.val (wantT rfl g26) rfl rfl (fun w_ hs_ => (Run.fieldO Tryz.runUnderlying101 rfl rfl rfl Tryz.sizeOf9 rfl)) ?_
    refine WQ.val (wantT rfl g26) rfl rfl (fun w_ hs_ => (Run.load Tryz.isAgg9 rfl rfl (SlF.fld (SlF.st0 f_d.Kept (hs_ : St _ _ _ _)) ?_ rfl))) ?_
    · omega
    refine WQ.runA tbk 2 (Acts.nil.cons (j := 7) rfl g26) [0] rfl ⟨rfl, trivial⟩ ?_
    refine WQ.val (wantT rfl g26) rfl rfl (fun w_ hs_ => (Run.geqT rfl rfl rfl)) ?_
    exact WQ.eA 10 (Acts.nil.cons (j := 4) rfl g24) J27 g26 rfl rfl
   exact WQ.eO 4 Acts.nil J25 g24 rfl rfl
  refine WQ.nil (fun _ (hs28 : St _ _ _ _) => ?_)
  refine WC.cq rfl (fun h29 qh29 => ?_) (fun h29 qh29 => ?_)
  ·have hbad : linksI d.dat = false := linksI_kept (range_no (i := i) (by have h9 : d.dat.Kept.length = d.Kept.xs.length := rfl; omega) (by rw [kept_spec]; show (!_) = false; rw [show d.dat.Kept = d.Kept.xs from rfl, h29]; rfl))
   refine WC.r1 hs28 [] rfl (WC.ret (tkR (ibR (tkR (tkR (ibR (tkR ?_)))))))
   clear hK23 hK19 hK11
   refine rtv rfl rfl hs28 ?_
   rw [hbad]
  have hgood : keptOkAt d.Kept.xs i = true := by rw [kept_spec, h29]; rfl
  refine WC.skip (hK23 _ _ (WC.region (WL.r 3 hs28 [0] rfl (WL.buildSlice hs28 Tryz.runUnderlying64 Tryz.sizeOf3 Tryz.zeroValue3 rfl rfl rfl rfl rfl rfl rfl rfl rfl rfl (fun b30 whs31 hs31 => ?_)))))
  refine WL.appendG (hs31.fr L14) ho15 (srcF (F := encI) (ys := [(gat encLink d.Kept.xs i).Id]) Tryz.underlying64 rfl rfl (hs31.own _ (nthL_mem (i := 0) rfl)).1) Tryz.underlying64 inf3 rfl rfl rfl rfl rfl rfl rfl rfl rfl rfl ?_ (fun A35 c36 L32 whs33 hs33 ho34 => ?_)
  · simp; omega
  replace hs33 := St.back [_, _, _] hs33
  refine WL.r 1 hs33 [] rfl (WL.nil (hK19 _ _ (WC.region (WL.r 2 hs33 [] rfl (WL.nil (tkN ?_))))))
  replace hs33 := hs33.d1.d1
  refine ⟨sbF rfl, _, (hs33.fr L32), _, ?_, _, i + 1, _, _, rfl, ?_, ?_, ?_, ho34, ⟨rfl, rfl, trivial⟩⟩
  · omega
  · omega
  · rw [keptI_take (by omega), ← p1]
  · intro j hj; rcases Nat.lt_or_ge j i with h_ | h_
    · exact p2 j h_
    · obtain rfl : j = i := by omega
      exact hgood
 have hK : keptOk d.Kept.xs = true := range_all fun j hj => p2 j (by omega)
 refine WC.exit (hK11 _ _ (WC.r1 hs16 [0] rfl (WC.seq (fun K37 hK37 => WC.r1 hs16 [0] rfl (WC.block ?_)))))
 have hM47 := (St.grp2 (L1 := L14) (L2 := ([] : Hp)) [] ((hs16.fr ([] : Hp)).fr L14))
 refine WC.lV [1, 19, 25, 58, 59] rfl hM47 (fun k_ (a_ : Hp) f => ∃ (ys : List Int) (zs : List LinkD) (i n9 : Nat) (A39 : Option Addr) (c40 : Nat) (L41 : Hp) (A43 : Option Addr) (c44 : Nat) (L45 : Hp), k_ = d.Turns.n - i ∧ a_ = (L41 ++ L45) ∧ (i ≤ d.Turns.n) ∧ (ys = d.Kept.xs.map (·.Id) ++ made (d.Turns.xs.take i)) ∧ (zs = turnsL d.Kept.xs (d.Turns.xs.take i)) ∧ (runI d.Kept.xs (d.Turns.xs.take i) = true) ∧ OwnF encI 3 (.slice A39 (ys).length c40) (ys) L41 ∧ AnyF w0 encLink 101 (.slice A43 (n9) c44) (zs) L45 ∧ Sub [(3, .slice A39 (ys).length c40), (6, .slice A43 (n9) c44), (60, .int .i64 i)] f) (d.Turns.n) ?_ ?_
 ·refine ⟨zs, d.Kept.xs, 0, d.Kept.n, A12, c13, L14, _, _, ([] : Hp), rfl, rfl, ?_, ?_, ?_, ?_, ho15, (AnyF.rdo f_d.Kept), ⟨rfl, rfl, rfl, trivial⟩⟩
  · exact Nat.zero_le _
  · rw [p1, List.take_of_length_le (by omega)]; simp [made]
  · rfl
  · rfl
 rintro _ _ f w ⟨ys, zs, i, n9, A39, c40, L41, A43, c44, L45, rfl, rfl, r0, r1, r2, r3, ho42, ho46, hG⟩ hF hs48
 refine WC.sub _ (hG.app hF) ?_
 clear hG hF
 replace hs48 := St.ungrp2 [] hs48
 have hs49 := (hs48.fb b2)
 have hzl : zs.length = n9 := AnyF.cap ho46
 have hzn : zs.length ≤ 41 := by rw [r2]; have h9 := turnsL_len (dir := d.Kept.xs) (l := (d.Turns.xs.take i)); rw [List.length_take] at h9; omega
 have hyl : ys.length ≤ 41 := by rw [r1, List.length_append, List.length_map]; have h9 := made_len (d.Turns.xs.take i); rw [List.length_take] at h9; omega
 have hsz : sortedL zs := by rw [r2]; exact sorted_turns (kept_sorted hK) r3
 have hzz : ∀ x, x ∈ zs → smLink 549755813888 x := by rw [r2]; exact sm_turns f_d.Kept_s fun t ht => f_d.Turns_s t (List.mem_of_mem_take ht)
 refine WC.r1 hs49 [] rfl (WC.seq (fun K50 hK50 => ?_))
 refine WC.cq rfl (fun h51 qh51 => ?_) (fun h51 qh51 => ?_)
 ·obtain ⟨htz1, htz2⟩ := f_d.Turns_s _ (gat_mem (F := encTurn) (xs := d.Turns.xs) (k := i) (by omega))
  refine WC.skip (hK50 _ _ (WC.seq (fun K52 hK52 => WC.block (WC.sr ?_))))
  refine WL.val rfl rfl rfl (Run.idxN Tryz.runUnderlying32 Tryz.sizeOf137 rfl rfl rfl ?_ ?_ ?_) ?_
  · exact SlF.some_ (SlF.st0 f_d.Turns hs49)
  · omega
  · omega
  refine WL.val rfl rfl rfl (Run.loadA Tryz.isAgg137 Tryz.sizeOf137 rfl rfl (SlF.whole (SlF.st0 f_d.Turns hs49) ?_)) ?_
  · omega
  refine WL.al hs49 Tryz.zeroValue137 rfl rfl (fun b53 _ hs54 => WL.st tbk hs54 0 rfl rfl (fun _ hs55 => WL.nil (WC.seq (fun K56 hK56 => WC.sr (WL.r 1 hs55 [0] rfl ?_)))))
  refine WL.cl Tryz.call162 rfl (k69_ _ _ _ _ _ ?_ ?_) ?_
  iterate 2 first | assumption | rfl | omega
  rintro _ whs57 ⟨rfl, hs57⟩
  replace hs57 := hs55.call0 hs57
  refine ⟨_, rfl, WL.r 1 hs57 [] rfl (WL.nil (WC.cq rfl (fun h58 qh58 => ?_) (fun h58 qh58 => ?_)))⟩
  ·have hbad : linksI d.dat = false := linksI_run (runI_bad (dir := d.Kept.xs) (l := d.Turns.xs) (i := i) (by omega) (by rw [show isTurn (gat encTurn d.Turns.xs i) = false from by have h9 := h58; simpa using h9]; rfl))
   refine WC.r1 hs57 [] rfl (WC.ret (tkR (ibR (tkR (tkR (ibR (tkR ?_)))))))
   clear hK56 hK52 hK37
   refine rtv rfl rfl hs57 ?_
   rw [hbad]
  have hgood : isTurn (gat encTurn d.Turns.xs i) = true := by have h9 := h58; simpa using h9
  refine WC.skip (hK56 _ _ (WC.seq (fun K59 hK59 => WC.sr (WL.r 2 hs57 [0] rfl ?_))))
  refine WL.cl Tryz.call140 rfl (k54_ _ _ _ _ _ _ _ _ _ (AnyF.rd ho46 hs57 (hs57.ow L45)) ?_ ?_ ?_ ?_) ?_
  iterate 4 first | assumption | rfl | omega
  rintro _ whs60 ⟨A61, c62, xs63, L1_64, rfl, hs60, ho65, hx66⟩
  replace hs60 := hs57.callF hs60
  refine ⟨_, rfl, ?_⟩
  replace hs60 := St.back [_, _] hs60
  have hxx9 := hx66
  refine WL.r 5 hs60 [] rfl (WL.nil (WC.r1 hs60 [] rfl (WC.cq rfl (fun h67 qh67 => ?_) (fun h67 qh67 => ?_))))
  ·have hbad : linksI d.dat = false := linksI_run (runI_bad (dir := d.Kept.xs) (l := d.Turns.xs) (i := i) (by omega) (by rw [← r2, show appOk zs (gat encTurn d.Turns.xs i) = false from by have h9 := h67; simpa using h9, Bool.and_false]))
   refine WC.r1 hs60 [] rfl (WC.ret (tkR (ibR (tkR (tkR (ibR (tkR ?_)))))))
   clear hK59 hK52 hK37
   refine rtv rfl rfl hs60 ?_
   rw [hbad]
  have hapk : appOk zs (gat encTurn d.Turns.xs i) = true := by have h9 := h67; simpa using h9
  have hxx := hxx9 hapk
  refine WC.skip (hK59 _ _ (WC.r1 hs60 [0] rfl ?_))
  refine WC.cq rfl (fun h68 qh68 => ?_) (fun h68 qh68 => ?_)
  ·refine WC.region (WL.r 3 hs60 [0] rfl (WL.buildSlice hs60 Tryz.runUnderlying64 Tryz.sizeOf3 Tryz.zeroValue3 rfl rfl rfl rfl rfl rfl rfl rfl rfl rfl (fun b69 whs70 hs70 => ?_)))
   refine WL.appendG (hs70.fr L41) ho42 (srcF (F := encI) (ys := [(gat encTurn d.Turns.xs i).Id]) Tryz.underlying64 rfl rfl (hs70.own _ (nthL_mem (i := 0) rfl)).1) Tryz.underlying64 inf3 rfl rfl rfl rfl rfl rfl rfl rfl rfl rfl ?_ (fun A74 c75 L71 whs72 hs72 ho73 => ?_)
   · simp; omega
   replace hs72 := St.back [_, _, _] hs72
   refine WL.r 1 hs72 [] rfl (WL.nil (hK52 _ _ (WC.region (WL.r 2 hs72 [] rfl (WL.nil (tkN ?_))))))
   replace hs72 := (hs72.d1.d1.rm L45)
   have hF76 := (St.grp2 (L1 := L71) (L2 := L1_64) [] ((hs72.fr L1_64).fr L71))
   refine ⟨sbF rfl, _, hF76, _, ?_, _, _, i + 1, _, A74, c75, L71, A61, c62, L1_64, rfl, rfl, ?_, ?_, ?_, ?_, ho73, (AnyF.of ho65), ⟨rfl, rfl, rfl, trivial⟩⟩
   · omega
   · omega
   · rw [r1, made_take (by omega)]; first | (rw [if_pos (by simpa using h68)]; simp; done) | (rw [if_neg (by simpa using h68)]; simp; done)
   · rw [turnsL_take (by omega), ← r2]; exact hxx
   · exact runI_take (by omega) r3 hgood (by rw [← r2]; exact hapk)
  refine WC.skip (hK52 _ _ (WC.region (WL.r 2 hs60 [] rfl (WL.nil (tkN ?_)))))
  replace hs60 := (hs60.d1.rm L45)
  have hF77 := (St.grp2 (L1 := L41) (L2 := L1_64) [] ((hs60.fr L1_64).fr L41))
  refine ⟨sbF rfl, _, hF77, _, ?_, _, _, i + 1, _, A39, c40, L41, A61, c62, L1_64, rfl, rfl, ?_, ?_, ?_, ?_, ho42, (AnyF.of ho65), ⟨rfl, rfl, rfl, trivial⟩⟩
  · omega
  · omega
  · rw [r1, made_take (by omega)]; first | (rw [if_pos (by simpa using h68)]; simp; done) | (rw [if_neg (by simpa using h68)]; simp; done)
  · rw [turnsL_take (by omega), ← r2]; exact hxx
  · exact runI_take (by omega) r3 hgood (by rw [← r2]; exact hapk)
 have hR : runI d.Kept.xs d.Turns.xs = true := by rw [List.take_of_length_le (by omega)] at r3; exact r3
 have hys : ys = idsD d.dat := by rw [r1, List.take_of_length_le (by omega)]; rfl
 refine WC.exit (hK37 _ _ (WC.sr (WL.r 1 hs49 [] rfl ?_)))
 refine WL.cl Tryz.call163 rfl (k0_ _ _ _ _ ho42 (hs49.ow L41) ?_) ?_
 · first | omega | assumption
 rintro _ whs78 ⟨L1_79, rfl, hs78, ho80⟩
 replace hs78 := St.lend (hs49.fr L41) hs78
 refine ⟨_, rfl, ?_⟩
 replace hs78 := St.back [_] hs78
 refine WL.nil (WC.sr (WL.r 3 hs78 [0] rfl (WL.cl Tryz.call164 rfl (k72_ _ _ _ _ _ _ _ _ _ (SlF.ofOwn ho80 (hs78.ow L1_79)) (SlN.st0 okFileR.st0 f_d.Files hs78) ?_) ?_)))
 · first | assumption | rfl | omega
 rintro _ whs81 ⟨rfl, hs81⟩
 replace hs81 := hs78.call0 hs81
 refine ⟨_, rfl, WL.r 1 hs81 [] rfl (WL.nil (WC.ret (rtv rfl rfl hs81 ?_)))⟩
 rw [linksI_all hT30 hK10 hl2 hl3 hK hR, hys]
theorem k74_ (d : DiskR) (w : World) (f_d : okDiskR 549755813888 w d) (hb : totDisk d.dat ≤ 1048576) :
    Calls Tryz.prog 56 #[.agg #[i64 d.Room, i64 d.Fuse, i64 d.Next, .slice d.Files.A d.Files.n d.Files.c, .slice d.Kept.A d.Kept.n d.Kept.c, .slice d.Turns.A d.Turns.n d.Turns.c]] w fun e w' => e = .returned (.bool (diskOk d.dat)) ∧ St w [] [] w' := by
 have nb_d_Files := f_d.Files_n
 have nl_d_Files := f_d.Files.sl.len
 have nb_d_Kept := f_d.Kept_n
 have nl_d_Kept := f_d.Kept.len
 have nb_d_Turns := f_d.Turns_n
 have nl_d_Turns := f_d.Turns.len
 let w0 := w
 obtain ⟨⟨hb1, hb2, hb3⟩, hb4⟩ := totDisk_facts hb
 have hl1 := f_d.Files.sl.len
 have hl2 := f_d.Kept.len
 have hl3 := f_d.Turns.len
 have hm1 : d.Files.n ≤ 1048576 := by rw [← hl1, ← List.length_map (f := FileR.dat)]; exact hb1
 have hm2 : d.Kept.n ≤ 1048576 := by rw [← hl2]; exact hb2
 have hm3 : d.Turns.n ≤ 1048576 := by rw [← hl3]; exact hb3
 refine enter 24 Tryz.func56 rfl Tryz.ntmps56 rfl rfl ?_
 have hs1 := St.init w
 refine WC.sr (WL.bx hs1 rfl (fun b2 _ hs3 => WL.r 1 hs3 [] rfl (WL.nil (WC.sr (WL.r 2 hs3 [0] rfl (WL.cl Tryz.call61 rfl (k3_ _ _ _ _) ?_))))))
 rintro _ whs4 ⟨rfl, hs4⟩
 replace hs4 := hs3.call0 hs4
 refine ⟨_, rfl, WL.r 1 hs4 [] rfl ?_⟩
 apply WL.gA 3 Acts.nil hs4 rfl
 ·intro g5 J6
  have qg5 := g5
  try simp only [bf, within_iff, within_not] at qg5
  refine WL.runA tbk 2 (Acts.nil.cons (j := 3) rfl g5) hs4 [0] rfl ⟨rfl, trivial⟩ (WL.call (wantT rfl g5) rfl rfl (Run.call Tryz.call61 rfl rfl rfl) (k3_ _ _ _ _) ?_)
  rintro _ whs7 ⟨rfl, hs7⟩
  replace hs7 := hs4.call0 hs7
  refine ⟨_, rfl, WL.eA 3 Acts.nil J6 hs7 g5 rfl rfl⟩
 intro _ hs8
 refine WL.r 1 hs8 [] rfl ?_
 apply WL.gA 3 Acts.nil hs8 rfl
 ·intro g9 J10
  have qg9 := g9
  try simp only [bf, within_iff, within_not] at qg9
  refine WL.runA tbk 2 (Acts.nil.cons (j := 8) rfl g9) hs8 [0] rfl ⟨rfl, trivial⟩ (WL.call (wantT rfl g9) rfl rfl (Run.call Tryz.call61 rfl rfl rfl) (k3_ _ _ _ _) ?_)
  rintro _ whs11 ⟨rfl, hs11⟩
  replace hs11 := hs8.call0 hs11
  refine ⟨_, rfl, WL.eA 3 Acts.nil J10 hs11 g9 rfl rfl⟩
 intro _ hs12
 refine WL.r 1 hs12 [] rfl ?_
 apply WL.gA 2 Acts.nil hs12 rfl
 ·intro g13 J14
  have qg13 := g13
  try simp only [bf, within_iff, within_not] at qg13
  refine WL.runA tbk 1 (Acts.nil.cons (j := 13) rfl g13) hs12 [0] rfl ⟨rfl, trivial⟩ (WL.call (wantT rfl g13) rfl rfl (Run.call Tryz.call111 rfl rfl rfl) (k70_ d _ (okDiskR.st0 f_d hs12) ?_ ?_ ?_) ?_)
  iterate 3 first | assumption | rfl | omega
  rintro _ whs15 ⟨rfl, hs15⟩
  replace hs15 := hs12.call0 hs15
  refine ⟨_, rfl, WL.eA 2 Acts.nil J14 hs15 g13 rfl rfl⟩
 intro _ hs16
 refine WL.r 1 hs16 [] rfl ?_
 apply WL.gA 2 Acts.nil hs16 rfl
 ·intro g17 J18
  have qg17 := g17
  try simp only [bf, within_iff, within_not] at qg17
  refine WL.runA tbk 1 (Acts.nil.cons (j := 17) rfl g17) hs16 [0] rfl ⟨rfl, trivial⟩ (WL.call (wantT rfl g17) rfl rfl (Run.call Tryz.call112 rfl rfl rfl) (k73_ d _ (okDiskR.st0 f_d hs16) ?_) ?_)
  · first | assumption | rfl | omega
  rintro _ whs19 ⟨rfl, hs19⟩
  replace hs19 := hs16.call0 hs19
  refine ⟨_, rfl, WL.eA 2 Acts.nil J18 hs19 g17 rfl rfl⟩
 intro _ hs20
 refine WL.r 1 hs20 [] rfl (WL.nil (WC.ret (rtv rfl rfl hs20 ?_)))
 rw [← disk_impl hl1 hl2 hl3]
end Go.Proofs.YtcpnlodkmkfplaaGreatDoor
