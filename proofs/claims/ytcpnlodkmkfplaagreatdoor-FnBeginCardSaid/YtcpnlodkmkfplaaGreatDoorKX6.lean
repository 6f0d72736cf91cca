/-
  What the proof stands on, part 6.
-/
import Derived.Test.YtcpnlodkmkfplaaGreatDoorKX5
namespace Go.Proofs.YtcpnlodkmkfplaaGreatDoor
open Go Go.RowKit
set_option linter.unusedVariables false
set_option linter.unusedSimpArgs false
open Go.Shelf
open Go.RowKit in
open Go.RowKit in
open Go.RowKit in
open Go.RowKit in
open Go.RowKit in
open Go.RowKit in
open Go.Lib in
open Go.Lib in
open Go.Lib in
open Go.Lib in
open Go.RowKit Go.Sort Go.Lib in
open Go.RowKit Go.Sort Go.Lib in
open Go.RowKit Go.Sort Go.Lib in
open Go.RowKit Go.Sort Go.Lib in
open Go.RowKit Go.Sort Go.Lib in
open Go.RowKit Go.Sort Go.Lib in
open Go.RowKit Go.Sort Go.Lib in
open Go.RowKit in
open Go.RowKit in
open Go.RowKit in
open Go.RowKit in
open Go.RowKit in
open Go.RowKit in
open Go.RowKit in
open Go.RowKit in
open Go.RowKit in
open Go.RowKit in
open Go.RowKit in
open Go.RowKit in
open Go.RowKit in
open Go.RowKit in
open Go.RowKit in
open Go.RowKit in
def Tryz.laysC172_ren : Go.Shelf.Ren := ⟨fun | 172 => 183 | 244 => 206 | 245 => 207 | 247 => 225 | 279 => 226 | 280 => 227 | 281 => 228 | 282 => 229 | 287 => 239 | 316 => 240 | 171 => 154 | 205 => 241 | 321 => 245 | 322 => 246 | 243 => 178 | 246 => 193 | 283 => 212 | 284 => 213 | 285 => 214 | 286 => 215 | 129 => 204 | 317 => 233 | 318 => 234 | 319 => 235 | 320 => 236 | 337 => 243 | 338 => 244 | n => n, fun | 9 => 9 | 3 => 3 | 75 => 199 | 76 => 200 | 4 => 4 | 5 => 5 | 167 => 233 | 37 => 43 | 0 => 0 | 85 => 234 | 2 => 2 | 168 => 236 | 53 => 219 | 175 => 247 | 46 => 176 | 210 => 251 | 127 => 255 | 145 => 258 | 143 => 256 | 21 => 21 | 171 => 222 | 173 => 224 | 212 => 240 | 51 => 194 | 20 => 20 | 213 => 241 | 232 => 259 | 233 => 260 | 80 => 261 | n => n, fun | 15 => 2 | 16 => 3 | 17 => 1 | 18 => 4 | 19 => 5 | n => n⟩
theorem Tryz.laysC172 : Go.Proofs.LaysC.n172 Tryz.prog Tryz.laysC172_ren := {
  mixed := by kernel_rfl
  f129 := Tryz.func204.trans (congrArg some (by kernel_rfl))
  f171 := Tryz.func154.trans (congrArg some (by kernel_rfl))
  f172 := Tryz.func183.trans (congrArg some (by kernel_rfl))
  f205 := Tryz.func241.trans (congrArg some (by kernel_rfl))
  f243 := Tryz.func178.trans (congrArg some (by kernel_rfl))
  f244 := Tryz.func206.trans (congrArg some (by kernel_rfl))
  f245 := Tryz.func207.trans (congrArg some (by kernel_rfl))
  f246 := Tryz.func193.trans (congrArg some (by kernel_rfl))
  f247 := Tryz.func225.trans (congrArg some (by kernel_rfl))
  f279 := Tryz.func226.trans (congrArg some (by kernel_rfl))
  f280 := Tryz.func227.trans (congrArg some (by kernel_rfl))
  f281 := Tryz.func228.trans (congrArg some (by kernel_rfl))
  f282 := Tryz.func229.trans (congrArg some (by kernel_rfl))
  f283 := Tryz.func212.trans (congrArg some (by kernel_rfl))
  f284 := Tryz.func213.trans (congrArg some (by kernel_rfl))
  f285 := Tryz.func214.trans (congrArg some (by kernel_rfl))
  f286 := Tryz.func215.trans (congrArg some (by kernel_rfl))
  f287 := Tryz.func239.trans (congrArg some (by kernel_rfl))
  f316 := Tryz.func240.trans (congrArg some (by kernel_rfl))
  f317 := Tryz.func233.trans (congrArg some (by kernel_rfl))
  f318 := Tryz.func234.trans (congrArg some (by kernel_rfl))
  f319 := Tryz.func235.trans (congrArg some (by kernel_rfl))
  f320 := Tryz.func236.trans (congrArg some (by kernel_rfl))
  f321 := Tryz.func245.trans (congrArg some (by kernel_rfl))
  f322 := Tryz.func246.trans (congrArg some (by kernel_rfl))
  f337 := Tryz.func243.trans (congrArg some (by kernel_rfl))
  f338 := Tryz.func244.trans (congrArg some (by kernel_rfl))
  t0 := Tryz.underlying0
  a0 := Tryz.isAgg0
  z0 := Tryz.sizeOf0
  v0 := Tryz.zeroValue0
  t2 := Tryz.underlying2
  a2 := Tryz.isAgg2
  z2 := Tryz.sizeOf2
  v2 := Tryz.zeroValue2
  t3 := Tryz.underlying3
  a3 := Tryz.isAgg3
  z3 := Tryz.sizeOf3
  v3 := Tryz.zeroValue3
  t4 := Tryz.underlying4
  a4 := Tryz.isAgg4
  z4 := Tryz.sizeOf4
  v4 := Tryz.zeroValue4
  t5 := Tryz.underlying5
  a5 := Tryz.isAgg5
  z5 := Tryz.sizeOf5
  v5 := Tryz.zeroValue5
  t9 := Tryz.underlying9
  a9 := Tryz.isAgg9
  z9 := Tryz.sizeOf9
  v9 := Tryz.zeroValue9
  t20 := Tryz.underlying20
  a20 := Tryz.isAgg20
  z20 := Tryz.sizeOf20
  v20 := Tryz.zeroValue20
  t21 := Tryz.underlying21
  a21 := Tryz.isAgg21
  z21 := Tryz.sizeOf21
  v21 := Tryz.zeroValue21
  t37 := Tryz.underlying43
  a37 := Tryz.isAgg43
  z37 := Tryz.sizeOf43
  v37 := Tryz.zeroValue43
  t46 := Tryz.underlying176
  a46 := Tryz.isAgg176
  z46 := Tryz.sizeOf176
  v46 := Tryz.zeroValue176
  t51 := Tryz.underlying194
  a51 := Tryz.isAgg194
  z51 := Tryz.sizeOf194
  v51 := Tryz.zeroValue194
  t53 := Tryz.underlying219
  a53 := Tryz.isAgg219
  z53 := Tryz.sizeOf219
  v53 := Tryz.zeroValue219
  t75 := Tryz.underlying199
  a75 := Tryz.isAgg199
  z75 := Tryz.sizeOf199
  v75 := Tryz.zeroValue199
  t76 := Tryz.underlying200
  a76 := Tryz.isAgg200
  z76 := Tryz.sizeOf200
  v76 := Tryz.zeroValue200
  t85 := Tryz.underlying234
  a85 := Tryz.isAgg234
  z85 := Tryz.sizeOf234
  v85 := Tryz.zeroValue234
  t127 := Tryz.underlying255
  a127 := Tryz.isAgg255
  z127 := Tryz.sizeOf255
  v127 := Tryz.zeroValue255
  t143 := Tryz.underlying256
  a143 := Tryz.isAgg256
  z143 := Tryz.sizeOf256
  v143 := Tryz.zeroValue256
  t145 := Tryz.underlying258
  a145 := Tryz.isAgg258
  z145 := Tryz.sizeOf258
  v145 := Tryz.zeroValue258
  t167 := Tryz.underlying233
  a167 := Tryz.isAgg233
  z167 := Tryz.sizeOf233
  v167 := Tryz.zeroValue233
  t168 := Tryz.underlying236
  a168 := Tryz.isAgg236
  z168 := Tryz.sizeOf236
  v168 := Tryz.zeroValue236
  t171 := Tryz.underlying222
  a171 := Tryz.isAgg222
  z171 := Tryz.sizeOf222
  v171 := Tryz.zeroValue222
  t173 := Tryz.underlying224
  a173 := Tryz.isAgg224
  z173 := Tryz.sizeOf224
  v173 := Tryz.zeroValue224
  t175 := Tryz.underlying247
  a175 := Tryz.isAgg247
  z175 := Tryz.sizeOf247
  v175 := Tryz.zeroValue247
  t210 := Tryz.underlying251
  a210 := Tryz.isAgg251
  z210 := Tryz.sizeOf251
  v210 := Tryz.zeroValue251
  t212 := Tryz.underlying240
  a212 := Tryz.isAgg240
  z212 := Tryz.sizeOf240
  v212 := Tryz.zeroValue240
  t213 := Tryz.underlying241
  a213 := Tryz.isAgg241
  z213 := Tryz.sizeOf241
  t232 := Tryz.underlying259
  a232 := Tryz.isAgg259
  z232 := Tryz.sizeOf259
  v232 := Tryz.zeroValue259
  t233 := Tryz.underlying260
  a233 := Tryz.isAgg260
  z233 := Tryz.sizeOf260
  v233 := Tryz.zeroValue260
  g15 := by kernel_rfl
  g16 := by kernel_rfl
  g17 := by kernel_rfl
  g18 := by kernel_rfl
  g19 := by kernel_rfl
  t80 := Tryz.underlying261
  a80 := Tryz.isAgg261
  z80 := Tryz.sizeOf261
  v80 := Tryz.zeroValue261
  i0 := by kernel_rfl
  i2 := by kernel_rfl
  i3 := by kernel_rfl
  i4 := by kernel_rfl
  i5 := by kernel_rfl
  i9 := by kernel_rfl
  i20 := by kernel_rfl
  i21 := by kernel_rfl
  i37 := by kernel_rfl
  i46 := by kernel_rfl
  i51 := by kernel_rfl
  i53 := by kernel_rfl
  i75 := by kernel_rfl
  i76 := by kernel_rfl
  i80 := by kernel_rfl
  i85 := by kernel_rfl
  i127 := by kernel_rfl
  i143 := by kernel_rfl
  i145 := by kernel_rfl
  i167 := by kernel_rfl
  i168 := by kernel_rfl
  i171 := by kernel_rfl
  i173 := by kernel_rfl
  i175 := by kernel_rfl
  i210 := by kernel_rfl
  i212 := by kernel_rfl
  i232 := by kernel_rfl
  i233 := by kernel_rfl
  m15 := by kernel_rfl
  m16 := by kernel_rfl
  m17 := by kernel_rfl
  m18 := by kernel_rfl
  m19 := by kernel_rfl
  c0 := by kernel_rfl
  c2 := by kernel_rfl
  c3 := by kernel_rfl
  c4 := by kernel_rfl
  c5 := by kernel_rfl
  c9 := by kernel_rfl
  c20 := by kernel_rfl
  c21 := by kernel_rfl
  c37 := by kernel_rfl
  c46 := by kernel_rfl
  c51 := by kernel_rfl
  c53 := by kernel_rfl
  c75 := by kernel_rfl
  c76 := by kernel_rfl
  c80 := by kernel_rfl
  c85 := by kernel_rfl
  c127 := by kernel_rfl
  c143 := by kernel_rfl
  c145 := by kernel_rfl
  c167 := by kernel_rfl
  c168 := by kernel_rfl
  c171 := by kernel_rfl
  c173 := by kernel_rfl
  c175 := by kernel_rfl
  c210 := by kernel_rfl
  c212 := by kernel_rfl
  c213 := by kernel_rfl
  c232 := by kernel_rfl
  c233 := by kernel_rfl }
open Go.RowKit in
theorem Tryz.strconv_Atoi_ok (s : ByteArray) (hmax : s.size ≤ 9223372036854775806) (v : Int) (h : Lib.atoiAll s.data.toList = .ok v) (w : World) :
    Calls Tryz.prog 183 #[.string s] w fun e w' => e = .returned (.tuple #[.int .i64 v, .nilIface]) ∧ (w' = w ∨ ∃ t, w' = Lib.bytesWorld w 5 t) := Any.strconv_Atoi_ok Tryz.laysC172 s hmax v h w
open Go.RowKit in
theorem Tryz.strconv_Atoi_syntax (s : ByteArray) (hlim : s.size ≤ 281474976710656) (h : Lib.atoiAll s.data.toList = Lib.NumEnd.syntax) (ev : Value) (w : World) (hv : w.cell? ⟨2, 0, none⟩ = some ev) (hev : ev = .nilIface ∨ ∃ te pe, ev = .iface te pe) :
    Calls Tryz.prog 183 #[.string s] w fun e w' => ∃ N, e = .returned (.tuple #[.int .i64 (0), .iface 236 (.pointer (some ⟨N, 0, none⟩))]) ∧ w.heap.size ≤ N ∧ w'.heap[N]? = some (.cells #[.string ⟨#[65, 116, 111, 105]⟩, .string s, ev] 251 (0, 0)) ∧ Below w.heap.size w w' := Any.strconv_Atoi_syntax Tryz.laysC172 s hlim h ev w hv hev
open Go.RowKit in
open Go.RowKit in
open Go.RowKit in
open Go.RowKit in
open Go.RowKit in
open Go.RowKit in
open Go.RowKit Go.Lib in
open Go.RowKit Go.Lib in
open Go.RowKit Go.Lib in
open Go.RowKit Go.Lib in
open Go.RowKit Go.Lib in
open Go.RowKit Go.Lib in
open Go.RowKit Go.Lib in
def Tryz.lays145_ren : Go.Shelf.Ren := ⟨fun | 145 => 166 | 220 => 182 | 219 => 205 | 217 => 211 | 225 => 222 | 224 => 223 | 267 => 224 | 266 => 232 | 314 => 238 | n => n, fun | 9 => 9 | 4 => 4 | 59 => 185 | 3 => 3 | 5 => 5 | 46 => 176 | 146 => 245 | 51 => 194 | n => n, fun | 1 => 0 | n => n⟩
theorem Tryz.lays145 : Go.Proofs.Lays.n145 Tryz.prog Tryz.lays145_ren := {
  mixed := by kernel_rfl
  f145 := Tryz.func166.trans (congrArg some (by kernel_rfl))
  f217 := Tryz.func211.trans (congrArg some (by kernel_rfl))
  f219 := Tryz.func205.trans (congrArg some (by kernel_rfl))
  f220 := Tryz.func182.trans (congrArg some (by kernel_rfl))
  f224 := Tryz.func223.trans (congrArg some (by kernel_rfl))
  f225 := Tryz.func222.trans (congrArg some (by kernel_rfl))
  f266 := Tryz.func232.trans (congrArg some (by kernel_rfl))
  f267 := Tryz.func224.trans (congrArg some (by kernel_rfl))
  f314 := Tryz.func238.trans (congrArg some (by kernel_rfl))
  t3 := Tryz.underlying3
  a3 := Tryz.isAgg3
  z3 := Tryz.sizeOf3
  v3 := Tryz.zeroValue3
  t4 := Tryz.underlying4
  a4 := Tryz.isAgg4
  z4 := Tryz.sizeOf4
  v4 := Tryz.zeroValue4
  t5 := Tryz.underlying5
  a5 := Tryz.isAgg5
  z5 := Tryz.sizeOf5
  v5 := Tryz.zeroValue5
  t9 := Tryz.underlying9
  a9 := Tryz.isAgg9
  z9 := Tryz.sizeOf9
  v9 := Tryz.zeroValue9
  t46 := Tryz.underlying176
  a46 := Tryz.isAgg176
  z46 := Tryz.sizeOf176
  v46 := Tryz.zeroValue176
  t51 := Tryz.underlying194
  a51 := Tryz.isAgg194
  z51 := Tryz.sizeOf194
  v51 := Tryz.zeroValue194
  t59 := Tryz.underlying185
  a59 := Tryz.isAgg185
  z59 := Tryz.sizeOf185
  v59 := Tryz.zeroValue185
  t146 := Tryz.underlying245
  a146 := Tryz.isAgg245
  z146 := Tryz.sizeOf245
  v146 := Tryz.zeroValue245
  g1 := by kernel_rfl }
open Go.RowKit Go.Lib in
theorem Tryz.strings_Cut (s sep : ByteArray) (m : Int) (w : World) (hs : s.size < 4294967281) (hm : w.cell? ⟨0, 0, none⟩ = some (.int .i64 m)) :
    Calls Tryz.prog 166 #[.string s, .string sep] w fun e w' => e = .returned (.tuple #[.string ⟨(Lib.cut s.data.toList sep.data.toList).1.toArray⟩, .string ⟨(Lib.cut s.data.toList sep.data.toList).2.1.toArray⟩, .bool (Lib.cut s.data.toList sep.data.toList).2.2]) ∧ ∃ n, w' = w.drewN n := Any.strings_Cut Tryz.lays145 s sep m w hs hm
open Go.RowKit Go.Lib in
open Go.RowKit Go.Lib in
open Go.RowKit Go.Lib in
open Go.Sort Go.RowKit in
open Go.RowKit Go.Lib in
open Go.RowKit Go.Lib in
open Go.RowKit Go.Lib in
open Go.RowKit Go.Lib in
open Go.RowKit Go.Sort in
open Go Go.RowKit
def LibOk (w : World) : Prop := TabOk w ∧ (∃ m, w.cell? ⟨0, 0, none⟩ = some (.int .i64 m)) ∧ ∃ ev, w.cell? ⟨2, 0, none⟩ = some ev ∧ (ev = .nilIface ∨ ∃ te pe, ev = .iface te pe)
def far (D : List Nat) : Prop := ∀ k, k ∈ D → 3 ≤ k
theorem lib_size {w : World} (h : LibOk w) : 3 ≤ w.heap.size := by
  obtain ⟨_, _, ev, h, _⟩ := h
  have := cell?_lt h
  exact this
theorem tab_lent {w w' : World} {D : List Nat} {L : Hp} (h : TabOk w) (hs : St w D L w') (hd : far D) : TabOk w' := by
  have hgn : Tryz.prog.globalNamed "internal/strconv.uint64pow10" = some 1 := by kernel_rfl
  unfold TabOk Go.Lib.TabIs World.var? at h ⊢
  rw [hgn] at h ⊢
  simp only [Option.bind_some] at h ⊢
  have hlt : 1 < w.heap.size := by
    rcases Nat.lt_or_ge 1 w.heap.size with h' | h'
    · exact h'
    · rw [Array.getElem?_eq_none h'] at h; cases h
  rw [hs.keep 1 hlt (fun hm => absurd (hd 1 hm) (by decide))]
  exact h
theorem cell_lent {w w' : World} {D : List Nat} {L : Hp} {b : Nat} {v : Value} (hb : b < 3) (h : w.cell? ⟨b, 0, none⟩ = some v) (hs : St w D L w') (hd : far D) : w'.cell? ⟨b, 0, none⟩ = some v := by
  have hlt : b < w.heap.size := cell?_lt h
  have e : w'.heap[b]? = w.heap[b]? := hs.keep b hlt (fun hm => absurd (hd b hm) (by omega))
  unfold World.cell? at h ⊢
  simp only [e]
  exact h
theorem lib_lent {w w' : World} {D : List Nat} {L : Hp} (h : LibOk w) (hs : St w D L w') (hd : far D) : LibOk w' := by
  obtain ⟨h1, ⟨m, h2⟩, ev, h3, h4⟩ := h
  exact ⟨tab_lent h1 hs hd, ⟨m, cell_lent (by decide) h2 hs hd⟩, ev, cell_lent (by decide) h3 hs hd, h4⟩
theorem far_nil : far [] := fun _ h => absurd h List.not_mem_nil
theorem lib_st {w w' : World} {L : Hp} (h : LibOk w) (hs : St w [] L w') : LibOk w' := lib_lent h hs far_nil
theorem lib_tab {w w' : World} {L : Hp} (h : LibOk w) (hs : St w [] L w') : TabOk w' := (lib_st h hs).1
theorem far_of {w w' : World} {L : Hp} (h : LibOk w) (hs : St w [] L w') {D : List Nat} (hd : ∀ k, k ∈ D → k ∈ L.map (·.1)) : far D := by
  intro k hk
  obtain ⟨p, hp, rfl⟩ := List.mem_map.1 (hd k hk)
  have := lib_size h
  rcases (hs.own p hp).2 with h | h
  · omega
  · exact absurd h List.not_mem_nil
def cutHd (s : ByteArray) : ByteArray := ⟨(Go.Lib.cut s.data.toList [46]).1.toArray⟩
def cutIs (s : ByteArray) : Bool := (Go.Lib.cut s.data.toList [46]).2.2
theorem k111_ (s : ByteArray) (w : World) (hl9 : LibOk w) (hz : s.size ≤ 16) : Calls Tryz.prog 166 #[.string s, .string ⟨#[46]⟩] w fun e w' => e = .returned (.tuple #[.string (cutHd s), .string (cutT s), .bool (cutIs s)]) ∧ St w [] [] w' := by
  obtain ⟨_, ⟨m, hm⟩, _⟩ := hl9
  refine (Tryz.strings_Cut s ⟨#[46]⟩ m w (by omega) hm).mono ?_
  rintro e w' ⟨rfl, n, rfl⟩
  exact ⟨rfl, rfl, rfl, rfl, Nat.le_refl _, fun _ _ _ => rfl, (fun _ h => by cases h), List.nodup_nil⟩
def atoOk (s : ByteArray) : Bool := match Go.Lib.atoiAll s.data.toList with | .ok _ => true | _ => false
def atoV (s : ByteArray) : Int := match Go.Lib.atoiAll s.data.toList with | .ok v => v | _ => 0
theorem cut_size (s : ByteArray) : (cutT s).size ≤ s.size := by
  unfold cutT Go.Lib.cut
  rw [Go.Lib.size_eq, Go.Lib.size_eq]
  split
  · simp
  · simp
theorem k112_ (s : ByteArray) (w : World) (hl9 : LibOk w) (hz : s.size ≤ 16) : Calls Tryz.prog 183 #[.string s] w fun e w' => ∃ N, e = .returned (.tuple #[.int .i64 (atoV s), errOf 236 N (atoOk s)]) ∧ St w [] [] w' := by
  obtain ⟨_, _, ev, h1, h2⟩ := hl9
  have hsh : s.data.toList.length ≤ 18 := by rw [← Go.Lib.size_eq]; omega
  cases h : Go.Lib.atoiAll s.data.toList with
  | ok v =>
    refine (Tryz.strconv_Atoi_ok s (by omega) v h w).mono ?_
    rintro e w' ⟨rfl, hw⟩
    refine ⟨0, ?_, ?_⟩
    · unfold atoV atoOk; rw [h]; rfl
    · rcases hw with rfl | ⟨t, rfl⟩
      · exact St.init _
      · exact St.ofBelow (Go.Lib.bytesWorld_below w _ t)
  | range =>
    rw [Go.Lib.atoiAll_short _ hsh] at h
    revert h
    cases Go.Lib.atoi s.data.toList <;> (intro h; cases h)
  | _ =>
    refine (Tryz.strconv_Atoi_syntax s (by omega) h ev w h1 h2).mono ?_
    rintro e w' ⟨N, rfl, _, _, hb⟩
    refine ⟨N, ?_, St.ofBelow hb⟩
    unfold atoV atoOk; rw [h]; rfl
theorem ato_yes {s : ByteArray} (h : (!atoOk s || !decide (numBA (atoV s) = s)) = false) : textOk s = true ∧ textV s = atoV s := by
  rw [Bool.or_eq_false_iff, Bool.not_eq_false', Bool.not_eq_false', decide_eq_true_eq] at h
  obtain ⟨h1, h2⟩ := h
  cases h3 : Go.Lib.atoiAll s.data.toList with
  | ok v =>
    have e : atoV s = v := by unfold atoV; rw [h3]
    rw [e] at h2 ⊢
    exact atoi_text h3 h2
  | _ => unfold atoOk at h1; rw [h3] at h1; cases h1
theorem ato_no {s : ByteArray} (h : (!atoOk s || !decide (numBA (atoV s) = s)) = true) : textOk s = false := by
  refine atoi_text_n fun v h1 h2 => ?_
  have e : atoV s = v := by unfold atoV; rw [h1]
  have e2 : atoOk s = true := by unfold atoOk; rw [h1]
  rw [e, e2, decide_eq_true h2] at h
  cases h
theorem k113_ (s : ByteArray) (w : World) (hl9 : LibOk w) (hz : s.size ≤ 16) :
    Calls Tryz.prog 167 #[.string s] w fun e w' => e = .returned (.tuple #[.int .i64 (textV s), .bool (textOk s)]) ∧ St w [] [] w' := by
 refine enter 20 Tryz.func167 rfl Tryz.ntmps167 rfl rfl ?_
 have hs1 := St.init w
 refine WC.r1 hs1 [] rfl (WC.sr (WL.r 1 hs1 [] rfl (WL.cl Tryz.call183 rfl (k112_ _ _ ?_ ?_) ?_)))
 iterate 2 first | assumption | omega | exact lib_st hl9 (by assumption) | exact lib_tab hl9 (by assumption)
 rintro _ whs2 ⟨N3, rfl, hs2⟩
 replace hs2 := hs1.callF hs2
 refine ⟨_, rfl, ?_⟩
 rw [List.nil_append] at hs2
 refine WL.r 5 hs2 [] rfl (WL.nil (WC.seq (fun K4 hK4 => WC.sr (WL.r 1 hs2 [] rfl (WL.val rfl rfl rfl (Run.neqI Tryz.underlying199 rfl rfl) (WL.r 1 hs2 [] rfl ?_))))))
 apply WL.gO 4 Acts.nil hs2 rfl
 ·intro g5 J6
  have qg5 := g5
  try simp only [bf, within_iff, within_not] at qg5
  refine WL.runA tbk 1 (Acts.nil.cons (j := 2) rfl g5) hs2 [] rfl trivial (WL.call (wantF rfl g5) rfl rfl (Run.call Tryz.call91 rfl rfl rfl) (k10_ _ _ ?_) ?_)
  · first | assumption | rfl | omega | exact lib_st hl9 (by assumption) | exact lib_tab hl9 (by assumption)
  rintro _ whs7 ⟨rfl, hs7⟩
  replace hs7 := hs2.call0 hs7
  refine ⟨_, rfl, WL.runA tbk 2 (Acts.nil.cons (j := 2) rfl g5) hs7 [] rfl trivial (WL.eO 4 Acts.nil J6 hs7 g5 rfl rfl)⟩
 intro _ hs8
 refine WL.nil (WC.cq rfl (fun h9 qh9 => ?_) (fun h9 qh9 => ?_))
 ·have hk := ato_no (s := s) h9
  refine WC.r1 hs8 [] rfl (WC.ret (tkR ?_))
  clear hK4
  refine retV2 rfl (resV.tmp rfl) (resV.tmp rfl) (⟨congrArg Ending.returned ?_, hs8.nil⟩)
  rw [hk, textV_n hk]
 obtain ⟨hk, hv⟩ := ato_yes (s := s) h9
 refine WC.skip (hK4 _ _ (WC.r1 hs8 [] rfl (WC.ret (retV2 rfl (resV.tmp rfl) (resV.tmp rfl) (⟨congrArg Ending.returned ?_, hs8.nil⟩)))))
 rw [hk, hv]
theorem k114_ (name : ByteArray) (w : World) (hl9 : LibOk w) (hz : name.size ≤ 16) :
    Calls Tryz.prog 114 #[.string name] w fun e w' => e = .returned (.tuple #[.int .i64 (genV name), .bool (genOk name)]) ∧ St w [] [] w' := by
 have hcz := cut_size name
 refine enter 40 Tryz.func114 rfl Tryz.ntmps114 rfl rfl ?_
 have hs1 := St.init w
 refine WC.r1 hs1 [] rfl (WC.sr (WL.r 1 hs1 [] rfl (WL.cl Tryz.call166 rfl (k111_ _ _ ?_ ?_) ?_)))
 iterate 2 first | assumption | omega | exact lib_st hl9 (by assumption) | exact lib_tab hl9 (by assumption)
 rintro _ whs2 ⟨rfl, hs2⟩
 replace hs2 := hs1.call0 hs2
 refine ⟨_, rfl, WL.r 7 hs2 [] rfl (WL.nil (WC.sr (WL.r 1 hs2 [] rfl (WL.cl Tryz.call167 rfl (k113_ _ _ ?_ ?_) ?_))))⟩
 iterate 2 first | assumption | rfl | omega | exact lib_st hl9 (by assumption) | exact lib_tab hl9 (by assumption)
 rintro _ whs3 ⟨rfl, hs3⟩
 replace hs3 := hs2.call0 hs3
 refine ⟨_, rfl, WL.r 5 hs3 [] rfl (WL.nil (WC.seq (fun K4 hK4 => WC.sr (WL.r 3 hs3 [] rfl ?_))))⟩
 apply WL.gO 3 Acts.nil hs3 rfl
 ·intro g5 J6
  have qg5 := g5
  try simp only [bf, within_iff, within_not] at qg5
  refine WL.runA tbk 1 (Acts.nil.cons (j := 2) rfl g5) hs3 [] rfl trivial (WL.call (wantF rfl g5) rfl rfl (Run.call Tryz.call60 rfl rfl rfl) (k13_ _ _) ?_)
  rintro _ whs7 ⟨rfl, hs7⟩
  replace hs7 := hs3.call0 hs7
  refine ⟨_, rfl, WL.runA tbk 1 (Acts.nil.cons (j := 2) rfl g5) hs7 [] rfl trivial (WL.eO 3 Acts.nil J6 hs7 g5 rfl rfl)⟩
 intro _ hs8
 refine WL.r 1 hs8 [] rfl ?_
 apply WL.gO 10 Acts.nil hs8 rfl
 ·intro g9 J10
  have qg9 := g9
  try simp only [bf, within_iff, within_not] at qg9
  refine WL.runA tbk 2 (Acts.nil.cons (j := 7) rfl g9) hs8 [] rfl trivial (WL.call (wantF rfl g9) rfl rfl (Run.call Tryz.call115 rfl rfl rfl) (k15_ _ _ ?_) ?_)
  · first | assumption | rfl | omega | exact lib_st hl9 (by assumption) | exact lib_tab hl9 (by assumption)
  rintro _ whs11 ⟨rfl, hs11⟩
  replace hs11 := hs8.call0 hs11
  refine ⟨_, rfl, WL.runA tbk 2 (Acts.nil.cons (j := 7) rfl g9) hs11 [] rfl trivial ?_⟩
  apply WL.gA 4 (Acts.nil.cons (j := 7) rfl g9) hs11 rfl
  ·intro g12 J13
   have qg12 := g12
   try simp only [bf, within_iff, within_not] at qg12
   refine WL.runA tbk 2 (Acts.nil.cons (j := 12) rfl g12) hs11 [] rfl trivial (WL.call (wantT rfl g12) rfl rfl (Run.call Tryz.call44 rfl rfl rfl) (k14_ _ _ ?_) ?_)
   · first | assumption | rfl | omega | exact lib_st hl9 (by assumption) | exact lib_tab hl9 (by assumption)
   rintro _ whs14 ⟨rfl, hs14⟩
   replace hs14 := hs11.call0 hs14
   refine ⟨_, rfl, WL.runA tbk 1 (Acts.nil.cons (j := 12) rfl g12) hs14 [] rfl trivial (WL.eA 4 (Acts.nil.cons (j := 7) rfl g9) J13 hs14 g12 rfl rfl)⟩
  intro _ hs15
  exact WL.eO 6 Acts.nil J10 hs15 g9 rfl rfl
 intro _ hs16
 refine WL.nil (WC.cq rfl (fun h17 qh17 => ?_) (fun h17 qh17 => ?_))
 ·have hk : genOk name = false := by unfold genOk genB; have h9 := h17; revert h9; unfold snapName logName; cases textOk (cutT name) <;> cases isGenB (textV (cutT name)) <;> cases decide (name = genName snapP (textV (cutT name))) <;> cases decide (name = genName logP (textV (cutT name))) <;> decide
  refine WC.r1 hs16 [] rfl (WC.ret (tkR ?_))
  clear hK4
  refine retV2 rfl (resV.tmp rfl) (resV.tmp rfl) (⟨congrArg Ending.returned ?_, hs16.nil⟩)
  rw [hk]; unfold genV; rw [hk]; rfl
 have hk : genOk name = true := by unfold genOk genB; have h9 := h17; revert h9; unfold snapName logName; cases textOk (cutT name) <;> cases isGenB (textV (cutT name)) <;> cases decide (name = genName snapP (textV (cutT name))) <;> cases decide (name = genName logP (textV (cutT name))) <;> decide
 refine WC.skip (hK4 _ _ (WC.r1 hs16 [] rfl (WC.ret (retV2 rfl (resV.tmp rfl) (resV.tmp rfl) (⟨congrArg Ending.returned ?_, hs16.nil⟩)))))
 rw [hk]; unfold genV; rw [hk]; rfl
theorem k115_ (s : ByteArray) (w : World) (hz : s.size ≤ 16) :
    Calls Tryz.prog 124 #[.string s] w fun e w' => e = .returned (.tuple #[.int .i64 (textV s), .bool (textOk s)]) ∧ St w [] [] w' := by
 refine enter 43 Tryz.func124 rfl Tryz.ntmps124 rfl rfl ?_
 have hs1 := St.init w
 refine WC.r1 hs1 [] rfl (WC.seq (fun K2 hK2 => WC.sr (WL.r 4 hs1 [] rfl (WL.pO tbk 3 Acts.nil hs1 [] rfl rfl rfl rfl (fun g_ => trivial) (WL.nil ?_)))))
 refine WC.cq rfl (fun h3 qh3 => ?_) (fun h3 qh3 => ?_)
 ·have hk : textOk s = false := by unfold textOk; have h9 := h3; rw [(within_not (n := (s.size : Int)) (lo := 1) (hi := 10)).2 (by simp at h9; omega)]; rfl
  refine WC.r1 hs1 [] rfl (WC.ret (tkR ?_))
  clear hK2
  refine retV2 rfl (resV.tmp rfl) (resV.tmp rfl) (⟨congrArg Ending.returned ?_, hs1.nil⟩)
  rw [hk, textV_n hk]
 have hw : 1 ≤ s.size ∧ s.size ≤ 10 := by have h9 := h3; simp at h9; omega
 refine WC.skip (hK2 _ _ (WC.r1 hs1 [] rfl (WC.seq (fun K4 hK4 => WC.r1 hs1 [] rfl (WC.block ?_)))))
 refine WC.lS [0, 13] rfl hs1 (fun k_ f w' => ∃ (i : Nat), k_ = s.size - i ∧ (i ≤ s.size) ∧ ((s.data.toList.take i).all dgB = true) ∧ Sub [(5, .int .i64 i), (4, .int .i64 (decL (s.data.toList.take i) : Nat))] f) ((fun (i : Nat) => s.size - i) (0)) ?_ ?_
 ·refine ⟨0, rfl, ?_, ?_, ⟨rfl, ?_, trivial⟩⟩
  · exact Nat.zero_le _
  · rfl
  · rfl
 clear hs1
 rintro _ f w ⟨i, rfl, p0, p1, hG⟩ hF hs5
 refine WC.sub _ (hG.app hF) ?_
 clear hG hF
 have hdl : decL (s.data.toList.take i) < 10000000000 := decL_small p1 (by rw [List.length_take]; omega)
 refine WC.seq (fun K6 hK6 => WC.r1 hs5 [] rfl ?_)
 refine WC.cq rfl (fun h7 qh7 => ?_) (fun h7 qh7 => ?_)
 ·refine WC.skip (hK6 _ _ (WC.seq (fun K8 hK8 => WC.block (WC.seq (fun K9 hK9 => WC.sr (WL.r 2 hs5 [] rfl ?_))))))
  refine WL.val rfl rfl rfl (Run.idxStrN Tryz.runUnderlying9 rfl rfl rfl ?_ ?_) ?_
  · omega
  · omega
  refine WL.r 2 hs5 [] rfl ?_
  apply WL.gO 4 Acts.nil hs5 rfl
  ·intro g10 J11
   have qg10 := g10
   try simp only [bf, within_iff, within_not] at qg10
   refine WL.runA tbk 2 (Acts.nil.cons (j := 4) rfl g10) hs5 [] rfl trivial (WL.val (wantF rfl g10) rfl rfl (Run.idxStrN Tryz.runUnderlying9 rfl rfl rfl ?_ ?_) ?_)
   · omega
   · omega
   refine WL.runA tbk 1 (Acts.nil.cons (j := 4) rfl g10) hs5 [] rfl trivial (WL.eO 4 Acts.nil J11 hs5 g10 rfl rfl)
  intro _ hs12
  refine WL.nil (WC.cq rfl (fun h13 qh13 => ?_) (fun h13 qh13 => ?_))
  ·have hk : textOk s = false := by
     have hdg : dgB (sbyte s i) = false := dgB_no (by have h9 := h13; simpa using h9)
     unfold textOk; rw [all_no (by omega) hdg, Bool.and_false]; rfl
   refine WC.r1 hs12 [] rfl (WC.ret (tkR (ibR (tkR (tkR (ibR (tkR ?_)))))))
   clear hK9 hK8 hK4
   refine retV2 rfl (resV.tmp rfl) (resV.tmp rfl) (⟨congrArg Ending.returned ?_, hs12.nil⟩)
   rw [hk, textV_n hk]
  have hdg : dgB (sbyte s i) = true := dgB_yes (by have h9 := h13; simpa using h9)
  have hdi := dgB_iff.1 hdg
  have hwr : IntKind.u8.wrap (((sbyte s i).toNat : Int) - 48) = ((sbyte s i).toNat : Int) - 48 := by simp [IntKind.wrap, IntKind.bits, IntKind.signed]; omega
  refine WC.skip (hK9 _ _ (WC.region (WL.r 4 hs12 [] rfl ?_)))
  refine WL.val rfl rfl rfl (Run.idxStrN Tryz.runUnderlying9 rfl rfl rfl ?_ ?_) ?_
  · omega
  · omega
  refine WL.val rfl rfl rfl (Run.subW rfl rfl rfl) (WL.r 3 hs12 [] rfl (WL.nil (hK8 _ _ (WC.region (WL.r 3 hs12 [] rfl (WL.nil (tkN ?_)))))))
  refine ⟨sbF rfl, hs12, _, ?_, i + 1, rfl, ?_, ?_, ⟨rfl, ?_, trivial⟩⟩
  · omega
  · omega
  · rw [all_take (by omega), p1, hdg]; rfl
  · (rw [decL_take (by omega)]; refine congrArg some (congrArg (Value.int _) ?_); have h9 := (dgB_iff.1 hdg); omega)
 refine WC.exit (hK4 _ _ (WC.seq (fun K14 hK14 => WC.sr (WL.r 1 hs5 [] rfl (WL.cl Tryz.call148 rfl (k12_ _ _) ?_)))))
 rintro _ whs15 ⟨rfl, hs15⟩
 replace hs15 := hs5.call0 hs15
 refine ⟨_, rfl, WL.r 2 hs15 [] rfl (WL.nil (WC.cq rfl (fun h16 qh16 => ?_) (fun h16 qh16 => ?_)))⟩
 ·have hi : s.data.toList.take i = s.data.toList := List.take_of_length_le (by rw [← Go.Lib.size_eq]; omega)
  have hk : textOk s = false := by unfold textOk; have h9 := h16; rw [hi] at h9; rw [decide_eq_false (show ¬ numBA (decL s.data.toList : Nat) = s from by simpa using h9), Bool.and_false]
  refine WC.r1 hs15 [] rfl (WC.ret (tkR ?_))
  clear hK14
  refine retV2 rfl (resV.tmp rfl) (resV.tmp rfl) (⟨congrArg Ending.returned ?_, hs15.nil⟩)
  rw [hk, textV_n hk]
 have hi : s.data.toList.take i = s.data.toList := List.take_of_length_le (by rw [← Go.Lib.size_eq]; omega)
 have hk : textOk s = true := by unfold textOk; have h9 := h16; rw [hi] at h9 p1; rw [p1, (within_iff (n := (s.size : Int)) (lo := 1) (hi := 10)).2 (by omega), decide_eq_true (show numBA (decL s.data.toList : Nat) = s from by simpa using h9)]; rfl
 refine WC.skip (hK14 _ _ (WC.r1 hs15 [] rfl (WC.ret (retV2 rfl (resV.tmp rfl) (resV.tmp rfl) (⟨congrArg Ending.returned ?_, hs15.nil⟩)))))
 rw [hk, hi]; unfold textV; rw [hk]; rfl
theorem k116_ (name : ByteArray) (w : World) (hz : name.size ≤ 16) :
    Calls Tryz.prog 70 #[.string name] w fun e w' => e = .returned (.tuple #[.int .i64 (genV name), .bool (genOk name)]) ∧ St w [] [] w' := by
 refine enter 40 Tryz.func70 rfl Tryz.ntmps70 rfl rfl ?_
 have hs1 := St.init w
 refine WC.r1 hs1 [] rfl (WC.seq (fun K2 hK2 => WC.r1 hs1 [] rfl (WC.block ?_)))
 refine WC.lS [0] rfl hs1 (fun k_ f w' => ∃ (i : Nat), k_ = name.size - i ∧ (i ≤ name.size) ∧ (∀ j, j < i → sbyte name j = 46 → genB name (name.extract (j + 1) name.size) = false) ∧ Sub [(4, .int .i64 i)] f) ((fun (i : Nat) => name.size - i) (0)) ?_ ?_
 ·refine ⟨0, rfl, ?_, ?_, ⟨rfl, trivial⟩⟩
  · exact Nat.zero_le _
  · exact fun j hj => absurd hj (by omega)
 clear hs1
 rintro _ f w ⟨i, rfl, p0, p1, hG⟩ hF hs3
 refine WC.sub _ (hG.app hF) ?_
 clear hG hF
 refine WC.seq (fun K4 hK4 => WC.r1 hs3 [] rfl ?_)
 refine WC.cq rfl (fun h5 qh5 => ?_) (fun h5 qh5 => ?_)
 ·refine WC.skip (hK4 _ _ (WC.seq (fun K6 hK6 => WC.block (WC.sr (WL.r 2 hs3 [] rfl ?_)))))
  refine WL.val rfl rfl rfl (Run.idxStrN Tryz.runUnderlying9 rfl rfl rfl ?_ ?_) ?_
  · omega
  · omega
  refine WL.r 1 hs3 [] rfl (WL.nil (WC.cq rfl (fun h7 qh7 => ?_) (fun h7 qh7 => ?_)))
  ·refine WC.sr (WL.r 3 hs3 [] rfl (WL.val rfl rfl rfl (Run.sliceStrL (i + 1) Tryz.runUnderlying9 rfl rfl rfl rfl ?_) ?_))
   · omega
   refine WL.cl Tryz.call124 rfl (k115_ _ _ ?_) ?_
   · first | assumption | rfl | omega | (rw [Go.Lib.size_eq, extract_data, List.length_drop, ← Go.Lib.size_eq]; omega)
   rintro _ whs8 ⟨rfl, hs8⟩
   replace hs8 := hs3.call0 hs8
   refine ⟨_, rfl, WL.r 5 hs8 [] rfl (WL.nil (WC.sr (WL.r 3 hs8 [] rfl ?_)))⟩
   apply WL.gA 10 Acts.nil hs8 rfl
   ·intro g9 J10
    have qg9 := g9
    try simp only [bf, within_iff, within_not] at qg9
    refine WL.runA tbk 1 (Acts.nil.cons (j := 2) rfl g9) hs8 [] rfl trivial (WL.call (wantT rfl g9) rfl rfl (Run.call Tryz.call68 rfl rfl rfl) (k18_ _ _) ?_)
    rintro _ whs11 ⟨rfl, hs11⟩
    replace hs11 := hs8.call0 hs11
    refine ⟨_, rfl, WL.runA tbk 3 (Acts.nil.cons (j := 2) rfl g9) hs11 [] rfl trivial ?_⟩
    apply WL.gO 4 (Acts.nil.cons (j := 2) rfl g9) hs11 rfl
    ·intro g12 J13
     have qg12 := g12
     try simp only [bf, within_iff, within_not] at qg12
     refine WL.runA tbk 1 (Acts.nil.cons (j := 7) rfl g12) hs11 [] rfl trivial (WL.call (wantF rfl g12) rfl rfl (Run.call Tryz.call41 rfl rfl rfl) (k17_ _ _) ?_)
     rintro _ whs14 ⟨rfl, hs14⟩
     replace hs14 := hs11.call0 hs14
     refine ⟨_, rfl, WL.runA tbk 2 (Acts.nil.cons (j := 7) rfl g12) hs14 [] rfl trivial (WL.eO 4 (Acts.nil.cons (j := 2) rfl g9) J13 hs14 g12 rfl rfl)⟩
    intro _ hs15
    exact WL.eA 6 Acts.nil J10 hs15 g9 rfl rfl
   intro _ hs16
   refine WL.nil (WC.cq rfl (fun h17 qh17 => ?_) (fun h17 qh17 => ?_))
   ·have hg := gen_cond_yes (s := name) (t := (name.extract (i + 1) name.size)) (by omega) (by have h9 := h17; unfold snapName logName; simpa using h9)
    obtain ⟨_, hk, hv⟩ := genB_cut hg
    refine WC.r1 hs16 [] rfl (WC.ret (ibR (tkR (tkR (ibR (tkR ?_))))))
    clear hK6 hK2
    refine retV2 rfl (resV.tmp rfl) (resV.tmp rfl) (⟨congrArg Ending.returned ?_, hs16.nil⟩)
    rw [hk, hv]
   have hno : sbyte name i = 46 → genB name (name.extract (i + 1) name.size) = false := fun _ => gen_cond_no (by have h9 := h17; unfold snapName logName; simpa using h9)
   refine WC.skip (hK6 _ _ (WC.region (WL.r 3 hs16 [] rfl (WL.nil (tkN ?_)))))
   refine ⟨sbF rfl, hs16, _, ?_, i + 1, rfl, ?_, ?_, ⟨rfl, trivial⟩⟩
   · omega
   · omega
   · exact step_no p1 hno
  have hno : sbyte name i = 46 → genB name (name.extract (i + 1) name.size) = false := fun h8 => by have h9 := h7; rw [h8] at h9; simp at h9
  refine WC.skip (hK6 _ _ (WC.region (WL.r 3 hs3 [] rfl (WL.nil (tkN ?_)))))
  refine ⟨sbF rfl, hs3, _, ?_, i + 1, rfl, ?_, ?_, ⟨rfl, trivial⟩⟩
  · omega
  · omega
  · exact step_no p1 hno
 refine WC.exit (hK2 _ _ (WC.r1 hs3 [] rfl (WC.ret (retV2 rfl (resV.tmp rfl) (resV.tmp rfl) (⟨congrArg Ending.returned ?_, hs3.nil⟩)))))
 have hk : genOk name = false := gen_none (fun j hj => p1 j (by omega)); rw [hk]; unfold genV; rw [hk]; rfl
theorem k117_ (b_s : Nat) (s : starterR) (L_s : Hp) (g1 : Int) (A_data : Option Addr) (n_data c_data : Nat) (data : List UInt8) (w : World) (hb_s : w.heap[b_s]? = some (Obj.cells (List.toArray [i64 s.depot.Disk.Room, i64 s.depot.Disk.Fuse, i64 s.depot.Disk.Next, .slice s.depot.Disk.Files.A s.depot.Disk.Files.n s.depot.Disk.Files.c, .slice s.depot.Disk.Kept.A s.depot.Disk.Kept.n s.depot.Disk.Kept.c, .slice s.depot.Disk.Turns.A s.depot.Disk.Turns.n s.depot.Disk.Turns.c, i64 s.depot.Gen, i64 s.depot.Seq, i64 s.depot.Size, .bool s.depot.Stuck, i64 s.code]) 109 (0, 0))) (o_s : ownstarterR s L_s) (h_s : Hh w L_s) (f_data : SlF encB w A_data n_data data) (hcd : n_data ≤ c_data) (hd_ : (b_s :: L_s.map (·.1)).Nodup) (s_data : 0 < n_data → (adr A_data).block ∉ (b_s :: L_s.map (·.1))) (hb : totDisk s.dat.depot.Disk ≤ 1048576) (hk : diskOk s.dat.depot.Disk = true) (hl9 : LibOk w) (hfar : far (b_s :: L_s.map (·.1))) (hgn : isGenB g1 = true) (hn : n_data ≤ 400000) :
    Calls Tryz.prog 76 #[.pointer (some ⟨b_s, 0, none⟩), i64 g1, .slice A_data n_data c_data] w fun e w' => ∃ r L1, e = .returned (.tuple #[]) ∧ St w (b_s :: L_s.map (·.1)) ([(b_s, Obj.cells (List.toArray [i64 r.depot.Disk.Room, i64 r.depot.Disk.Fuse, i64 r.depot.Disk.Next, .slice r.depot.Disk.Files.A r.depot.Disk.Files.n r.depot.Disk.Files.c, .slice r.depot.Disk.Kept.A r.depot.Disk.Kept.n r.depot.Disk.Kept.c, .slice r.depot.Disk.Turns.A r.depot.Disk.Turns.n r.depot.Disk.Turns.c, i64 r.depot.Gen, i64 r.depot.Seq, i64 r.depot.Size, .bool r.depot.Stuck, i64 r.code]) 109 (0, 0))] ++ L1) w' ∧ ownstarterR r L1 ∧ r.dat = setS s.dat (tailS (fillS (stp (gone (gone (stp (sd s.dat) opY) tempP) (logName g1)) opY) data) g1) := by
 have hsm := start_sm hb
 have hln9 := f_data.len
 have hdl : data.length ≤ 400000 := by omega
 have hlz := logName_size g1
 have hsz := snapName_size g1
 refine enter 63 Tryz.func76 rfl Tryz.ntmps76 rfl rfl ?_
 have hs1 := St.takeP w b_s _ L_s hb_s h_s hd_
 refine WC.sr (WL.r 1 hs1 [] rfl ?_)
 have hF2 := ((hs1.fr L_s).fb b_s)
 refine WL.cl Tryz.call130 rfl (k109_ _ s _ _ (St.headP hF2) o_s (St.ownP hF2) (St.nodupP hF2) ?_) ?_
 · first | assumption | rfl | omega | decide | exact hb | exact hbr | exact hqr | exact (lib_lent hl9 (by assumption) hfar).1 | exact lib_lent hl9 (by assumption) hfar | exact Nat.le_trans hlz (by decide) | exact Nat.le_trans hsz (by decide) | exact Nat.le_trans hz9 (by decide) | exact hz9 | exact Nat.zero_le _
 rintro _ whs3 ⟨r4, L5, rfl, hs3, ho6, hd7⟩
 replace hs3 := St.lendP hF2 hs3
 refine ⟨_, rfl, ?_⟩
 have hS1 : starterR.dat r4 = setS s.dat (stp (sd s.dat) opY) := hd7.trans (congrArg (a₂ := setS s.dat (sd s.dat)) (fun q => setS q (stp (sd q) opY)) (by exact rfl))
 have hk1 : diskOk (stp (sd s.dat) opY).1 = true := stp_ok hk opY_ok
 have hb1 : totDisk (starterR.dat r4).depot.Disk ≤ 1048576 := by rw [hS1]; exact ok_tot hk1
 have hq1 : diskOk (starterR.dat r4).depot.Disk = true := by rw [hS1]; exact hk1
 refine WL.nil (WC.sr (WL.r 1 hs3 [] rfl ?_))
 have hF8 := ((hs3.fr L5).fb b_s)
 refine WL.cl Tryz.call131 rfl (k108_ _ r4 _ _ _ (St.headP hF8) ho6 (St.ownP hF8) (St.nodupP hF8) ?_ ?_ ?_) ?_
 iterate 3 first | assumption | rfl | omega | decide | exact hb1 | exact hq1 | exact hbr | exact hqr | exact (lib_lent hl9 (by assumption) hfar).1 | exact lib_lent hl9 (by assumption) hfar | exact Nat.le_trans hlz (by decide) | exact Nat.le_trans hsz (by decide) | exact Nat.le_trans hz9 (by decide) | exact hz9 | exact Nat.zero_le _
 rintro _ whs9 ⟨r10, L11, rfl, hs9, ho12, hd13⟩
 replace hs9 := St.lendP hF8 hs9
 refine ⟨_, rfl, ?_⟩
 have hS2 : starterR.dat r10 = setS s.dat (gone (stp (sd s.dat) opY) tempP) := hd13.trans (congrArg (a₂ := setS s.dat (stp (sd s.dat) opY)) (fun q => setS q (gone (sd q) tempP)) (by exact hS1))
 have hk2 : diskOk (gone (stp (sd s.dat) opY) tempP).1 = true := gone_ok hk1 temp_ok
 have hb2 : totDisk (starterR.dat r10).depot.Disk ≤ 1048576 := by rw [hS2]; exact ok_tot hk2
 have hq2 : diskOk (starterR.dat r10).depot.Disk = true := by rw [hS2]; exact hk2
 refine WL.nil (WC.sr (WL.r 2 hs9 [] rfl (WL.cl Tryz.call44 rfl (k14_ _ _ ?_) ?_)))
 · first | assumption | rfl | omega | decide | exact hb2 | exact hq2 | exact hbr | exact hqr | exact (lib_lent hl9 (by assumption) hfar).1 | exact lib_lent hl9 (by assumption) hfar | exact Nat.le_trans hlz (by decide) | exact Nat.le_trans hsz (by decide) | exact Nat.le_trans hz9 (by decide) | exact hz9 | exact Nat.zero_le _
 rintro _ whs14 ⟨rfl, hs14⟩
 replace hs14 := hs9.call0 hs14
 refine ⟨_, rfl, ?_⟩
 have hF15 := ((hs14.fr L11).fb b_s)
 refine WL.cl Tryz.call131 rfl (k108_ _ r10 _ _ _ (St.headP hF15) ho12 (St.ownP hF15) (St.nodupP hF15) ?_ ?_ ?_) ?_
 iterate 3 first | assumption | rfl | omega | decide | exact hb2 | exact hq2 | exact hbr | exact hqr | exact (lib_lent hl9 (by assumption) hfar).1 | exact lib_lent hl9 (by assumption) hfar | exact Nat.le_trans hlz (by decide) | exact Nat.le_trans hsz (by decide) | exact Nat.le_trans hz9 (by decide) | exact hz9 | exact Nat.zero_le _
 rintro _ whs16 ⟨r17, L18, rfl, hs16, ho19, hd20⟩
 replace hs16 := St.lendP hF15 hs16
 refine ⟨_, rfl, ?_⟩
 have hS3 : starterR.dat r17 = setS s.dat (gone (gone (stp (sd s.dat) opY) tempP) (logName g1)) := hd20.trans (congrArg (a₂ := setS s.dat (gone (stp (sd s.dat) opY) tempP)) (fun q => setS q (gone (sd q) (logName g1))) (by exact hS2))
 have hk3 : diskOk (gone (gone (stp (sd s.dat) opY) tempP) (logName g1)).1 = true := gone_ok hk2 (log_ok hgn)
 have hb3 : totDisk (starterR.dat r17).depot.Disk ≤ 1048576 := by rw [hS3]; exact ok_tot hk3
 have hq3 : diskOk (starterR.dat r17).depot.Disk = true := by rw [hS3]; exact hk3
 refine WL.nil (WC.sr (WL.r 1 hs16 [] rfl ?_))
 have hF21 := ((hs16.fr L18).fb b_s)
 refine WL.cl Tryz.call130 rfl (k109_ _ r17 _ _ (St.headP hF21) ho19 (St.ownP hF21) (St.nodupP hF21) ?_) ?_
 · first | assumption | rfl | omega | decide | exact hb3 | exact hq3 | exact hbr | exact hqr | exact (lib_lent hl9 (by assumption) hfar).1 | exact lib_lent hl9 (by assumption) hfar | exact Nat.le_trans hlz (by decide) | exact Nat.le_trans hsz (by decide) | exact Nat.le_trans hz9 (by decide) | exact hz9 | exact Nat.zero_le _
 rintro _ whs22 ⟨r23, L24, rfl, hs22, ho25, hd26⟩
 replace hs22 := St.lendP hF21 hs22
 refine ⟨_, rfl, ?_⟩
 have hS4 : starterR.dat r23 = setS s.dat (stp (gone (gone (stp (sd s.dat) opY) tempP) (logName g1)) opY) := hd26.trans (congrArg (a₂ := setS s.dat (gone (gone (stp (sd s.dat) opY) tempP) (logName g1))) (fun q => setS q (stp (sd q) opY)) (by exact hS3))
 have hk4 : diskOk (stp (gone (gone (stp (sd s.dat) opY) tempP) (logName g1)) opY).1 = true := stp_ok hk3 opY_ok
 have hb4 : totDisk (starterR.dat r23).depot.Disk ≤ 1048576 := by rw [hS4]; exact ok_tot hk4
 have hq4 : diskOk (starterR.dat r23).depot.Disk = true := by rw [hS4]; exact hk4
 refine WL.nil (WC.sr (WL.r 2 hs22 [] rfl ?_))
 have hF27 := ((hs22.fr L24).fb b_s)
 refine WL.cl Tryz.call132 rfl (k110_ _ r23 _ _ _ _ _ _ (St.headP hF27) ho25 (St.ownP hF27) (SlF.st f_data hs22 s_data) (by first | assumption | omega | simp) (St.nodupP hF27) (St.sepTP hF27 f_data s_data) ?_ ?_ ?_) ?_
 iterate 3 first | assumption | rfl | omega | decide | exact hb4 | exact hq4 | exact hbr | exact hqr | exact (lib_lent hl9 (by assumption) hfar).1 | exact lib_lent hl9 (by assumption) hfar | exact Nat.le_trans hlz (by decide) | exact Nat.le_trans hsz (by decide) | exact Nat.le_trans hz9 (by decide) | exact hz9 | exact Nat.zero_le _
 rintro _ whs28 ⟨r29, L30, rfl, hs28, ho31, hd32⟩
 replace hs28 := St.lendP hF27 hs28
 refine ⟨_, rfl, ?_⟩
 have hS5 : starterR.dat r29 = setS s.dat (stp (fillS (stp (gone (gone (stp (sd s.dat) opY) tempP) (logName g1)) opY) data) (syncOp tempP)) := hd32.trans (congrArg (a₂ := setS s.dat (stp (gone (gone (stp (sd s.dat) opY) tempP) (logName g1)) opY)) (fun q => setS q (stp (fillS (sd q) data) (syncOp tempP))) (by exact hS4))
 have hk5 : diskOk (stp (fillS (stp (gone (gone (stp (sd s.dat) opY) tempP) (logName g1)) opY) data) (syncOp tempP)).1 = true := stp_ok (fill_ok hk4 hdl) (opS_ok temp_ok)
 have hb5 : totDisk (starterR.dat r29).depot.Disk ≤ 1048576 := by rw [hS5]; exact ok_tot hk5
 have hq5 : diskOk (starterR.dat r29).depot.Disk = true := by rw [hS5]; exact hk5
 refine WL.nil (WC.sr (WL.r 2 hs28 [] rfl (WL.cl Tryz.call115 rfl (k15_ _ _ ?_) ?_)))
 · first | assumption | rfl | omega | decide | exact hb5 | exact hq5 | exact hbr | exact hqr | exact (lib_lent hl9 (by assumption) hfar).1 | exact lib_lent hl9 (by assumption) hfar | exact Nat.le_trans hlz (by decide) | exact Nat.le_trans hsz (by decide) | exact Nat.le_trans hz9 (by decide) | exact hz9 | exact Nat.zero_le _
 rintro _ whs33 ⟨rfl, hs33⟩
 replace hs33 := hs28.call0 hs33
 refine ⟨_, rfl, ?_⟩
 have hF34 := ((hs33.fr L30).fb b_s)
 refine WL.cl Tryz.call133 rfl (k107_ _ r29 _ _ _ _ _ _ _ _ _ (St.headP hF34) ho31 (St.ownP hF34) (SlF.nil _ _) (by first | assumption | omega | simp) (St.nodupP hF34) (fun h_ => absurd h_ (by omega)) ?_ ?_ ?_ ?_) ?_
 iterate 4 first | assumption | rfl | omega | decide | exact hb5 | exact hq5 | exact hbr | exact hqr | exact (lib_lent hl9 (by assumption) hfar).1 | exact lib_lent hl9 (by assumption) hfar | exact Nat.le_trans hlz (by decide) | exact Nat.le_trans hsz (by decide) | exact Nat.le_trans hz9 (by decide) | exact hz9 | exact Nat.zero_le _
 rintro _ whs35 ⟨r36, L37, rfl, hs35, ho38, hd39⟩
 replace hs35 := St.lendP hF34 hs35
 refine ⟨_, rfl, ?_⟩
 have hS6 : starterR.dat r36 = setS s.dat (stp (stp (fillS (stp (gone (gone (stp (sd s.dat) opY) tempP) (logName g1)) opY) data) (syncOp tempP)) (opM tempP (snapName g1))) := hd39.trans (congrArg (a₂ := setS s.dat (stp (fillS (stp (gone (gone (stp (sd s.dat) opY) tempP) (logName g1)) opY) data) (syncOp tempP))) (fun q => setS q (stp (sd q) (opM tempP (snapName g1)))) (by exact hS5))
 have hk6 : diskOk (stp (stp (fillS (stp (gone (gone (stp (sd s.dat) opY) tempP) (logName g1)) opY) data) (syncOp tempP)) (opM tempP (snapName g1))).1 = true := stp_ok hk5 (opM_ok temp_ok (snap_ok hgn))
 have hb6 : totDisk (starterR.dat r36).depot.Disk ≤ 1048576 := by rw [hS6]; exact ok_tot hk6
 have hq6 : diskOk (starterR.dat r36).depot.Disk = true := by rw [hS6]; exact hk6
 refine WL.nil (WC.sr (WL.r 2 hs35 [] rfl (WL.cl Tryz.call44 rfl (k14_ _ _ ?_) ?_)))
 · first | assumption | rfl | omega | decide | exact hb6 | exact hq6 | exact hbr | exact hqr | exact (lib_lent hl9 (by assumption) hfar).1 | exact lib_lent hl9 (by assumption) hfar | exact Nat.le_trans hlz (by decide) | exact Nat.le_trans hsz (by decide) | exact Nat.le_trans hz9 (by decide) | exact hz9 | exact Nat.zero_le _
 rintro _ whs40 ⟨rfl, hs40⟩
 replace hs40 := hs35.call0 hs40
 refine ⟨_, rfl, ?_⟩
 have hF41 := ((hs40.fr L37).fb b_s)
 refine WL.cl Tryz.call133 rfl (k107_ _ r36 _ _ _ _ _ _ _ _ _ (St.headP hF41) ho38 (St.ownP hF41) (SlF.nil _ _) (by first | assumption | omega | simp) (St.nodupP hF41) (fun h_ => absurd h_ (by omega)) ?_ ?_ ?_ ?_) ?_
 iterate 4 first | assumption | rfl | omega | decide | exact hb6 | exact hq6 | exact hbr | exact hqr | exact (lib_lent hl9 (by assumption) hfar).1 | exact lib_lent hl9 (by assumption) hfar | exact Nat.le_trans hlz (by decide) | exact Nat.le_trans hsz (by decide) | exact Nat.le_trans hz9 (by decide) | exact hz9 | exact Nat.zero_le _
 rintro _ whs42 ⟨r43, L44, rfl, hs42, ho45, hd46⟩
 replace hs42 := St.lendP hF41 hs42
 refine ⟨_, rfl, ?_⟩
 have hS7 : starterR.dat r43 = setS s.dat (stp (stp (stp (fillS (stp (gone (gone (stp (sd s.dat) opY) tempP) (logName g1)) opY) data) (syncOp tempP)) (opM tempP (snapName g1))) (opC (logName g1))) := hd46.trans (congrArg (a₂ := setS s.dat (stp (stp (fillS (stp (gone (gone (stp (sd s.dat) opY) tempP) (logName g1)) opY) data) (syncOp tempP)) (opM tempP (snapName g1)))) (fun q => setS q (stp (sd q) (opC (logName g1)))) (by exact hS6))
 have hk7 : diskOk (stp (stp (stp (fillS (stp (gone (gone (stp (sd s.dat) opY) tempP) (logName g1)) opY) data) (syncOp tempP)) (opM tempP (snapName g1))) (opC (logName g1))).1 = true := stp_ok hk6 (opC_ok (log_ok hgn))
 have hb7 : totDisk (starterR.dat r43).depot.Disk ≤ 1048576 := by rw [hS7]; exact ok_tot hk7
 have hq7 : diskOk (starterR.dat r43).depot.Disk = true := by rw [hS7]; exact hk7
 refine WL.nil (WC.sr (WL.r 1 hs42 [] rfl ?_))
 have hF47 := ((hs42.fr L44).fb b_s)
 refine WL.cl Tryz.call130 rfl (k109_ _ r43 _ _ (St.headP hF47) ho45 (St.ownP hF47) (St.nodupP hF47) ?_) ?_
 · first | assumption | rfl | omega | decide | exact hb7 | exact hq7 | exact hbr | exact hqr | exact (lib_lent hl9 (by assumption) hfar).1 | exact lib_lent hl9 (by assumption) hfar | exact Nat.le_trans hlz (by decide) | exact Nat.le_trans hsz (by decide) | exact Nat.le_trans hz9 (by decide) | exact hz9 | exact Nat.zero_le _
 rintro _ whs48 ⟨r49, L50, rfl, hs48, ho51, hd52⟩
 replace hs48 := St.lendP hF47 hs48
 refine ⟨_, rfl, ?_⟩
 have hS8 : starterR.dat r49 = setS s.dat (stp (stp (stp (stp (fillS (stp (gone (gone (stp (sd s.dat) opY) tempP) (logName g1)) opY) data) (syncOp tempP)) (opM tempP (snapName g1))) (opC (logName g1))) opY) := hd52.trans (congrArg (a₂ := setS s.dat (stp (stp (stp (fillS (stp (gone (gone (stp (sd s.dat) opY) tempP) (logName g1)) opY) data) (syncOp tempP)) (opM tempP (snapName g1))) (opC (logName g1)))) (fun q => setS q (stp (sd q) opY)) (by exact hS7))
 have hk8 : diskOk (stp (stp (stp (stp (fillS (stp (gone (gone (stp (sd s.dat) opY) tempP) (logName g1)) opY) data) (syncOp tempP)) (opM tempP (snapName g1))) (opC (logName g1))) opY).1 = true := stp_ok hk7 opY_ok
 have hb8 : totDisk (starterR.dat r49).depot.Disk ≤ 1048576 := by rw [hS8]; exact ok_tot hk8
 have hq8 : diskOk (starterR.dat r49).depot.Disk = true := by rw [hS8]; exact hk8
 have hT : starterR.dat r49 = setS s.dat (tail1 (fillS (stp (gone (gone (stp (sd s.dat) opY) tempP) (logName g1)) opY) data) g1) := hS8
 have hkT : diskOk (tail1 (fillS (stp (gone (gone (stp (sd s.dat) opY) tempP) (logName g1)) opY) data) g1).1 = true := hk8
 have hDT := diskOk_P hkT
 have eD : (dirD (DiskR.dat (starterR.depot r49).Disk)) = (dirD (tail1 (fillS (stp (gone (gone (stp (sd s.dat) opY) tempP) (logName g1)) opY) data) g1).1) := congrArg (fun q : starterD => dirD q.depot.Disk) hT
 have hdl9 : (dirD (DiskR.dat (starterR.depot r49).Disk)).length ≤ 40 := by rw [eD]; exact Nat.le_trans turnsL_len (by have h9 := hDT.small; omega)
 have hsm9 := start_sm hb8
 rw [hd52] at hsm9
 refine WL.nil (WC.seq (fun K53 hK53 => WC.sr (WL.r 5 hs48 [0] rfl ?_)))
 refine WL.cl Tryz.call134 rfl (k55_ r49.depot.Disk _ (ownstarterR.ok (B := 549755813888) ho51 (hs48.ow L50) (by rw [hd52]; assumption)).depot.Disk ?_) ?_
 · first | assumption | rfl | omega | decide | exact hb8 | exact hq8 | exact hbr | exact hqr | exact (lib_lent hl9 (by assumption) hfar).1 | exact lib_lent hl9 (by assumption) hfar | exact Nat.le_trans hlz (by decide) | exact Nat.le_trans hsz (by decide) | exact Nat.le_trans hz9 (by decide) | exact hz9 | exact Nat.zero_le _
 rintro _ whs54 ⟨A55, c56, L1_57, rfl, hs54, ho58⟩
 replace hs54 := hs48.callF hs54
 refine ⟨_, rfl, ?_⟩
 replace hs54 := St.back [_] hs54
 refine WL.r 2 hs54 [] rfl (WL.nil (WC.block ?_))
 have hM63 := (St.grp1 (L1 := L50) [_] (((hs54.fr L1_57).fr L50).fb b_s))
 refine WC.lV [0, 1, 38, 39] rfl hM63 (fun k_ (a_ : Hp) f => ∃ (i : Nat) (r : starterR) (L61 : Hp), k_ = (dirD (DiskR.dat (starterR.depot r49).Disk)).length - i ∧ a_ = [(b_s, .cells (List.toArray [i64 r.depot.Disk.Room, i64 r.depot.Disk.Fuse, i64 r.depot.Disk.Next, .slice r.depot.Disk.Files.A r.depot.Disk.Files.n r.depot.Disk.Files.c, .slice r.depot.Disk.Kept.A r.depot.Disk.Kept.n r.depot.Disk.Kept.c, .slice r.depot.Disk.Turns.A r.depot.Disk.Turns.n r.depot.Disk.Turns.c, i64 r.depot.Gen, i64 r.depot.Seq, i64 r.depot.Size, .bool r.depot.Stuck, i64 r.code]) 109 (0, 0))] ++ L61 ∧ (i ≤ (dirD (DiskR.dat (starterR.depot r49).Disk)).length) ∧ (starterR.dat r = setS s.dat (sweepS (tail1 (fillS (stp (gone (gone (stp (sd s.dat) opY) tempP) (logName g1)) opY) data) g1) g1 ((dirD (DiskR.dat (starterR.depot r49).Disk)).take i))) ∧ ownstarterR r L61 ∧ Sub [(40, .int .i64 i)] f) (((fun (i : Nat) => (dirD (DiskR.dat (starterR.depot r49).Disk)).length - i) (0))) ?_ ?_
 ·refine ⟨0, r49, L50, rfl, rfl, ?_, ?_, ho51, ⟨rfl, trivial⟩⟩
  · exact Nat.zero_le _
  · exact hT
 rintro _ _ f w ⟨i, r, L61, rfl, rfl, p0, p1, ho62, hG⟩ hF hs64
 refine WC.sub _ (hG.app hF) ?_
 clear hG hF
 replace hs64 := St.ungrp1 [_] hs64
 have hkr : diskOk (sweepS (tail1 (fillS (stp (gone (gone (stp (sd s.dat) opY) tempP) (logName g1)) opY) data) g1) g1 ((dirD (DiskR.dat (starterR.depot r49).Disk)).take i)).1 = true := sweep_ok hkT (fun x hx => hDT.names x (by rw [← eD]; exact List.mem_of_mem_take hx))
 have hbr : totDisk (starterR.dat r).depot.Disk ≤ 1048576 := by rw [p1]; exact ok_tot hkr
 have hqr : diskOk (starterR.dat r).depot.Disk = true := by rw [p1]; exact hkr
 have hsmr := start_sm hbr
 refine WC.r1 hs64 [] rfl (WC.seq (fun K65 hK65 => ?_))
 refine WC.cq rfl (fun h66 qh66 => ?_) (fun h66 qh66 => ?_)
 ·have hi9 : i < (dirD (DiskR.dat (starterR.depot r49).Disk)).length := by have h9 := h66; simp at h9; omega
  have hnm9 : nameOk (gat encLink (dirD (DiskR.dat (starterR.depot r49).Disk)) i).Name = true := hDT.names _ (by rw [← eD]; exact gat_mem hi9)
  have hz9 := nameOk_size hnm9
  refine WC.skip (hK65 _ _ (WC.seq (fun K67 hK67 => WC.block (WC.sr ?_))))
  refine WL.val rfl rfl rfl (Run.idxK (i) Tryz.runUnderlying31 Tryz.sizeOf101 rfl rfl rfl ?_ ?_ ?_) ?_
  · exact SlF.some_ (SlF.ofOwn ho58 (hs64.ow L1_57))
  · omega
  · omega
  refine WL.val rfl rfl rfl (Run.loadA Tryz.isAgg101 Tryz.sizeOf101 rfl rfl (SlF.whole (SlF.ofOwn ho58 (hs64.ow L1_57)) ?_)) ?_
  · omega
  refine WL.al hs64 Tryz.zeroValue101 rfl rfl (fun b68 _ hs69 => WL.st tbk hs69 0 rfl rfl (fun _ hs70 => WL.nil (WC.sr (WL.r 2 hs70 [0] rfl ?_))))
  refine WL.cl Tryz.call114 rfl (k114_ _ _ ?_ ?_) ?_
  iterate 2 first | assumption | rfl | omega | decide | exact hb8 | exact hq8 | exact hbr | exact hqr | exact (lib_lent hl9 (by assumption) hfar).1 | exact lib_lent hl9 (by assumption) hfar | exact Nat.le_trans hlz (by decide) | exact Nat.le_trans hsz (by decide) | exact Nat.le_trans hz9 (by decide) | exact hz9 | exact Nat.zero_le _
  rintro _ whs71 ⟨rfl, hs71⟩
  replace hs71 := hs70.call0 hs71
  refine ⟨_, rfl, WL.r 5 hs71 [] rfl (WL.nil (WC.sr (WL.r 2 hs71 [] rfl (WL.pA tbk 3 Acts.nil hs71 [] rfl rfl rfl rfl (fun g_ => trivial) (WL.nil (WC.cq rfl (fun h72 qh72 => ?_) (fun h72 qh72 => ?_)))))))⟩
  ·have hcx : (genOk (gat encLink (dirD (DiskR.dat (starterR.depot r49).Disk)) i).Name && !decide (genV (gat encLink (dirD (DiskR.dat (starterR.depot r49).Disk)) i).Name = g1)) = true := h72
   refine WC.region (WL.r 3 hs71 [0] rfl ?_)
   have hF73 := ((hs71.fr L61).fb b_s)
   refine WL.cl Tryz.call133 rfl (k107_ _ r _ _ _ _ _ _ _ _ _ (St.headP hF73) ho62 (St.ownP hF73) (SlF.nil _ _) (by first | assumption | omega | simp) (St.nodupP hF73) (fun h_ => absurd h_ (by omega)) ?_ ?_ ?_ ?_) ?_
   iterate 4 first | assumption | rfl | omega | decide | exact hb8 | exact hq8 | exact hbr | exact hqr | exact (lib_lent hl9 (by assumption) hfar).1 | exact lib_lent hl9 (by assumption) hfar | exact Nat.le_trans hlz (by decide) | exact Nat.le_trans hsz (by decide) | exact Nat.le_trans hz9 (by decide) | exact hz9 | exact Nat.zero_le _
   rintro _ whs74 ⟨r75, L76, rfl, hs74, ho77, hd78⟩
   replace hs74 := St.lendP hF73 hs74
   refine ⟨_, rfl, ?_⟩
   have hs79 := ((hs74.fb b68).fb b_s)
   have hnx : starterR.dat r75 = setS s.dat (sweepS (tail1 (fillS (stp (gone (gone (stp (sd s.dat) opY) tempP) (logName g1)) opY) data) g1) g1 ((dirD (DiskR.dat (starterR.depot r49).Disk)).take (i + 1))) := hd78.trans ((congrArg (a₂ := setS s.dat (sweepS (tail1 (fillS (stp (gone (gone (stp (sd s.dat) opY) tempP) (logName g1)) opY) data) g1) g1 ((dirD (DiskR.dat (starterR.depot r49).Disk)).take i))) (fun q => setS q (stp (sd q) (opR (gat encLink (dirD (DiskR.dat (starterR.depot r49).Disk)) i).Name))) (by exact p1)).trans (by rw [sweep_take hi9]; unfold sweep1; rw [if_pos hcx]; rfl))
   refine WL.nil (hK67 _ _ (WC.region (WL.r 2 hs79 [] rfl (WL.nil (tkN ?_)))))
   replace hs79 := (hs79.fb b68).d1
   have hF80 := (St.grp1 (L1 := L76) [_] (((hs79.fr L1_57).fr L76).fb b_s))
   refine ⟨sbF rfl, _, hF80, _, ?_, i + 1, r75, L76, rfl, rfl, ?_, ?_, ho77, ⟨rfl, trivial⟩⟩
   · omega
   · omega
   · exact hnx
  have hcx : ¬ (genOk (gat encLink (dirD (DiskR.dat (starterR.depot r49).Disk)) i).Name && !decide (genV (gat encLink (dirD (DiskR.dat (starterR.depot r49).Disk)) i).Name = g1)) = true := by have h9 := h72; rw [h9]; decide
  have hnx : starterR.dat r = setS s.dat (sweepS (tail1 (fillS (stp (gone (gone (stp (sd s.dat) opY) tempP) (logName g1)) opY) data) g1) g1 ((dirD (DiskR.dat (starterR.depot r49).Disk)).take (i + 1))) := p1.trans (by rw [sweep_take hi9]; unfold sweep1; rw [if_neg hcx])
  refine WC.skip (hK67 _ _ (WC.region (WL.r 2 hs71 [] rfl (WL.nil (tkN ?_)))))
  replace hs71 := hs71.d1
  have hF81 := (St.grp1 (L1 := L61) [_] (((hs71.fr L1_57).fr L61).fb b_s))
  refine ⟨sbF rfl, _, hF81, _, ?_, i + 1, r, L61, rfl, rfl, ?_, ?_, ho62, ⟨rfl, trivial⟩⟩
  · omega
  · omega
  · exact hnx
 refine WC.exit (hK53 _ _ (WC.region (WL.r 1 hs64 [] rfl ?_)))
 have hF82 := ((hs64.fr L61).fb b_s)
 refine WL.cl Tryz.call130 rfl (k109_ _ r _ _ (St.headP hF82) ho62 (St.ownP hF82) (St.nodupP hF82) ?_) ?_
 · first | assumption | rfl | omega | decide | exact hb8 | exact hq8 | exact hbr | exact hqr | exact (lib_lent hl9 (by assumption) hfar).1 | exact lib_lent hl9 (by assumption) hfar | exact Nat.le_trans hlz (by decide) | exact Nat.le_trans hsz (by decide) | exact Nat.le_trans hz9 (by decide) | exact hz9 | exact Nat.zero_le _
 rintro _ whs83 ⟨r84, L85, rfl, hs83, ho86, hd87⟩
 replace hs83 := St.lendP hF82 hs83
 refine ⟨_, rfl, ?_⟩
 have hfin : starterR.dat r84 = setS s.dat (stp (sweepS (tail1 (fillS (stp (gone (gone (stp (sd s.dat) opY) tempP) (logName g1)) opY) data) g1) g1 (dirD (tail1 (fillS (stp (gone (gone (stp (sd s.dat) opY) tempP) (logName g1)) opY) data) g1).1)) opY) := hd87.trans (congrArg (a₂ := setS s.dat (sweepS (tail1 (fillS (stp (gone (gone (stp (sd s.dat) opY) tempP) (logName g1)) opY) data) g1) g1 (dirD (tail1 (fillS (stp (gone (gone (stp (sd s.dat) opY) tempP) (logName g1)) opY) data) g1).1))) (fun q => setS q (stp (sd q) opY)) (by rw [p1, List.take_of_length_le (by omega), eD]))
 refine WL.nil (retK0 rfl (⟨r84, _, rfl, St.keepP (L1 := L85) ((hs83.fr L85).fb b_s), ho86, ?_⟩))
 · exact hfin
theorem built_36_0_1_2 (x0 : Value) (x1 : Value) (x2 : Value) (x3 : Value) (x4 : Value) (x5 : Value) (x6 : Int) (x7 : Int) : Tryz.prog.built 36 [(0, .agg [x0, x1, x2, x3, x4, x5].toArray), (1, .int .i64 x6), (2, .int .i64 x7)] = some (List.toArray [x0, x1, x2, x3, x4, x5, .int .i64 x6, .int .i64 x7, .int .i64 0, .bool false]) := by kernel_rfl
theorem built_109_0 (x0 : Value) (x1 : Value) (x2 : Value) (x3 : Value) (x4 : Value) (x5 : Value) (x6 : Value) (x7 : Value) (x8 : Value) (x9 : Value) : Tryz.prog.built 109 [(0, .agg [x0, x1, x2, x3, x4, x5, x6, x7, x8, x9].toArray)] = some (List.toArray [x0, x1, x2, x3, x4, x5, x6, x7, x8, x9, .int .i64 0]) := by kernel_rfl
theorem k118_ (d : DiskR) (gen : Int) (seq : Int) (A_data : Option Addr) (n_data c_data : Nat) (data : List UInt8) (w : World) (f_d : okDiskR 549755813888 w d) (f_data : SlF encB w A_data n_data data) (hb : totDisk d.dat ≤ 1048576) (hl9 : LibOk w) (hn : n_data ≤ 1048576) :
    Calls Tryz.prog 29 #[.agg #[i64 d.Room, i64 d.Fuse, i64 d.Next, .slice d.Files.A d.Files.n d.Files.c, .slice d.Kept.A d.Kept.n d.Kept.c, .slice d.Turns.A d.Turns.n d.Turns.c], i64 gen, i64 seq, .slice A_data n_data c_data] w fun e w' => ∃ r L1, e = .returned (.tuple #[.agg #[i64 r.Disk.Room, i64 r.Disk.Fuse, i64 r.Disk.Next, .slice r.Disk.Files.A r.Disk.Files.n r.Disk.Files.c, .slice r.Disk.Kept.A r.Disk.Kept.n r.Disk.Kept.c, .slice r.Disk.Turns.A r.Disk.Turns.n r.Disk.Turns.c, i64 r.Gen, i64 r.Seq, i64 r.Size, .bool r.Stuck], .int .i64 (beginC d.dat gen seq data)]) ∧ St w [] L1 w' ∧ ownDepotR r L1 ∧ r.dat = beginD d.dat gen seq data := by
 have nb_d_Files := f_d.Files_n
 have nl_d_Files := f_d.Files.sl.len
 have nb_d_Kept := f_d.Kept_n
 have nl_d_Kept := f_d.Kept.len
 have nb_d_Turns := f_d.Turns_n
 have nl_d_Turns := f_d.Turns.len
 have hsmD : smDisk 1048576 d.dat := totDisk_sm hb
 have hl := f_data.len
 refine enter 62 Tryz.func29 rfl Tryz.ntmps29 rfl rfl ?_
 have hs1 := St.init w
 refine WC.sr (WL.bx hs1 rfl (fun b2 _ hs3 => WL.al hs3 Tryz.zeroValue36 rfl rfl (fun b4 _ hs5 => WL.r 1 hs5 [] rfl (WL.nil (WC.r1 hs5 [] rfl (WC.seq (fun K6 hK6 => WC.sr ?_)))))))
 refine WL.r 1 hs5 [] rfl (WL.cl Tryz.call61 rfl (k0_ _ _ _ _) ?_)
 rintro _ whs7 ⟨rfl, hs7⟩
 replace hs7 := hs5.call0 hs7
 refine ⟨_, rfl, WL.nil (WC.cq rfl (fun h8 qh8 => ?_) (fun h8 qh8 => ?_))⟩
 ·have hw : within gen 0 999999999 = true := h8
  have hw2 := within_iff.1 hw
  refine WC.region (WL.r 4 hs7 [] rfl (WL.cl Tryz.call74 rfl (k105_ _ _ _ _ _ _ _ (SlF.st0 f_data hs7) ?_) ?_))
  · first | assumption | rfl | omega | exact hb | exact hcb | exact hck | exact lib_st hl9 (by assumption) | exact lib_tab hl9 (by assumption) | exact far_of hl9 (by assumption) (fun k_ hk_ => by simp only [List.map_append, List.map_cons, List.map_nil, List.cons_append, List.nil_append, List.append_assoc, List.mem_cons, List.mem_append] at hk_ ⊢; rcases hk_ with h_ | h_ <;> simp [h_])
  rintro _ whs9 ⟨A10, c11, L1_12, rfl, hs9, ho13⟩
  replace hs9 := hs7.callF hs9
  refine ⟨_, rfl, ?_⟩
  replace hs9 := St.back [_, _] hs9
  refine WL.r 5 hs9 [] rfl (WL.nil (hK6 _ _ (WC.seq (fun K14 hK14 => WC.sr (WL.r 3 hs9 [] rfl ?_)))))
  apply WL.gO 3 Acts.nil hs9 rfl
  ·intro g15 J16
   have qg15 := g15
   try simp only [bf, within_iff, within_not] at qg15
   refine WL.runA tbk 1 (Acts.nil.cons (j := 2) rfl g15) hs9 [1] rfl ⟨rfl, trivial⟩ (WL.call (wantF rfl g15) rfl rfl (Run.call Tryz.call56 rfl rfl rfl) (k53_ d _ (okDiskR.st0 f_d hs9) ?_) ?_)
   · first | assumption | rfl | omega | exact hb | exact hcb | exact hck | exact lib_st hl9 (by assumption) | exact lib_tab hl9 (by assumption) | exact far_of hl9 (by assumption) (fun k_ hk_ => by simp only [List.map_append, List.map_cons, List.map_nil, List.cons_append, List.nil_append, List.append_assoc, List.mem_cons, List.mem_append] at hk_ ⊢; rcases hk_ with h_ | h_ <;> simp [h_])
   rintro _ whs17 ⟨rfl, hs17⟩
   replace hs17 := hs9.call0 hs17
   refine ⟨_, rfl, WL.runA tbk 1 (Acts.nil.cons (j := 2) rfl g15) hs17 [] rfl trivial (WL.eO 3 Acts.nil J16 hs17 g15 rfl rfl)⟩
  intro _ hs18
  refine WL.nil (WC.cq rfl (fun h19 qh19 => ?_) (fun h19 qh19 => ?_))
  ·have hk : beginOk d.dat gen seq data = false := by first | assumption | (unfold beginOk; have h9 := h19; revert h9; cases snapOk (gen + 1) seq data <;> cases diskOk d.dat <;> simp)
   obtain ⟨hdn, hc⟩ := begin_bad hk
   refine WC.sr ?_
   refine WL.val rfl rfl rfl (Run.build rfl rfl rfl rfl (built_36)) (WL.st tbk hs18 0 rfl rfl (fun _ hs20 => WL.r 1 hs20 [] rfl (WL.nil (WC.ret (tkR ?_)))))
   clear hK14
   refine retV2 rfl (resV.cellA tbk hs20 0 rfl rfl rfl rfl) (resV.tmp rfl) ?_
   obtain ⟨L25, hs24, ho26⟩ := ownDepotR.fl hs20 (OwnN.nil _ _ _) (OwnF.nil _ _) (OwnF.nil _ _)
   have hs27 := ((hs24.fb b2).fb b4)
   refine ⟨⟨⟨0, 0, 0, ⟨none, 0, 0, []⟩, ⟨none, 0, 0, []⟩, ⟨none, 0, 0, []⟩⟩, 0, 0, 0, false⟩, _, (by rw [hc]; first | done | rfl | rw [← hRc]), (St.keep1 (hs27.fr L25)), ?_, ?_⟩
   · exact (by exact ho26)
   · rw [hdn]; rfl
  have hsk : snapOk (gen + 1) seq data = true ∧ diskOk d.dat = true := by have h9 := h19; revert h9; cases snapOk (gen + 1) seq data <;> cases diskOk d.dat <;> simp
  obtain ⟨hsn, hok⟩ := hsk
  have hk : beginOk d.dat gen seq data = true := by unfold beginOk; rw [hok, hw, hsn]; rfl
  obtain ⟨hdn, hc⟩ := begin_do hk
  obtain ⟨hgn, hg1, hg2, hg3⟩ := snapOk_P hsn
  have hsl : (snapOut (gen + 1) seq data).length ≤ 400000 := by rw [snapOut_y hsn]; have h9 := snapL_len hsn; omega
  refine WC.skip (hK14 _ _ (WC.sr (WL.r 1 hs18 [1] rfl ?_)))
  refine WL.cl Tryz.call75 rfl (k63_ d _ (okDiskR.st0 f_d hs18) ?_) ?_
  · first | assumption | rfl | omega | exact hb | exact hcb | exact hck | exact lib_st hl9 (by assumption) | exact lib_tab hl9 (by assumption) | exact far_of hl9 (by assumption) (fun k_ hk_ => by simp only [List.map_append, List.map_cons, List.map_nil, List.cons_append, List.nil_append, List.append_assoc, List.mem_cons, List.mem_append] at hk_ ⊢; rcases hk_ with h_ | h_ <;> simp [h_])
  rintro _ whs28 ⟨r29, L1_30, rfl, hs28, ho31, hd32⟩
  replace hs28 := hs18.callF hs28
  refine ⟨_, rfl, ?_⟩
  replace hs28 := St.back [_, _] hs28
  have hcp := hd32
  have hcb : totDisk (DiskR.dat r29) ≤ 1048576 := by rw [hcp]; exact hb
  have hck : diskOk (DiskR.dat r29) = true := by rw [hcp]; exact hok
  refine WL.r 2 hs28 [] rfl ?_
  refine WL.val rfl rfl rfl (Run.build rfl rfl rfl rfl (built_36_0_1_2 _ _ _ _ _ _ _ _)) ?_
  refine WL.val rfl rfl rfl (Run.build rfl rfl rfl rfl (built_109_0 _ _ _ _ _ _ _ _ _ _)) (WL.bx hs28 rfl (fun b33 _ hs34 => WL.r 1 hs34 [] rfl (WL.nil (WC.seq (fun K35 hK35 => WC.sr (WL.r 4 hs34 [] rfl ?_))))))
  obtain ⟨L36, L37, L38, hs42, ho39, ho40, ho41⟩ := ownDiskR.op hs34 ho31
  have hs43 := (((hs42.fb b2).fb b4).fb b33)
  obtain ⟨L45, hs44, ho46⟩ := ownstarterR.fl hs43 ho39 ho40 ho41
  have hs47 := (((hs44.fb b2).fb b4).fb b33)
  have hF48 := ((hs47.fr L45).fb b33)
  refine WL.cl Tryz.call76 rfl (k117_ _ ⟨⟨⟨r29.Room, r29.Fuse, r29.Next, SlD.ofN ho39, SlD.of ho40, SlD.of ho41⟩, gen, seq, 0, false⟩, 0⟩ _ _ _ _ _ _ _ (St.headP hF48) (by exact ho46) (St.ownP hF48) (SlF.ofOwn ho13 (hs47.ow L1_12)) (OwnF.cap ho13) (St.nodupP hF48) (OwnF.sep (L1 := (_, _) :: _) hF48 (fun p_ hp_ => (List.mem_append_right [_, _] (List.mem_append_left _ hp_))) ho13) ?_ ?_ ?_ ?_ ?_ ?_) ?_
  iterate 6 first | assumption | rfl | omega | exact hb | exact hcb | exact hck | exact lib_st hl9 (by assumption) | exact lib_tab hl9 (by assumption) | exact far_of hl9 (by assumption) (fun k_ hk_ => by simp only [List.map_append, List.map_cons, List.map_nil, List.cons_append, List.nil_append, List.append_assoc, List.mem_cons, List.mem_append] at hk_ ⊢; rcases hk_ with h_ | h_ <;> simp [h_])
  rintro _ whs49 ⟨r50, L51, rfl, hs49, ho52, hd53⟩
  replace hs49 := St.lendP hF48 hs49
  refine ⟨_, rfl, ?_⟩
  have hs54 := (((hs49.fb b2).fb b4).fb b33)
  have hR : starterR.dat r50 = (⟨⟨(beginP d.dat gen seq data).1, gen, seq, 0, false⟩, (beginP d.dat gen seq data).2⟩ : starterD) := hd53.trans ((congrArg (a₂ := (⟨⟨d.dat, gen, seq, 0, false⟩, 0⟩ : starterD)) (fun q => setS q (tailS (fillS (stp (gone (gone (stp (sd q) opY) tempP) (logName (gen + 1))) opY) (snapOut (gen + 1) seq data)) (gen + 1))) (by exact starterD.ext' (DepotD.ext' hcp rfl rfl rfl rfl) rfl)).trans (by rw [snapOut_y hsn]; rfl))
  have hRc : r50.code = (beginP d.dat gen seq data).2 := congrArg starterD.code hR
  have hRd := congrArg starterD.depot hR
  have hRD := congrArg DepotD.Disk hRd
  have hRs := congrArg DepotD.Seq hRd
  have hRz := congrArg DepotD.Size hRd
  have hRt := congrArg DepotD.Stuck hRd
  have hRg := congrArg DepotD.Gen hRd
  refine WL.nil (WC.r1 hs54 [0] rfl (WC.cq rfl (fun h55 qh55 => ?_) (fun h55 qh55 => ?_)))
  ·have h0 : (beginP d.dat gen seq data).2 = 0 := hRc.symm.trans (of_decide_eq_true h55)
   refine WC.region (WL.r 6 hs54 [] rfl (WL.st tbk hs54 0 rfl rfl (fun _ hs56 => WL.nil (hK35 _ _ (WC.seq (fun K57 hK57 => WC.rG 8 (hs56.fb b4).d1 hs56 hs56 (fun _ hs58 => ?_)))))))
   refine WG.rn [0, 1, 2, 3, 4, 5, 6] hs58 [0] rfl rfl (WG.all [7, 8] (by kernel_rfl) rfl (WGs.cons (i := 7) rfl rfl ?_ (WGs.consK rfl ?_ WGs.nil)))
   ·refine WL.r 1 hs58 [0] rfl (WL.nil ⟨hs58, WG.oK rfl (WL.st tbk hs58 1 rfl rfl (fun _ hs59 => WL.nil ⟨(hs59.fb b4).d1, WH.rn [9] (hs59.fb b4).d1 [] rfl rfl (WH.dn (hK57 _ _ ?_))⟩))⟩)
    refine WC.ret (retV2 rfl (resV.cellA tbk hs59 1 rfl rfl rfl rfl) (resV.tmp rfl) ?_)
    obtain ⟨L60, L61, L62, hs66, ho63, ho64, ho65⟩ := ownstarterR.op hs59 ho52
    have hs67 := (((hs66.fb b2).fb b4).fb b33)
    obtain ⟨L69, hs68, ho70⟩ := ownDepotR.fl hs67 ho63 ho64 ho65
    have hs71 := (((hs68.fb b2).fb b4).fb b33)
    refine ⟨⟨⟨r50.depot.Disk.Room, r50.depot.Disk.Fuse, r50.depot.Disk.Next, SlD.ofN ho63, SlD.of ho64, SlD.of ho65⟩, (gen + (1)), r50.depot.Seq, r50.depot.Size, r50.depot.Stuck⟩, _, (by rw [hc]; first | done | rfl | rw [← hRc]), (St.keep1 (hs71.fr L69)), ?_, ?_⟩
    · exact (by exact ho70)
    · rw [hdn]; exact DepotD.ext' hRD (if_pos h0).symm hRs hRz hRt
   refine WL.st tbk hs58 1 rfl rfl (fun _ hs72 => WL.nil ⟨(hs72.fb b4).d1, WH.rn [7, 9] (hs72.fb b4).d1 [0] rfl rfl (WH.dn (hK57 _ _ (WC.ret (retV2 rfl (resV.cellA tbk hs72 1 rfl rfl rfl rfl) (resV.tmp rfl) ?_))))⟩)
   obtain ⟨L73, L74, L75, hs79, ho76, ho77, ho78⟩ := ownstarterR.op hs72 ho52
   have hs80 := (((hs79.fb b2).fb b4).fb b33)
   obtain ⟨L82, hs81, ho83⟩ := ownDepotR.fl hs80 ho76 ho77 ho78
   have hs84 := (((hs81.fb b2).fb b4).fb b33)
   refine ⟨⟨⟨r50.depot.Disk.Room, r50.depot.Disk.Fuse, r50.depot.Disk.Next, SlD.ofN ho76, SlD.of ho77, SlD.of ho78⟩, (gen + (1)), r50.depot.Seq, r50.depot.Size, r50.depot.Stuck⟩, _, (by rw [hc]; first | done | rfl | rw [← hRc]), (St.keep1 (hs84.fr L82)), ?_, ?_⟩
   · exact (by exact ho83)
   · rw [hdn]; exact DepotD.ext' hRD (if_pos h0).symm hRs hRz hRt
  have h0 : ¬ (beginP d.dat gen seq data).2 = 0 := fun h9 => (of_decide_eq_false h55) (hRc.trans h9)
  refine WC.skip (hK35 _ _ (WC.seq (fun K85 hK85 => WC.rG 8 (hs54.fb b4).d1 hs54 hs54 (fun _ hs86 => ?_))))
  refine WG.rn [0, 1, 2, 3, 4, 5, 6] hs86 [0] rfl rfl (WG.all [7, 8] (by kernel_rfl) rfl (WGs.cons (i := 7) rfl rfl ?_ (WGs.consK rfl ?_ WGs.nil)))
  ·refine WL.r 1 hs86 [0] rfl (WL.nil ⟨hs86, WG.oK rfl (WL.st tbk hs86 1 rfl rfl (fun _ hs87 => WL.nil ⟨(hs87.fb b4).d1, WH.rn [9] (hs87.fb b4).d1 [] rfl rfl (WH.dn (hK85 _ _ ?_))⟩))⟩)
   refine WC.ret (retV2 rfl (resV.cellA tbk hs87 1 rfl rfl rfl rfl) (resV.tmp rfl) ?_)
   obtain ⟨L88, L89, L90, hs94, ho91, ho92, ho93⟩ := ownstarterR.op hs87 ho52
   have hs95 := (((hs94.fb b2).fb b4).fb b33)
   obtain ⟨L97, hs96, ho98⟩ := ownDepotR.fl hs95 ho91 ho92 ho93
   have hs99 := (((hs96.fb b2).fb b4).fb b33)
   refine ⟨⟨⟨r50.depot.Disk.Room, r50.depot.Disk.Fuse, r50.depot.Disk.Next, SlD.ofN ho91, SlD.of ho92, SlD.of ho93⟩, r50.depot.Gen, r50.depot.Seq, r50.depot.Size, r50.depot.Stuck⟩, _, (by rw [hc]; first | done | rfl | rw [← hRc]), (St.keep1 (hs99.fr L97)), ?_, ?_⟩
   · exact (by exact ho98)
   · rw [hdn]; exact DepotD.ext' hRD (hRg.trans (if_neg h0).symm) hRs hRz hRt
  refine WL.st tbk hs86 1 rfl rfl (fun _ hs100 => WL.nil ⟨(hs100.fb b4).d1, WH.rn [7, 9] (hs100.fb b4).d1 [0] rfl rfl (WH.dn (hK85 _ _ (WC.ret (retV2 rfl (resV.cellA tbk hs100 1 rfl rfl rfl rfl) (resV.tmp rfl) ?_))))⟩)
  obtain ⟨L101, L102, L103, hs107, ho104, ho105, ho106⟩ := ownstarterR.op hs100 ho52
  have hs108 := (((hs107.fb b2).fb b4).fb b33)
  obtain ⟨L110, hs109, ho111⟩ := ownDepotR.fl hs108 ho104 ho105 ho106
  have hs112 := (((hs109.fb b2).fb b4).fb b33)
  refine ⟨⟨⟨r50.depot.Disk.Room, r50.depot.Disk.Fuse, r50.depot.Disk.Next, SlD.ofN ho104, SlD.of ho105, SlD.of ho106⟩, r50.depot.Gen, r50.depot.Seq, r50.depot.Size, r50.depot.Stuck⟩, _, (by rw [hc]; first | done | rfl | rw [← hRc]), (St.keep1 (hs112.fr L110)), ?_, ?_⟩
  · exact (by exact ho111)
  · rw [hdn]; exact DepotD.ext' hRD (hRg.trans (if_neg h0).symm) hRs hRz hRt
 have hw : within gen 0 999999999 = false := h8
 have hk : beginOk d.dat gen seq data = false := by unfold beginOk; rw [hw, Bool.and_false]; rfl
 obtain ⟨hdn, hc⟩ := begin_bad hk
 refine WC.skip (hK6 _ _ (WC.seq (fun K113 hK113 => WC.sr (WL.r 3 hs7 [] rfl ?_))))
 apply WL.gO 3 Acts.nil hs7 rfl
 ·intro g114 J115
  have qg114 := g114
  try simp only [bf, within_iff, within_not] at qg114
  refine WL.runA tbk 1 (Acts.nil.cons (j := 2) rfl g114) hs7 [1] rfl ⟨rfl, trivial⟩ (WL.call (wantF rfl g114) rfl rfl (Run.call Tryz.call56 rfl rfl rfl) (k53_ d _ (okDiskR.st0 f_d hs7) ?_) ?_)
  · first | assumption | rfl | omega | exact hb | exact hcb | exact hck | exact lib_st hl9 (by assumption) | exact lib_tab hl9 (by assumption) | exact far_of hl9 (by assumption) (fun k_ hk_ => by simp only [List.map_append, List.map_cons, List.map_nil, List.cons_append, List.nil_append, List.append_assoc, List.mem_cons, List.mem_append] at hk_ ⊢; rcases hk_ with h_ | h_ <;> simp [h_])
  rintro _ whs116 ⟨rfl, hs116⟩
  replace hs116 := hs7.call0 hs116
  refine ⟨_, rfl, WL.runA tbk 1 (Acts.nil.cons (j := 2) rfl g114) hs116 [] rfl trivial (WL.eO 3 Acts.nil J115 hs116 g114 rfl rfl)⟩
 intro _ hs117
 refine WL.nil (WC.condT rfl (by simp) (WC.sr ?_))
 refine WL.val rfl rfl rfl (Run.build rfl rfl rfl rfl (built_36)) (WL.st tbk hs117 0 rfl rfl (fun _ hs119 => WL.r 1 hs119 [] rfl (WL.nil (WC.ret (tkR ?_)))))
 clear hK113
 refine retV2 rfl (resV.cellA tbk hs119 0 rfl rfl rfl rfl) (resV.tmp rfl) ?_
 obtain ⟨L124, hs123, ho125⟩ := ownDepotR.fl hs119 (OwnN.nil _ _ _) (OwnF.nil _ _) (OwnF.nil _ _)
 have hs126 := ((hs123.fb b2).fb b4)
 refine ⟨⟨⟨0, 0, 0, ⟨none, 0, 0, []⟩, ⟨none, 0, 0, []⟩, ⟨none, 0, 0, []⟩⟩, 0, 0, 0, false⟩, _, (by rw [hc]; first | done | rfl | rw [← hRc]), (St.keep1 (hs126.fr L124)), ?_, ?_⟩
 · exact (by exact ho125)
 · rw [hdn]; rfl
theorem built_75_0_1_3 (x0 : Int) (x1 : ByteArray) (x2 : Option Addr) (x3 : Nat) (x4 : Nat) : Tryz.prog.built 75 [(0, .int .i64 x0), (1, .string x1), (3, .slice x2 x3 x4)] = some (List.toArray [.int .i64 x0, .string x1, .string ⟨#[]⟩, .slice x2 x3 x4]) := by kernel_rfl
theorem built_75_0 (x0 : Int) : Tryz.prog.built 75 [(0, .int .i64 x0)] = some (List.toArray [.int .i64 x0, .string ⟨#[]⟩, .string ⟨#[]⟩, .slice none 0 0]) := by kernel_rfl
theorem built_75_0_1_2 (x0 : Int) (x1 : ByteArray) (x2 : ByteArray) : Tryz.prog.built 75 [(0, .int .i64 x0), (1, .string x1), (2, .string x2)] = some (List.toArray [.int .i64 x0, .string x1, .string x2, .slice none 0 0]) := by kernel_rfl
set_option maxHeartbeats 16000000 in
theorem k119_ (d : DiskR) (gen : Int) (seq : Int) (A_data : Option Addr) (n_data c_data : Nat) (data : List UInt8) (w : World) (f_d : okDiskR 549755813888 w d) (f_data : SlF encB w A_data n_data data) (hb : totDisk d.dat ≤ 1048576) (hn : n_data ≤ 1048576) :
    Calls Tryz.prog 27 #[.agg #[i64 d.Room, i64 d.Fuse, i64 d.Next, .slice d.Files.A d.Files.n d.Files.c, .slice d.Kept.A d.Kept.n d.Kept.c, .slice d.Turns.A d.Turns.n d.Turns.c], i64 gen, i64 seq, .slice A_data n_data c_data] w fun e w' => ∃ r L1, e = .returned (.tuple #[.agg #[i64 r.Disk.Room, i64 r.Disk.Fuse, i64 r.Disk.Next, .slice r.Disk.Files.A r.Disk.Files.n r.Disk.Files.c, .slice r.Disk.Kept.A r.Disk.Kept.n r.Disk.Kept.c, .slice r.Disk.Turns.A r.Disk.Turns.n r.Disk.Turns.c, i64 r.Gen, i64 r.Seq, i64 r.Size, .bool r.Stuck], .int .i64 (beginC d.dat gen seq data)]) ∧ St w [] L1 w' ∧ ownDepotR r L1 ∧ r.dat = beginD d.dat gen seq data := by
 have nb_d_Files := f_d.Files_n
 have nl_d_Files := f_d.Files.sl.len
 have nb_d_Kept := f_d.Kept_n
 have nl_d_Kept := f_d.Kept.len
 have nb_d_Turns := f_d.Turns_n
 have nl_d_Turns := f_d.Turns.len
 have hsmD : smDisk 1048576 d.dat := totDisk_sm hb
 have hsmB : smDisk 549755813888 d.dat := totDisk_sm (by omega)
 have hl := f_data.len
 refine enter 155 Tryz.func27 rfl Tryz.ntmps27 rfl rfl ?_
 have hs1 := St.init w
 refine WC.sr (WL.bx hs1 rfl (fun b2 _ hs3 => WL.al hs3 Tryz.zeroValue36 rfl rfl (fun b4 _ hs5 => WL.r 1 hs5 [] rfl (WL.nil (WC.seq (fun K6 hK6 => WC.sr (WL.r 1 hs5 [1] rfl ?_)))))))
 refine WL.cl Tryz.call52 rfl (k34_ d _ (okDiskR.st0 f_d hs5) ?_) ?_
 · first | assumption | rfl | omega | decide | exact hb | exact hbr | exact hqr | exact hsmr | exact hsm9 | exact Nat.le_trans hlz (by decide) | exact Nat.le_trans hsz (by decide) | exact Nat.le_trans hz9 (by decide) | exact hz9 | exact Nat.zero_le _
 rintro _ whs7 ⟨rfl, hs7⟩
 replace hs7 := hs5.call0 hs7
 refine ⟨_, rfl, WL.r 2 hs7 [] rfl (WL.pO tbk 2 Acts.nil hs7 [] rfl rfl rfl rfl (fun g_ => trivial) (WL.r 1 hs7 [] rfl (WL.pO tbk 2 Acts.nil hs7 [] rfl rfl rfl rfl (fun g_ => trivial) (WL.nil (WC.cq rfl (fun h8 qh8 => ?_) (fun h8 qh8 => ?_))))))⟩
 ·have hk : beginOk d.dat gen seq data = false := by unfold beginOk; have h9 := h8; revert h9; cases diskOk d.dat <;> simp [within] <;> omega
  obtain ⟨hdn, hc⟩ := begin_bad hk
  refine WC.sr ?_
  refine WL.val rfl rfl rfl (Run.build rfl rfl rfl rfl (built_36)) (WL.st tbk hs7 0 rfl rfl (fun _ hs9 => WL.r 1 hs9 [] rfl (WL.nil (WC.ret (tkR ?_)))))
  clear hK6
  refine retV2 rfl (resV.cellA tbk hs9 0 rfl rfl rfl rfl) (resV.tmp rfl) ?_
  obtain ⟨L14, hs13, ho15⟩ := ownDepotR.fl hs9 (OwnN.nil _ _ _) (OwnF.nil _ _) (OwnF.nil _ _)
  have hs16 := ((hs13.fb b2).fb b4)
  refine ⟨⟨⟨0, 0, 0, ⟨none, 0, 0, []⟩, ⟨none, 0, 0, []⟩, ⟨none, 0, 0, []⟩⟩, 0, 0, 0, false⟩, _, (by rw [hc]; first | done | rfl | (rw [hP, ← hvf]; first | done | rfl) | (rw [hP]; done)), (St.keep1 (hs16.fr L14)), ?_, ?_⟩
  · exact (by exact ho15)
  · rw [hdn]; rfl
 have hw : diskOk d.dat = true ∧ within gen 0 999999999 = true := by have h9 := h8; revert h9; cases diskOk d.dat <;> simp [within] <;> omega
 obtain ⟨hok, hw⟩ := hw
 have hw2 := within_iff.1 hw
 refine WC.skip (hK6 _ _ (WC.sr (WL.r 4 hs7 [] rfl ?_)))
 refine WL.cl Tryz.call65 rfl (k106_ _ _ _ _ _ _ _ (SlF.st0 f_data hs7) ?_) ?_
 · first | assumption | rfl | omega | decide | exact hb | exact hbr | exact hqr | exact hsmr | exact hsm9 | exact Nat.le_trans hlz (by decide) | exact Nat.le_trans hsz (by decide) | exact Nat.le_trans hz9 (by decide) | exact hz9 | exact Nat.zero_le _
 rintro _ whs17 ⟨A18, c19, L1_20, rfl, hs17, ho21⟩
 replace hs17 := hs7.callF hs17
 refine ⟨_, rfl, ?_⟩
 replace hs17 := St.back [_, _] hs17
 refine WL.r 5 hs17 [] rfl (WL.nil (WC.seq (fun K22 hK22 => WC.r1 hs17 [] rfl ?_)))
 refine WC.cq rfl (fun h23 qh23 => ?_) (fun h23 qh23 => ?_)
 ·have hsn : snapOk (gen + 1) seq data = false := by have h9 := h23; simpa using h9
  have hk : beginOk d.dat gen seq data = false := by unfold beginOk; rw [hsn, Bool.and_false]
  obtain ⟨hdn, hc⟩ := begin_bad hk
  refine WC.sr ?_
  refine WL.val rfl rfl rfl (Run.build rfl rfl rfl rfl (built_36)) (WL.st tbk hs17 0 rfl rfl (fun _ hs24 => WL.r 1 hs24 [] rfl (WL.nil (WC.ret (tkR ?_)))))
  clear hK22
  refine retV2 rfl (resV.cellA tbk hs24 0 rfl rfl rfl rfl) (resV.tmp rfl) ?_
  obtain ⟨L29, hs28, ho30⟩ := ownDepotR.fl hs24 (OwnN.nil _ _ _) (OwnF.nil _ _) (OwnF.nil _ _)
  have hs31 := ((hs28.fb b2).fb b4)
  refine ⟨⟨⟨0, 0, 0, ⟨none, 0, 0, []⟩, ⟨none, 0, 0, []⟩, ⟨none, 0, 0, []⟩⟩, 0, 0, 0, false⟩, _, (by rw [hc]; first | done | rfl | (rw [hP, ← hvf]; first | done | rfl) | (rw [hP]; done)), (St.keep1 (hs31.fr L29)), ?_, ?_⟩
  · exact (by exact ho30)
  · rw [hdn]; rfl
 have hsn : snapOk (gen + 1) seq data = true := by have h9 := h23; simpa using h9
 have hk : beginOk d.dat gen seq data = true := by unfold beginOk; rw [hok, hw, hsn]; rfl
 obtain ⟨hdn, hc⟩ := begin_do hk
 obtain ⟨hgn, hg1, hg2, hg3⟩ := snapOk_P hsn
 have hsl : (snapOut (gen + 1) seq data).length ≤ 400000 := by rw [snapOut_y hsn]; have h9 := snapL_len hsn; omega
 have hlz := logName_size (gen + 1)
 have hsz := snapName_size (gen + 1)
 refine WC.skip (hK22 _ _ (WC.sr (WL.r 1 hs17 [1] rfl ?_)))
 refine WL.cl Tryz.call66 rfl (k67_ d _ (okDiskR.st0 f_d hs17) ?_) ?_
 · first | assumption | rfl | omega | decide | exact hb | exact hbr | exact hqr | exact hsmr | exact hsm9 | exact Nat.le_trans hlz (by decide) | exact Nat.le_trans hsz (by decide) | exact Nat.le_trans hz9 (by decide) | exact hz9 | exact Nat.zero_le _
 rintro _ whs32 ⟨r33, L1_34, rfl, hs32, ho35, hd36⟩
 replace hs32 := hs17.callF hs32
 refine ⟨_, rfl, ?_⟩
 replace hs32 := St.back [_, _] hs32
 have hcp := hd36
 have hcb : totDisk (DiskR.dat r33) ≤ 1048576 := by rw [hcp]; exact hb
 have hck : diskOk (DiskR.dat r33) = true := by rw [hcp]; exact hok
 have hcs := dep_sm (q := (⟨DiskR.dat r33, gen, seq, 0, false⟩ : DepotD)) hcb
 refine WL.r 2 hs32 [] rfl ?_
 refine WL.val rfl rfl rfl (Run.build rfl rfl rfl rfl (built_36_0_1_2 _ _ _ _ _ _ _ _)) (WL.bx hs32 rfl (fun b37 _ hs38 => WL.r 1 hs38 [] rfl (WL.nil (WC.sr ?_))))
 refine WL.val rfl rfl rfl (Run.build rfl rfl rfl rfl (built_75_0 _)) (WL.al hs38 Tryz.zeroValue75 rfl rfl (fun b39 _ hs40 => WL.st tbk hs40 0 rfl rfl (fun _ hs41 => WL.nil (WC.sr (WL.r 2 hs41 [0] rfl ?_)))))
 obtain ⟨L42, L43, L44, hs48, ho45, ho46, ho47⟩ := ownDiskR.op hs41 ho35
 have hs49 := ((((hs48.fb b2).fb b4).fb b37).fb b39)
 obtain ⟨L51, hs50, ho52⟩ := ownDepotR.fl hs49 ho45 ho46 ho47
 have hs53 := ((((hs50.fb b2).fb b4).fb b37).fb b39)
 have hF54 := ((hs53.fr L51).fb b37)
 refine WL.cl Tryz.call40 rfl (k94_ _ ⟨⟨r33.Room, r33.Fuse, r33.Next, SlD.ofN ho45, SlD.of ho46, SlD.of ho47⟩, gen, seq, 0, false⟩ _ _ _ _ _ _ _ _ _ _ (St.headP hF54) (by exact ho52) (St.ownP hF54) (SlF.nil _ _) (by first | assumption | omega | simp) (St.nodupP hF54) (fun h_ => absurd h_ (by omega)) ?_ ?_ ?_ ?_ ?_) ?_
 iterate 5 first | assumption | rfl | omega | decide | exact hcb | exact hcs | exact hck | exact hbr | exact hqr | exact hsmr | exact hsm9 | exact Nat.le_trans hlz (by decide) | exact Nat.le_trans hsz (by decide) | exact Nat.le_trans hz9 (by decide) | exact hz9 | exact Nat.zero_le _
 rintro _ whs55 ⟨cc60, r56, L57, rfl, hs55, ho58, hd59, hcc61⟩
 replace hs55 := St.lendP hF54 hs55
 refine ⟨_, rfl, ?_⟩
 have hs62 := ((((hs55.fb b2).fb b4).fb b39).fb b37)
 have hS1 : DepotR.dat r56 = setP (⟨d.dat, gen, seq, 0, false⟩ : DepotD) (stp ((d.dat, 0) : SD) opY) := hd59.trans ((congrArg (a₂ := setP (⟨d.dat, gen, seq, 0, false⟩ : DepotD) ((d.dat, 0) : SD)) (fun q => setP q (stp ((q.Disk, 0) : SD) opY)) (by exact (DepotD.ext' hcp rfl rfl rfl rfl))).trans (congrArg (a₁ := ((((d.dat, 0) : SD).1, 0) : SD)) (a₂ := ((d.dat, 0) : SD)) (fun s => setP (⟨d.dat, gen, seq, 0, false⟩ : DepotD) (stp s opY)) (Prod.ext rfl rfl)))
 have hv1 : cc60 = (stp ((d.dat, 0) : SD) opY).2 := hcc61.trans (congrArg (a₁ := (((DiskR.dat r33), 0) : SD)) (a₂ := ((d.dat, 0) : SD)) (fun s => (stp s opY).2) (Prod.ext hcp rfl))
 have hk1 : diskOk (stp ((d.dat, 0) : SD) opY).1 = true := stp_ok hok opY_ok
 have hb1 : totDisk (DepotR.dat r56).Disk ≤ 1048576 := by rw [hS1]; exact ok_tot hk1
 have hq1 : diskOk (DepotR.dat r56).Disk = true := by rw [hS1]; exact hk1
 have hs1_ := dep_sm hb1
 refine WL.r 1 hs62 [] rfl (WL.nil (WC.sr (WL.r 2 hs62 [] rfl ?_)))
 have hF63 := ((hs62.fr L57).fb b37)
 refine WL.cl Tryz.call67 rfl (k95_ _ r56 _ _ _ _ (St.headP hF63) ho58 (St.ownP hF63) (St.nodupP hF63) ?_ ?_ ?_) ?_
 iterate 3 first | assumption | rfl | omega | decide | exact hb1 | exact hq1 | exact hs1_ | exact hbr | exact hqr | exact hsmr | exact hsm9 | exact Nat.le_trans hlz (by decide) | exact Nat.le_trans hsz (by decide) | exact Nat.le_trans hz9 (by decide) | exact hz9 | exact Nat.zero_le _
 rintro _ whs64 ⟨cc69, r65, L66, rfl, hs64, ho67, hd68, hcc70⟩
 replace hs64 := St.lendP hF63 hs64
 refine ⟨_, rfl, ?_⟩
 have hs71 := ((((hs64.fb b2).fb b4).fb b39).fb b37)
 have hS2 : DepotR.dat r65 = setP (⟨d.dat, gen, seq, 0, false⟩ : DepotD) (gone (stp ((d.dat, 0) : SD) opY) tempP) := hd68.trans ((congrArg (a₂ := setP (⟨d.dat, gen, seq, 0, false⟩ : DepotD) (stp ((d.dat, 0) : SD) opY)) (fun q => setP q (gone ((q.Disk, cc60) : SD) tempP)) (by exact hS1)).trans (congrArg (a₁ := (((stp ((d.dat, 0) : SD) opY).1, cc60) : SD)) (a₂ := (stp ((d.dat, 0) : SD) opY)) (fun s => setP (⟨d.dat, gen, seq, 0, false⟩ : DepotD) (gone s tempP)) (Prod.ext rfl hv1)))
 have hv2 : cc69 = (gone (stp ((d.dat, 0) : SD) opY) tempP).2 := hcc70.trans (congrArg (a₁ := (((DepotR.dat r56).Disk, cc60) : SD)) (a₂ := (stp ((d.dat, 0) : SD) opY)) (fun s => (gone s tempP).2) (Prod.ext (congrArg DepotD.Disk hS1) hv1))
 have hk2 : diskOk (gone (stp ((d.dat, 0) : SD) opY) tempP).1 = true := gone_ok hk1 temp_ok
 have hb2 : totDisk (DepotR.dat r65).Disk ≤ 1048576 := by rw [hS2]; exact ok_tot hk2
 have hq2 : diskOk (DepotR.dat r65).Disk = true := by rw [hS2]; exact hk2
 have hs2_ := dep_sm hb2
 refine WL.r 1 hs71 [] rfl (WL.nil (WC.sr (WL.r 4 hs71 [] rfl (WL.cl Tryz.call41 rfl (k17_ _ _) ?_))))
 rintro _ whs72 ⟨rfl, hs72⟩
 replace hs72 := hs71.call0 hs72
 refine ⟨_, rfl, ?_⟩
 have hF73 := ((hs72.fr L66).fb b37)
 refine WL.cl Tryz.call67 rfl (k95_ _ r65 _ _ _ _ (St.headP hF73) ho67 (St.ownP hF73) (St.nodupP hF73) ?_ ?_ ?_) ?_
 iterate 3 first | assumption | rfl | omega | decide | exact hb2 | exact hq2 | exact hs2_ | exact hbr | exact hqr | exact hsmr | exact hsm9 | exact Nat.le_trans hlz (by decide) | exact Nat.le_trans hsz (by decide) | exact Nat.le_trans hz9 (by decide) | exact hz9 | exact Nat.zero_le _
 rintro _ whs74 ⟨cc79, r75, L76, rfl, hs74, ho77, hd78, hcc80⟩
 replace hs74 := St.lendP hF73 hs74
 refine ⟨_, rfl, ?_⟩
 have hs81 := ((((hs74.fb b2).fb b4).fb b39).fb b37)
 have hS3 : DepotR.dat r75 = setP (⟨d.dat, gen, seq, 0, false⟩ : DepotD) (gone (gone (stp ((d.dat, 0) : SD) opY) tempP) (logName (gen + 1))) := hd78.trans ((congrArg (a₂ := setP (⟨d.dat, gen, seq, 0, false⟩ : DepotD) (gone (stp ((d.dat, 0) : SD) opY) tempP)) (fun q => setP q (gone ((q.Disk, cc69) : SD) (logName (gen + 1)))) (by exact hS2)).trans (congrArg (a₁ := (((gone (stp ((d.dat, 0) : SD) opY) tempP).1, cc69) : SD)) (a₂ := (gone (stp ((d.dat, 0) : SD) opY) tempP)) (fun s => setP (⟨d.dat, gen, seq, 0, false⟩ : DepotD) (gone s (logName (gen + 1)))) (Prod.ext rfl hv2)))
 have hv3 : cc79 = (gone (gone (stp ((d.dat, 0) : SD) opY) tempP) (logName (gen + 1))).2 := hcc80.trans (congrArg (a₁ := (((DepotR.dat r65).Disk, cc69) : SD)) (a₂ := (gone (stp ((d.dat, 0) : SD) opY) tempP)) (fun s => (gone s (logName (gen + 1))).2) (Prod.ext (congrArg DepotD.Disk hS2) hv2))
 have hk3 : diskOk (gone (gone (stp ((d.dat, 0) : SD) opY) tempP) (logName (gen + 1))).1 = true := gone_ok hk2 (log_ok hgn)
 have hb3 : totDisk (DepotR.dat r75).Disk ≤ 1048576 := by rw [hS3]; exact ok_tot hk3
 have hq3 : diskOk (DepotR.dat r75).Disk = true := by rw [hS3]; exact hk3
 have hs3_ := dep_sm hb3
 refine WL.r 1 hs81 [] rfl (WL.nil (WC.sr (WL.r 3 hs81 [1] rfl ?_)))
 have hF82 := ((hs81.fr L76).fb b37)
 refine WL.cl Tryz.call40 rfl (k94_ _ r75 _ _ _ _ _ _ _ _ _ _ (St.headP hF82) ho77 (St.ownP hF82) (SlF.nil _ _) (by first | assumption | omega | simp) (St.nodupP hF82) (fun h_ => absurd h_ (by omega)) ?_ ?_ ?_ ?_ ?_) ?_
 iterate 5 first | assumption | rfl | omega | decide | exact hb3 | exact hq3 | exact hs3_ | exact hbr | exact hqr | exact hsmr | exact hsm9 | exact Nat.le_trans hlz (by decide) | exact Nat.le_trans hsz (by decide) | exact Nat.le_trans hz9 (by decide) | exact hz9 | exact Nat.zero_le _
 rintro _ whs83 ⟨cc88, r84, L85, rfl, hs83, ho86, hd87, hcc89⟩
 replace hs83 := St.lendP hF82 hs83
 refine ⟨_, rfl, ?_⟩
 have hs90 := ((((hs83.fb b2).fb b4).fb b39).fb b37)
 have hS4 : DepotR.dat r84 = setP (⟨d.dat, gen, seq, 0, false⟩ : DepotD) (stp (gone (gone (stp ((d.dat, 0) : SD) opY) tempP) (logName (gen + 1))) opY) := hd87.trans ((congrArg (a₂ := setP (⟨d.dat, gen, seq, 0, false⟩ : DepotD) (gone (gone (stp ((d.dat, 0) : SD) opY) tempP) (logName (gen + 1)))) (fun q => setP q (stp ((q.Disk, cc79) : SD) opY)) (by exact hS3)).trans (congrArg (a₁ := (((gone (gone (stp ((d.dat, 0) : SD) opY) tempP) (logName (gen + 1))).1, cc79) : SD)) (a₂ := (gone (gone (stp ((d.dat, 0) : SD) opY) tempP) (logName (gen + 1)))) (fun s => setP (⟨d.dat, gen, seq, 0, false⟩ : DepotD) (stp s opY)) (Prod.ext rfl hv3)))
 have hv4 : cc88 = (stp (gone (gone (stp ((d.dat, 0) : SD) opY) tempP) (logName (gen + 1))) opY).2 := hcc89.trans (congrArg (a₁ := (((DepotR.dat r75).Disk, cc79) : SD)) (a₂ := (gone (gone (stp ((d.dat, 0) : SD) opY) tempP) (logName (gen + 1)))) (fun s => (stp s opY).2) (Prod.ext (congrArg DepotD.Disk hS3) hv3))
 have hk4 : diskOk (stp (gone (gone (stp ((d.dat, 0) : SD) opY) tempP) (logName (gen + 1))) opY).1 = true := stp_ok hk3 opY_ok
 have hb4 : totDisk (DepotR.dat r84).Disk ≤ 1048576 := by rw [hS4]; exact ok_tot hk4
 have hq4 : diskOk (DepotR.dat r84).Disk = true := by rw [hS4]; exact hk4
 have hs4_ := dep_sm hb4
 refine WL.r 1 hs90 [] rfl (WL.nil (WC.sr (WL.r 2 hs90 [] rfl ?_)))
 refine WL.val rfl rfl rfl (Run.build rfl rfl rfl rfl (built_75_0_1 _ _)) ?_
 have hF91 := ((hs90.fr L85).fb b37)
 refine WL.cl Tryz.call40 rfl (k94_ _ r84 _ _ _ _ _ _ _ _ _ _ (St.headP hF91) ho86 (St.ownP hF91) (SlF.nil _ _) (by first | assumption | omega | simp) (St.nodupP hF91) (fun h_ => absurd h_ (by omega)) ?_ ?_ ?_ ?_ ?_) ?_
 iterate 5 first | assumption | rfl | omega | decide | exact hb4 | exact hq4 | exact hs4_ | exact hbr | exact hqr | exact hsmr | exact hsm9 | exact Nat.le_trans hlz (by decide) | exact Nat.le_trans hsz (by decide) | exact Nat.le_trans hz9 (by decide) | exact hz9 | exact Nat.zero_le _
 rintro _ whs92 ⟨cc97, r93, L94, rfl, hs92, ho95, hd96, hcc98⟩
 replace hs92 := St.lendP hF91 hs92
 refine ⟨_, rfl, ?_⟩
 have hs99 := ((((hs92.fb b2).fb b4).fb b39).fb b37)
 have hS5 : DepotR.dat r93 = setP (⟨d.dat, gen, seq, 0, false⟩ : DepotD) (stp (stp (gone (gone (stp ((d.dat, 0) : SD) opY) tempP) (logName (gen + 1))) opY) (opC tempP)) := hd96.trans ((congrArg (a₂ := setP (⟨d.dat, gen, seq, 0, false⟩ : DepotD) (stp (gone (gone (stp ((d.dat, 0) : SD) opY) tempP) (logName (gen + 1))) opY)) (fun q => setP q (stp ((q.Disk, cc88) : SD) (opC tempP))) (by exact hS4)).trans (congrArg (a₁ := (((stp (gone (gone (stp ((d.dat, 0) : SD) opY) tempP) (logName (gen + 1))) opY).1, cc88) : SD)) (a₂ := (stp (gone (gone (stp ((d.dat, 0) : SD) opY) tempP) (logName (gen + 1))) opY)) (fun s => setP (⟨d.dat, gen, seq, 0, false⟩ : DepotD) (stp s (opC tempP))) (Prod.ext rfl hv4)))
 have hv5 : cc97 = (stp (stp (gone (gone (stp ((d.dat, 0) : SD) opY) tempP) (logName (gen + 1))) opY) (opC tempP)).2 := hcc98.trans (congrArg (a₁ := (((DepotR.dat r84).Disk, cc88) : SD)) (a₂ := (stp (gone (gone (stp ((d.dat, 0) : SD) opY) tempP) (logName (gen + 1))) opY)) (fun s => (stp s (opC tempP)).2) (Prod.ext (congrArg DepotD.Disk hS4) hv4))
 have hk5 : diskOk (stp (stp (gone (gone (stp ((d.dat, 0) : SD) opY) tempP) (logName (gen + 1))) opY) (opC tempP)).1 = true := stp_ok hk4 (opC_ok temp_ok)
 have hb5 : totDisk (DepotR.dat r93).Disk ≤ 1048576 := by rw [hS5]; exact ok_tot hk5
 have hq5 : diskOk (DepotR.dat r93).Disk = true := by rw [hS5]; exact hk5
 have hs5_ := dep_sm hb5
 refine WL.r 1 hs99 [] rfl (WL.nil (WC.sr (WL.r 3 hs99 [] rfl ?_)))
 refine WL.val rfl rfl rfl (Run.build rfl rfl rfl rfl (built_75_0_1_3 _ _ _ _ _)) ?_
 have hF100 := ((hs99.fr L94).fb b37)
 refine WL.cl Tryz.call40 rfl (k94_ _ r93 _ _ _ _ _ _ _ _ _ _ (St.headP hF100) ho95 (St.ownP hF100) (SlF.ofOwn ho21 (hs99.ow L1_20)) (OwnF.cap ho21) (St.nodupP hF100) (OwnF.sep (L1 := (_, _) :: _) hF100 (fun p_ hp_ => (List.mem_append_right [_, _, _] (List.mem_append_left _ hp_))) ho21) ?_ ?_ ?_ ?_ ?_) ?_
 iterate 5 first | assumption | rfl | omega | decide | exact hb5 | exact hq5 | exact hs5_ | exact hbr | exact hqr | exact hsmr | exact hsm9 | exact Nat.le_trans hlz (by decide) | exact Nat.le_trans hsz (by decide) | exact Nat.le_trans hz9 (by decide) | exact hz9 | exact Nat.zero_le _
 rintro _ whs101 ⟨cc106, r102, L103, rfl, hs101, ho104, hd105, hcc107⟩
 replace hs101 := St.lendP hF100 hs101
 refine ⟨_, rfl, ?_⟩
 have hs108 := ((((hs101.fb b2).fb b4).fb b39).fb b37)
 have hS6 : DepotR.dat r102 = setP (⟨d.dat, gen, seq, 0, false⟩ : DepotD) (stp (stp (stp (gone (gone (stp ((d.dat, 0) : SD) opY) tempP) (logName (gen + 1))) opY) (opC tempP)) (opA tempP (snapOut (gen + 1) seq data))) := hd105.trans ((congrArg (a₂ := setP (⟨d.dat, gen, seq, 0, false⟩ : DepotD) (stp (stp (gone (gone (stp ((d.dat, 0) : SD) opY) tempP) (logName (gen + 1))) opY) (opC tempP))) (fun q => setP q (stp ((q.Disk, cc97) : SD) (opA tempP (snapOut (gen + 1) seq data)))) (by exact hS5)).trans (congrArg (a₁ := (((stp (stp (gone (gone (stp ((d.dat, 0) : SD) opY) tempP) (logName (gen + 1))) opY) (opC tempP)).1, cc97) : SD)) (a₂ := (stp (stp (gone (gone (stp ((d.dat, 0) : SD) opY) tempP) (logName (gen + 1))) opY) (opC tempP))) (fun s => setP (⟨d.dat, gen, seq, 0, false⟩ : DepotD) (stp s (opA tempP (snapOut (gen + 1) seq data)))) (Prod.ext rfl hv5)))
 have hv6 : cc106 = (stp (stp (stp (gone (gone (stp ((d.dat, 0) : SD) opY) tempP) (logName (gen + 1))) opY) (opC tempP)) (opA tempP (snapOut (gen + 1) seq data))).2 := hcc107.trans (congrArg (a₁ := (((DepotR.dat r93).Disk, cc97) : SD)) (a₂ := (stp (stp (gone (gone (stp ((d.dat, 0) : SD) opY) tempP) (logName (gen + 1))) opY) (opC tempP))) (fun s => (stp s (opA tempP (snapOut (gen + 1) seq data))).2) (Prod.ext (congrArg DepotD.Disk hS5) hv5))
 have hk6 : diskOk (stp (stp (stp (gone (gone (stp ((d.dat, 0) : SD) opY) tempP) (logName (gen + 1))) opY) (opC tempP)) (opA tempP (snapOut (gen + 1) seq data))).1 = true := stp_ok hk5 (opA_ok temp_ok hsl)
 have hb6 : totDisk (DepotR.dat r102).Disk ≤ 1048576 := by rw [hS6]; exact ok_tot hk6
 have hq6 : diskOk (DepotR.dat r102).Disk = true := by rw [hS6]; exact hk6
 have hs6_ := dep_sm hb6
 refine WL.r 1 hs108 [] rfl (WL.nil (WC.seq (fun K109 hK109 => WC.r1 hs108 [] rfl ?_)))
 refine WC.cq rfl (fun h110 qh110 => ?_) (fun h110 qh110 => ?_)
 ·have h5 : (fill1 (head1 d.dat (gen + 1)) (snapOut (gen + 1) seq data)).2 = 5 := hv6.symm.trans (of_decide_eq_true h110)
  refine WC.sr (WL.r 1 hs108 [] rfl ?_)
  refine WL.val rfl rfl rfl (Run.build rfl rfl rfl rfl (built_75_0_1 _ _)) ?_
  have hF111 := ((hs108.fr L103).fb b37)
  refine WL.cl Tryz.call40 rfl (k94_ _ r102 _ _ _ _ _ _ _ _ _ _ (St.headP hF111) ho104 (St.ownP hF111) (SlF.nil _ _) (by first | assumption | omega | simp) (St.nodupP hF111) (fun h_ => absurd h_ (by omega)) ?_ ?_ ?_ ?_ ?_) ?_
  iterate 5 first | assumption | rfl | omega | decide | exact hb6 | exact hq6 | exact hs6_ | exact hbr | exact hqr | exact hsmr | exact hsm9 | exact Nat.le_trans hlz (by decide) | exact Nat.le_trans hsz (by decide) | exact Nat.le_trans hz9 (by decide) | exact hz9 | exact Nat.zero_le _
  rintro _ whs112 ⟨cc117, r113, L114, rfl, hs112, ho115, hd116, hcc118⟩
  replace hs112 := St.lendP hF111 hs112
  refine ⟨_, rfl, ?_⟩
  have hs119 := ((((hs112.fb b2).fb b4).fb b39).fb b37)
  have hS7 : DepotR.dat r113 = setP (⟨d.dat, gen, seq, 0, false⟩ : DepotD) (stp (((stp (stp (stp (gone (gone (stp ((d.dat, 0) : SD) opY) tempP) (logName (gen + 1))) opY) (opC tempP)) (opA tempP (snapOut (gen + 1) seq data))).1, 0) : SD) (opR tempP)) := hd116.trans ((congrArg (a₂ := setP (⟨d.dat, gen, seq, 0, false⟩ : DepotD) (((stp (stp (stp (gone (gone (stp ((d.dat, 0) : SD) opY) tempP) (logName (gen + 1))) opY) (opC tempP)) (opA tempP (snapOut (gen + 1) seq data))).1, 0) : SD)) (fun q => setP q (stp ((q.Disk, 0) : SD) (opR tempP))) (by exact hS6)).trans (congrArg (a₁ := (((((stp (stp (stp (gone (gone (stp ((d.dat, 0) : SD) opY) tempP) (logName (gen + 1))) opY) (opC tempP)) (opA tempP (snapOut (gen + 1) seq data))).1, 0) : SD).1, 0) : SD)) (a₂ := (((stp (stp (stp (gone (gone (stp ((d.dat, 0) : SD) opY) tempP) (logName (gen + 1))) opY) (opC tempP)) (opA tempP (snapOut (gen + 1) seq data))).1, 0) : SD)) (fun s => setP (⟨d.dat, gen, seq, 0, false⟩ : DepotD) (stp s (opR tempP))) (Prod.ext rfl rfl)))
  have hv7 : cc117 = (stp (((stp (stp (stp (gone (gone (stp ((d.dat, 0) : SD) opY) tempP) (logName (gen + 1))) opY) (opC tempP)) (opA tempP (snapOut (gen + 1) seq data))).1, 0) : SD) (opR tempP)).2 := hcc118.trans (congrArg (a₁ := (((DepotR.dat r102).Disk, 0) : SD)) (a₂ := (((stp (stp (stp (gone (gone (stp ((d.dat, 0) : SD) opY) tempP) (logName (gen + 1))) opY) (opC tempP)) (opA tempP (snapOut (gen + 1) seq data))).1, 0) : SD)) (fun s => (stp s (opR tempP)).2) (Prod.ext (congrArg DepotD.Disk hS6) rfl))
  have hk7 : diskOk (stp (((stp (stp (stp (gone (gone (stp ((d.dat, 0) : SD) opY) tempP) (logName (gen + 1))) opY) (opC tempP)) (opA tempP (snapOut (gen + 1) seq data))).1, 0) : SD) (opR tempP)).1 = true := stp_ok hk6 (opR_ok temp_ok)
  have hb7 : totDisk (DepotR.dat r113).Disk ≤ 1048576 := by rw [hS7]; exact ok_tot hk7
  have hq7 : diskOk (DepotR.dat r113).Disk = true := by rw [hS7]; exact hk7
  have hs7_ := dep_sm hb7
  refine WL.r 1 hs119 [] rfl (WL.nil (WC.sr (WL.r 3 hs119 [1] rfl ?_)))
  have hF120 := ((hs119.fr L114).fb b37)
  refine WL.cl Tryz.call40 rfl (k94_ _ r113 _ _ _ _ _ _ _ _ _ _ (St.headP hF120) ho115 (St.ownP hF120) (SlF.nil _ _) (by first | assumption | omega | simp) (St.nodupP hF120) (fun h_ => absurd h_ (by omega)) ?_ ?_ ?_ ?_ ?_) ?_
  iterate 5 first | assumption | rfl | omega | decide | exact hb7 | exact hq7 | exact hs7_ | exact hbr | exact hqr | exact hsmr | exact hsm9 | exact Nat.le_trans hlz (by decide) | exact Nat.le_trans hsz (by decide) | exact Nat.le_trans hz9 (by decide) | exact hz9 | exact Nat.zero_le _
  rintro _ whs121 ⟨cc126, r122, L123, rfl, hs121, ho124, hd125, hcc127⟩
  replace hs121 := St.lendP hF120 hs121
  refine ⟨_, rfl, ?_⟩
  have hs128 := ((((hs121.fb b2).fb b4).fb b39).fb b37)
  have hS8 : DepotR.dat r122 = setP (⟨d.dat, gen, seq, 0, false⟩ : DepotD) (stp (stp (((stp (stp (stp (gone (gone (stp ((d.dat, 0) : SD) opY) tempP) (logName (gen + 1))) opY) (opC tempP)) (opA tempP (snapOut (gen + 1) seq data))).1, 0) : SD) (opR tempP)) opY) := hd125.trans ((congrArg (a₂ := setP (⟨d.dat, gen, seq, 0, false⟩ : DepotD) (stp (((stp (stp (stp (gone (gone (stp ((d.dat, 0) : SD) opY) tempP) (logName (gen + 1))) opY) (opC tempP)) (opA tempP (snapOut (gen + 1) seq data))).1, 0) : SD) (opR tempP))) (fun q => setP q (stp ((q.Disk, cc117) : SD) opY)) (by exact hS7)).trans (congrArg (a₁ := (((stp (((stp (stp (stp (gone (gone (stp ((d.dat, 0) : SD) opY) tempP) (logName (gen + 1))) opY) (opC tempP)) (opA tempP (snapOut (gen + 1) seq data))).1, 0) : SD) (opR tempP)).1, cc117) : SD)) (a₂ := (stp (((stp (stp (stp (gone (gone (stp ((d.dat, 0) : SD) opY) tempP) (logName (gen + 1))) opY) (opC tempP)) (opA tempP (snapOut (gen + 1) seq data))).1, 0) : SD) (opR tempP))) (fun s => setP (⟨d.dat, gen, seq, 0, false⟩ : DepotD) (stp s opY)) (Prod.ext rfl hv7)))
  have hv8 : cc126 = (stp (stp (((stp (stp (stp (gone (gone (stp ((d.dat, 0) : SD) opY) tempP) (logName (gen + 1))) opY) (opC tempP)) (opA tempP (snapOut (gen + 1) seq data))).1, 0) : SD) (opR tempP)) opY).2 := hcc127.trans (congrArg (a₁ := (((DepotR.dat r113).Disk, cc117) : SD)) (a₂ := (stp (((stp (stp (stp (gone (gone (stp ((d.dat, 0) : SD) opY) tempP) (logName (gen + 1))) opY) (opC tempP)) (opA tempP (snapOut (gen + 1) seq data))).1, 0) : SD) (opR tempP))) (fun s => (stp s opY).2) (Prod.ext (congrArg DepotD.Disk hS7) hv7))
  have hk8 : diskOk (stp (stp (((stp (stp (stp (gone (gone (stp ((d.dat, 0) : SD) opY) tempP) (logName (gen + 1))) opY) (opC tempP)) (opA tempP (snapOut (gen + 1) seq data))).1, 0) : SD) (opR tempP)) opY).1 = true := stp_ok hk7 opY_ok
  have hb8 : totDisk (DepotR.dat r122).Disk ≤ 1048576 := by rw [hS8]; exact ok_tot hk8
  have hq8 : diskOk (DepotR.dat r122).Disk = true := by rw [hS8]; exact hk8
  have hs8_ := dep_sm hb8
  refine WL.r 1 hs128 [] rfl (WL.nil (WC.seq (fun K129 hK129 => WC.r1 hs128 [] rfl ?_)))
  refine WC.cq rfl (fun h130 qh130 => ?_) (fun h130 qh130 => ?_)
  ·have h0 : (stp (stp (((stp (stp (stp (gone (gone (stp ((d.dat, 0) : SD) opY) tempP) (logName (gen + 1))) opY) (opC tempP)) (opA tempP (snapOut (gen + 1) seq data))).1, 0) : SD) (opR tempP)) opY).2 = 0 := hv8.symm.trans (of_decide_eq_true h130)
   have hP : (beginP d.dat gen seq data) = ((stp (stp (((stp (stp (stp (gone (gone (stp ((d.dat, 0) : SD) opY) tempP) (logName (gen + 1))) opY) (opC tempP)) (opA tempP (snapOut (gen + 1) seq data))).1, 0) : SD) (opR tempP)) opY).1, 5) := by
     unfold beginP
     rw [← snapOut_y hsn]
     refine (begin_5 h5).trans ?_
     show ((stp (stp (((stp (stp (stp (gone (gone (stp ((d.dat, 0) : SD) opY) tempP) (logName (gen + 1))) opY) (opC tempP)) (opA tempP (snapOut (gen + 1) seq data))).1, 0) : SD) (opR tempP)) opY).1, if (stp (stp (((stp (stp (stp (gone (gone (stp ((d.dat, 0) : SD) opY) tempP) (logName (gen + 1))) opY) (opC tempP)) (opA tempP (snapOut (gen + 1) seq data))).1, 0) : SD) (opR tempP)) opY).2 = 0 then 5 else (stp (stp (((stp (stp (stp (gone (gone (stp ((d.dat, 0) : SD) opY) tempP) (logName (gen + 1))) opY) (opC tempP)) (opA tempP (snapOut (gen + 1) seq data))).1, 0) : SD) (opR tempP)) opY).2) = _
     rw [if_pos h0]
   have hfin : DepotR.dat r122 = setP (⟨d.dat, gen, seq, 0, false⟩ : DepotD) (((stp (stp (((stp (stp (stp (gone (gone (stp ((d.dat, 0) : SD) opY) tempP) (logName (gen + 1))) opY) (opC tempP)) (opA tempP (snapOut (gen + 1) seq data))).1, 0) : SD) (opR tempP)) opY).1, 5) : SD) := hS8
   have hvf := (rfl : (5 : Int) = 5)
   refine WC.region (WL.r 1 hs128 [] rfl (WL.nil (hK129 _ _ (WC.sr (WL.r 4 hs128 [0] rfl (WL.st tbk hs128 2 rfl rfl (fun _ hs131 => WL.r 1 hs131 [] rfl ?_)))))))
   refine WL.nil (WC.ret (tkR ?_))
   clear hK109
   refine retV2 rfl (resV.cellA tbk hs131 2 rfl rfl rfl rfl) (resV.tmp rfl) ?_
   refine ⟨r122, _, (by rw [hc]; first | done | rfl | (rw [hP, ← hvf]; first | done | rfl) | (rw [hP]; done)), (St.keep1 (hs131.fr L123)), ?_, ?_⟩
   · exact ho124
   · rw [hdn, hP]; have q1_ := congrArg DepotD.Disk hfin; have q2_ := congrArg DepotD.Gen hfin; have q3_ := congrArg DepotD.Seq hfin; have q4_ := congrArg DepotD.Size hfin; have q5_ := congrArg DepotD.Stuck hfin; exact DepotD.ext' q1_ (q2_.trans (show gen = (if (5 : Int) = 0 then gen + 1 else gen) from rfl)) q3_ q4_ q5_
  have h0 : ¬ (stp (stp (((stp (stp (stp (gone (gone (stp ((d.dat, 0) : SD) opY) tempP) (logName (gen + 1))) opY) (opC tempP)) (opA tempP (snapOut (gen + 1) seq data))).1, 0) : SD) (opR tempP)) opY).2 = 0 := fun hx_ => (of_decide_eq_false h130) (hv8.trans hx_)
  have hP : (beginP d.dat gen seq data) = ((stp (stp (((stp (stp (stp (gone (gone (stp ((d.dat, 0) : SD) opY) tempP) (logName (gen + 1))) opY) (opC tempP)) (opA tempP (snapOut (gen + 1) seq data))).1, 0) : SD) (opR tempP)) opY).1, (stp (stp (((stp (stp (stp (gone (gone (stp ((d.dat, 0) : SD) opY) tempP) (logName (gen + 1))) opY) (opC tempP)) (opA tempP (snapOut (gen + 1) seq data))).1, 0) : SD) (opR tempP)) opY).2) := by
    unfold beginP
    rw [← snapOut_y hsn]
    refine (begin_5 h5).trans ?_
    show ((stp (stp (((stp (stp (stp (gone (gone (stp ((d.dat, 0) : SD) opY) tempP) (logName (gen + 1))) opY) (opC tempP)) (opA tempP (snapOut (gen + 1) seq data))).1, 0) : SD) (opR tempP)) opY).1, if (stp (stp (((stp (stp (stp (gone (gone (stp ((d.dat, 0) : SD) opY) tempP) (logName (gen + 1))) opY) (opC tempP)) (opA tempP (snapOut (gen + 1) seq data))).1, 0) : SD) (opR tempP)) opY).2 = 0 then 5 else (stp (stp (((stp (stp (stp (gone (gone (stp ((d.dat, 0) : SD) opY) tempP) (logName (gen + 1))) opY) (opC tempP)) (opA tempP (snapOut (gen + 1) seq data))).1, 0) : SD) (opR tempP)) opY).2) = _
    rw [if_neg h0]
  have hfin : DepotR.dat r122 = setP (⟨d.dat, gen, seq, 0, false⟩ : DepotD) (((stp (stp (((stp (stp (stp (gone (gone (stp ((d.dat, 0) : SD) opY) tempP) (logName (gen + 1))) opY) (opC tempP)) (opA tempP (snapOut (gen + 1) seq data))).1, 0) : SD) (opR tempP)) opY).1, (stp (stp (((stp (stp (stp (gone (gone (stp ((d.dat, 0) : SD) opY) tempP) (logName (gen + 1))) opY) (opC tempP)) (opA tempP (snapOut (gen + 1) seq data))).1, 0) : SD) (opR tempP)) opY).2) : SD) := hS8
  have hvf := hv8
  refine WC.skip (hK129 _ _ (WC.sr (WL.r 4 hs128 [0] rfl (WL.st tbk hs128 2 rfl rfl (fun _ hs132 => WL.r 1 hs132 [] rfl (WL.nil (WC.ret ?_)))))))
  refine tkR ?_
  clear hK109
  refine retV2 rfl (resV.cellA tbk hs132 2 rfl rfl rfl rfl) (resV.tmp rfl) ?_
  refine ⟨r122, _, (by rw [hc]; first | done | rfl | (rw [hP, ← hvf]; first | done | rfl) | (rw [hP]; done)), (St.keep1 (hs132.fr L123)), ?_, ?_⟩
  · exact ho124
  · rw [hdn, hP]; have q1_ := congrArg DepotD.Disk hfin; have q2_ := congrArg DepotD.Gen hfin; have q3_ := congrArg DepotD.Seq hfin; have q4_ := congrArg DepotD.Size hfin; have q5_ := congrArg DepotD.Stuck hfin; exact DepotD.ext' q1_ (q2_.trans (show gen = (if _ = (0 : Int) then gen + 1 else gen) from (if_neg h0).symm)) q3_ q4_ q5_
 have h5 : ¬ (fill1 (head1 d.dat (gen + 1)) (snapOut (gen + 1) seq data)).2 = 5 := fun hx_ => (of_decide_eq_false h110) (hv6.trans hx_)
 refine WC.skip (hK109 _ _ (WC.sr (WL.r 2 hs108 [] rfl ?_)))
 refine WL.val rfl rfl rfl (Run.build rfl rfl rfl rfl (built_75_0_1 _ _)) ?_
 have hF133 := ((hs108.fr L103).fb b37)
 refine WL.cl Tryz.call40 rfl (k94_ _ r102 _ _ _ _ _ _ _ _ _ _ (St.headP hF133) ho104 (St.ownP hF133) (SlF.nil _ _) (by first | assumption | omega | simp) (St.nodupP hF133) (fun h_ => absurd h_ (by omega)) ?_ ?_ ?_ ?_ ?_) ?_
 iterate 5 first | assumption | rfl | omega | decide | exact hb6 | exact hq6 | exact hs6_ | exact hbr | exact hqr | exact hsmr | exact hsm9 | exact Nat.le_trans hlz (by decide) | exact Nat.le_trans hsz (by decide) | exact Nat.le_trans hz9 (by decide) | exact hz9 | exact Nat.zero_le _
 rintro _ whs134 ⟨cc139, r135, L136, rfl, hs134, ho137, hd138, hcc140⟩
 replace hs134 := St.lendP hF133 hs134
 refine ⟨_, rfl, ?_⟩
 have hs141 := ((((hs134.fb b2).fb b4).fb b39).fb b37)
 have hS9 : DepotR.dat r135 = setP (⟨d.dat, gen, seq, 0, false⟩ : DepotD) (stp (stp (stp (stp (gone (gone (stp ((d.dat, 0) : SD) opY) tempP) (logName (gen + 1))) opY) (opC tempP)) (opA tempP (snapOut (gen + 1) seq data))) (syncOp tempP)) := hd138.trans ((congrArg (a₂ := setP (⟨d.dat, gen, seq, 0, false⟩ : DepotD) (stp (stp (stp (gone (gone (stp ((d.dat, 0) : SD) opY) tempP) (logName (gen + 1))) opY) (opC tempP)) (opA tempP (snapOut (gen + 1) seq data)))) (fun q => setP q (stp ((q.Disk, cc106) : SD) (syncOp tempP))) (by exact hS6)).trans (congrArg (a₁ := (((stp (stp (stp (gone (gone (stp ((d.dat, 0) : SD) opY) tempP) (logName (gen + 1))) opY) (opC tempP)) (opA tempP (snapOut (gen + 1) seq data))).1, cc106) : SD)) (a₂ := (stp (stp (stp (gone (gone (stp ((d.dat, 0) : SD) opY) tempP) (logName (gen + 1))) opY) (opC tempP)) (opA tempP (snapOut (gen + 1) seq data)))) (fun s => setP (⟨d.dat, gen, seq, 0, false⟩ : DepotD) (stp s (syncOp tempP))) (Prod.ext rfl hv6)))
 have hv9 : cc139 = (stp (stp (stp (stp (gone (gone (stp ((d.dat, 0) : SD) opY) tempP) (logName (gen + 1))) opY) (opC tempP)) (opA tempP (snapOut (gen + 1) seq data))) (syncOp tempP)).2 := hcc140.trans (congrArg (a₁ := (((DepotR.dat r102).Disk, cc106) : SD)) (a₂ := (stp (stp (stp (gone (gone (stp ((d.dat, 0) : SD) opY) tempP) (logName (gen + 1))) opY) (opC tempP)) (opA tempP (snapOut (gen + 1) seq data)))) (fun s => (stp s (syncOp tempP)).2) (Prod.ext (congrArg DepotD.Disk hS6) hv6))
 have hk9 : diskOk (stp (stp (stp (stp (gone (gone (stp ((d.dat, 0) : SD) opY) tempP) (logName (gen + 1))) opY) (opC tempP)) (opA tempP (snapOut (gen + 1) seq data))) (syncOp tempP)).1 = true := stp_ok hk6 (opS_ok temp_ok)
 have hb9 : totDisk (DepotR.dat r135).Disk ≤ 1048576 := by rw [hS9]; exact ok_tot hk9
 have hq9 : diskOk (DepotR.dat r135).Disk = true := by rw [hS9]; exact hk9
 have hs9_ := dep_sm hb9
 refine WL.r 1 hs141 [] rfl (WL.nil (WC.sr (WL.r 4 hs141 [] rfl (WL.cl Tryz.call68 rfl (k18_ _ _) ?_))))
 rintro _ whs142 ⟨rfl, hs142⟩
 replace hs142 := hs141.call0 hs142
 refine ⟨_, rfl, ?_⟩
 refine WL.val rfl rfl rfl (Run.build rfl rfl rfl rfl (built_75_0_1_2 _ _ _)) ?_
 have hF143 := ((hs142.fr L136).fb b37)
 refine WL.cl Tryz.call40 rfl (k94_ _ r135 _ _ _ _ _ _ _ _ _ _ (St.headP hF143) ho137 (St.ownP hF143) (SlF.nil _ _) (by first | assumption | omega | simp) (St.nodupP hF143) (fun h_ => absurd h_ (by omega)) ?_ ?_ ?_ ?_ ?_) ?_
 iterate 5 first | assumption | rfl | omega | decide | exact hb9 | exact hq9 | exact hs9_ | exact hbr | exact hqr | exact hsmr | exact hsm9 | exact Nat.le_trans hlz (by decide) | exact Nat.le_trans hsz (by decide) | exact Nat.le_trans hz9 (by decide) | exact hz9 | exact Nat.zero_le _
 rintro _ whs144 ⟨cc149, r145, L146, rfl, hs144, ho147, hd148, hcc150⟩
 replace hs144 := St.lendP hF143 hs144
 refine ⟨_, rfl, ?_⟩
 have hs151 := ((((hs144.fb b2).fb b4).fb b39).fb b37)
 have hS10 : DepotR.dat r145 = setP (⟨d.dat, gen, seq, 0, false⟩ : DepotD) (stp (stp (stp (stp (stp (gone (gone (stp ((d.dat, 0) : SD) opY) tempP) (logName (gen + 1))) opY) (opC tempP)) (opA tempP (snapOut (gen + 1) seq data))) (syncOp tempP)) (opM tempP (snapName (gen + 1)))) := hd148.trans ((congrArg (a₂ := setP (⟨d.dat, gen, seq, 0, false⟩ : DepotD) (stp (stp (stp (stp (gone (gone (stp ((d.dat, 0) : SD) opY) tempP) (logName (gen + 1))) opY) (opC tempP)) (opA tempP (snapOut (gen + 1) seq data))) (syncOp tempP))) (fun q => setP q (stp ((q.Disk, cc139) : SD) (opM tempP (snapName (gen + 1))))) (by exact hS9)).trans (congrArg (a₁ := (((stp (stp (stp (stp (gone (gone (stp ((d.dat, 0) : SD) opY) tempP) (logName (gen + 1))) opY) (opC tempP)) (opA tempP (snapOut (gen + 1) seq data))) (syncOp tempP)).1, cc139) : SD)) (a₂ := (stp (stp (stp (stp (gone (gone (stp ((d.dat, 0) : SD) opY) tempP) (logName (gen + 1))) opY) (opC tempP)) (opA tempP (snapOut (gen + 1) seq data))) (syncOp tempP))) (fun s => setP (⟨d.dat, gen, seq, 0, false⟩ : DepotD) (stp s (opM tempP (snapName (gen + 1))))) (Prod.ext rfl hv9)))
 have hv10 : cc149 = (stp (stp (stp (stp (stp (gone (gone (stp ((d.dat, 0) : SD) opY) tempP) (logName (gen + 1))) opY) (opC tempP)) (opA tempP (snapOut (gen + 1) seq data))) (syncOp tempP)) (opM tempP (snapName (gen + 1)))).2 := hcc150.trans (congrArg (a₁ := (((DepotR.dat r135).Disk, cc139) : SD)) (a₂ := (stp (stp (stp (stp (gone (gone (stp ((d.dat, 0) : SD) opY) tempP) (logName (gen + 1))) opY) (opC tempP)) (opA tempP (snapOut (gen + 1) seq data))) (syncOp tempP))) (fun s => (stp s (opM tempP (snapName (gen + 1)))).2) (Prod.ext (congrArg DepotD.Disk hS9) hv9))
 have hk10 : diskOk (stp (stp (stp (stp (stp (gone (gone (stp ((d.dat, 0) : SD) opY) tempP) (logName (gen + 1))) opY) (opC tempP)) (opA tempP (snapOut (gen + 1) seq data))) (syncOp tempP)) (opM tempP (snapName (gen + 1)))).1 = true := stp_ok hk9 (opM_ok temp_ok (snap_ok hgn))
 have hb10 : totDisk (DepotR.dat r145).Disk ≤ 1048576 := by rw [hS10]; exact ok_tot hk10
 have hq10 : diskOk (DepotR.dat r145).Disk = true := by rw [hS10]; exact hk10
 have hs10_ := dep_sm hb10
 refine WL.r 1 hs151 [] rfl (WL.nil (WC.sr (WL.r 4 hs151 [] rfl (WL.cl Tryz.call41 rfl (k17_ _ _) ?_))))
 rintro _ whs152 ⟨rfl, hs152⟩
 replace hs152 := hs151.call0 hs152
 refine ⟨_, rfl, ?_⟩
 refine WL.val rfl rfl rfl (Run.build rfl rfl rfl rfl (built_75_0_1 _ _)) ?_
 have hF153 := ((hs152.fr L146).fb b37)
 refine WL.cl Tryz.call40 rfl (k94_ _ r145 _ _ _ _ _ _ _ _ _ _ (St.headP hF153) ho147 (St.ownP hF153) (SlF.nil _ _) (by first | assumption | omega | simp) (St.nodupP hF153) (fun h_ => absurd h_ (by omega)) ?_ ?_ ?_ ?_ ?_) ?_
 iterate 5 first | assumption | rfl | omega | decide | exact hb10 | exact hq10 | exact hs10_ | exact hbr | exact hqr | exact hsmr | exact hsm9 | exact Nat.le_trans hlz (by decide) | exact Nat.le_trans hsz (by decide) | exact Nat.le_trans hz9 (by decide) | exact hz9 | exact Nat.zero_le _
 rintro _ whs154 ⟨cc159, r155, L156, rfl, hs154, ho157, hd158, hcc160⟩
 replace hs154 := St.lendP hF153 hs154
 refine ⟨_, rfl, ?_⟩
 have hs161 := ((((hs154.fb b2).fb b4).fb b39).fb b37)
 have hS11 : DepotR.dat r155 = setP (⟨d.dat, gen, seq, 0, false⟩ : DepotD) (stp (stp (stp (stp (stp (stp (gone (gone (stp ((d.dat, 0) : SD) opY) tempP) (logName (gen + 1))) opY) (opC tempP)) (opA tempP (snapOut (gen + 1) seq data))) (syncOp tempP)) (opM tempP (snapName (gen + 1)))) (opC (logName (gen + 1)))) := hd158.trans ((congrArg (a₂ := setP (⟨d.dat, gen, seq, 0, false⟩ : DepotD) (stp (stp (stp (stp (stp (gone (gone (stp ((d.dat, 0) : SD) opY) tempP) (logName (gen + 1))) opY) (opC tempP)) (opA tempP (snapOut (gen + 1) seq data))) (syncOp tempP)) (opM tempP (snapName (gen + 1))))) (fun q => setP q (stp ((q.Disk, cc149) : SD) (opC (logName (gen + 1))))) (by exact hS10)).trans (congrArg (a₁ := (((stp (stp (stp (stp (stp (gone (gone (stp ((d.dat, 0) : SD) opY) tempP) (logName (gen + 1))) opY) (opC tempP)) (opA tempP (snapOut (gen + 1) seq data))) (syncOp tempP)) (opM tempP (snapName (gen + 1)))).1, cc149) : SD)) (a₂ := (stp (stp (stp (stp (stp (gone (gone (stp ((d.dat, 0) : SD) opY) tempP) (logName (gen + 1))) opY) (opC tempP)) (opA tempP (snapOut (gen + 1) seq data))) (syncOp tempP)) (opM tempP (snapName (gen + 1))))) (fun s => setP (⟨d.dat, gen, seq, 0, false⟩ : DepotD) (stp s (opC (logName (gen + 1))))) (Prod.ext rfl hv10)))
 have hv11 : cc159 = (stp (stp (stp (stp (stp (stp (gone (gone (stp ((d.dat, 0) : SD) opY) tempP) (logName (gen + 1))) opY) (opC tempP)) (opA tempP (snapOut (gen + 1) seq data))) (syncOp tempP)) (opM tempP (snapName (gen + 1)))) (opC (logName (gen + 1)))).2 := hcc160.trans (congrArg (a₁ := (((DepotR.dat r145).Disk, cc149) : SD)) (a₂ := (stp (stp (stp (stp (stp (gone (gone (stp ((d.dat, 0) : SD) opY) tempP) (logName (gen + 1))) opY) (opC tempP)) (opA tempP (snapOut (gen + 1) seq data))) (syncOp tempP)) (opM tempP (snapName (gen + 1))))) (fun s => (stp s (opC (logName (gen + 1)))).2) (Prod.ext (congrArg DepotD.Disk hS10) hv10))
 have hk11 : diskOk (stp (stp (stp (stp (stp (stp (gone (gone (stp ((d.dat, 0) : SD) opY) tempP) (logName (gen + 1))) opY) (opC tempP)) (opA tempP (snapOut (gen + 1) seq data))) (syncOp tempP)) (opM tempP (snapName (gen + 1)))) (opC (logName (gen + 1)))).1 = true := stp_ok hk10 (opC_ok (log_ok hgn))
 have hb11 : totDisk (DepotR.dat r155).Disk ≤ 1048576 := by rw [hS11]; exact ok_tot hk11
 have hq11 : diskOk (DepotR.dat r155).Disk = true := by rw [hS11]; exact hk11
 have hs11_ := dep_sm hb11
 refine WL.r 1 hs161 [] rfl (WL.nil (WC.sr (WL.r 3 hs161 [1] rfl ?_)))
 have hF162 := ((hs161.fr L156).fb b37)
 refine WL.cl Tryz.call40 rfl (k94_ _ r155 _ _ _ _ _ _ _ _ _ _ (St.headP hF162) ho157 (St.ownP hF162) (SlF.nil _ _) (by first | assumption | omega | simp) (St.nodupP hF162) (fun h_ => absurd h_ (by omega)) ?_ ?_ ?_ ?_ ?_) ?_
 iterate 5 first | assumption | rfl | omega | decide | exact hb11 | exact hq11 | exact hs11_ | exact hbr | exact hqr | exact hsmr | exact hsm9 | exact Nat.le_trans hlz (by decide) | exact Nat.le_trans hsz (by decide) | exact Nat.le_trans hz9 (by decide) | exact hz9 | exact Nat.zero_le _
 rintro _ whs163 ⟨cc168, r164, L165, rfl, hs163, ho166, hd167, hcc169⟩
 replace hs163 := St.lendP hF162 hs163
 refine ⟨_, rfl, ?_⟩
 have hs170 := ((((hs163.fb b2).fb b4).fb b39).fb b37)
 have hS12 : DepotR.dat r164 = setP (⟨d.dat, gen, seq, 0, false⟩ : DepotD) (stp (stp (stp (stp (stp (stp (stp (gone (gone (stp ((d.dat, 0) : SD) opY) tempP) (logName (gen + 1))) opY) (opC tempP)) (opA tempP (snapOut (gen + 1) seq data))) (syncOp tempP)) (opM tempP (snapName (gen + 1)))) (opC (logName (gen + 1)))) opY) := hd167.trans ((congrArg (a₂ := setP (⟨d.dat, gen, seq, 0, false⟩ : DepotD) (stp (stp (stp (stp (stp (stp (gone (gone (stp ((d.dat, 0) : SD) opY) tempP) (logName (gen + 1))) opY) (opC tempP)) (opA tempP (snapOut (gen + 1) seq data))) (syncOp tempP)) (opM tempP (snapName (gen + 1)))) (opC (logName (gen + 1))))) (fun q => setP q (stp ((q.Disk, cc159) : SD) opY)) (by exact hS11)).trans (congrArg (a₁ := (((stp (stp (stp (stp (stp (stp (gone (gone (stp ((d.dat, 0) : SD) opY) tempP) (logName (gen + 1))) opY) (opC tempP)) (opA tempP (snapOut (gen + 1) seq data))) (syncOp tempP)) (opM tempP (snapName (gen + 1)))) (opC (logName (gen + 1)))).1, cc159) : SD)) (a₂ := (stp (stp (stp (stp (stp (stp (gone (gone (stp ((d.dat, 0) : SD) opY) tempP) (logName (gen + 1))) opY) (opC tempP)) (opA tempP (snapOut (gen + 1) seq data))) (syncOp tempP)) (opM tempP (snapName (gen + 1)))) (opC (logName (gen + 1))))) (fun s => setP (⟨d.dat, gen, seq, 0, false⟩ : DepotD) (stp s opY)) (Prod.ext rfl hv11)))
 have hv12 : cc168 = (stp (stp (stp (stp (stp (stp (stp (gone (gone (stp ((d.dat, 0) : SD) opY) tempP) (logName (gen + 1))) opY) (opC tempP)) (opA tempP (snapOut (gen + 1) seq data))) (syncOp tempP)) (opM tempP (snapName (gen + 1)))) (opC (logName (gen + 1)))) opY).2 := hcc169.trans (congrArg (a₁ := (((DepotR.dat r155).Disk, cc159) : SD)) (a₂ := (stp (stp (stp (stp (stp (stp (gone (gone (stp ((d.dat, 0) : SD) opY) tempP) (logName (gen + 1))) opY) (opC tempP)) (opA tempP (snapOut (gen + 1) seq data))) (syncOp tempP)) (opM tempP (snapName (gen + 1)))) (opC (logName (gen + 1))))) (fun s => (stp s opY).2) (Prod.ext (congrArg DepotD.Disk hS11) hv11))
 have hk12 : diskOk (stp (stp (stp (stp (stp (stp (stp (gone (gone (stp ((d.dat, 0) : SD) opY) tempP) (logName (gen + 1))) opY) (opC tempP)) (opA tempP (snapOut (gen + 1) seq data))) (syncOp tempP)) (opM tempP (snapName (gen + 1)))) (opC (logName (gen + 1)))) opY).1 = true := stp_ok hk11 opY_ok
 have hb12 : totDisk (DepotR.dat r164).Disk ≤ 1048576 := by rw [hS12]; exact ok_tot hk12
 have hq12 : diskOk (DepotR.dat r164).Disk = true := by rw [hS12]; exact hk12
 have hs12_ := dep_sm hb12
 have hT : DepotR.dat r164 = setP (⟨d.dat, gen, seq, 0, false⟩ : DepotD) (tail1 (fill1 (head1 d.dat (gen + 1)) (snapOut (gen + 1) seq data)) (gen + 1)) := hS12
 have hvT : cc168 = (tail1 (fill1 (head1 d.dat (gen + 1)) (snapOut (gen + 1) seq data)) (gen + 1)).2 := hv12
 have hkT : diskOk (tail1 (fill1 (head1 d.dat (gen + 1)) (snapOut (gen + 1) seq data)) (gen + 1)).1 = true := hk12
 have hDT := diskOk_P hkT
 have eD : (dirD (DiskR.dat (DepotR.Disk r164))) = (dirD (tail1 (fill1 (head1 d.dat (gen + 1)) (snapOut (gen + 1) seq data)) (gen + 1)).1) := congrArg (fun q : DepotD => dirD q.Disk) hT
 have hdl9 : (dirD (DiskR.dat (DepotR.Disk r164))).length ≤ 40 := by rw [eD]; exact Nat.le_trans turnsL_len (by have h9 := hDT.small; omega)
 have hsd9 : sortedL (dirD (DiskR.dat (DepotR.Disk r164))) := by rw [eD]; exact sorted_turns hDT.sorted hDT.runi
 have hsm9 := dep_sm hb12
 rw [hd167] at hsm9
 refine WL.r 1 hs170 [] rfl (WL.nil (WC.seq (fun K171 hK171 => WC.sr (WL.r 4 hs170 [0] rfl ?_))))
 refine WL.cl Tryz.call69 rfl (k66_ r164.Disk _ (ownDepotR.ok (B := 549755813888) ho166 (hs170.ow L165) (by rw [hd167]; assumption)).Disk ?_ ?_) ?_
 iterate 2 first | assumption | rfl | omega | decide | exact hb12 | exact hq12 | exact hs12_ | exact hbr | exact hqr | exact hsmr | exact hsm9 | exact Nat.le_trans hlz (by decide) | exact Nat.le_trans hsz (by decide) | exact Nat.le_trans hz9 (by decide) | exact hz9 | exact Nat.zero_le _
 rintro _ whs172 ⟨A173, c174, L1_175, rfl, hs172, ho176⟩
 replace hs172 := hs170.callF hs172
 refine ⟨_, rfl, ?_⟩
 replace hs172 := St.back [_, _, _, _] hs172
 refine WL.r 2 hs172 [] rfl (WL.nil (WC.block ?_))
 have hM181 := (St.grp1 (L1 := L165) [_] (((((((hs172.fr L1_20).fr L1_175).fb b2).fb b4).fb b39).fr L165).fb b37))
 refine WC.lV [1, 8, 9, 12, 13, 29, 40, 75, 115, 116] rfl hM181 (fun k_ (a_ : Hp) f => ∃ (c : Int) (i : Nat) (r : DepotR) (L179 : Hp), k_ = (dirD (DiskR.dat (DepotR.Disk r164))).length - i ∧ a_ = [(b37, .cells (List.toArray [i64 r.Disk.Room, i64 r.Disk.Fuse, i64 r.Disk.Next, .slice r.Disk.Files.A r.Disk.Files.n r.Disk.Files.c, .slice r.Disk.Kept.A r.Disk.Kept.n r.Disk.Kept.c, .slice r.Disk.Turns.A r.Disk.Turns.n r.Disk.Turns.c, i64 r.Gen, i64 r.Seq, i64 r.Size, .bool r.Stuck]) 36 (0, 0))] ++ L179 ∧ (i ≤ (dirD (DiskR.dat (DepotR.Disk r164))).length) ∧ (DepotR.dat r = setP (⟨d.dat, gen, seq, 0, false⟩ : DepotD) (sweepS (tail1 (fill1 (head1 d.dat (gen + 1)) (snapOut (gen + 1) seq data)) (gen + 1)) (gen + 1) ((dirD (DiskR.dat (DepotR.Disk r164))).take i))) ∧ (c = (sweepS (tail1 (fill1 (head1 d.dat (gen + 1)) (snapOut (gen + 1) seq data)) (gen + 1)) (gen + 1) ((dirD (DiskR.dat (DepotR.Disk r164))).take i)).2) ∧ (there (sweepS (tail1 (fill1 (head1 d.dat (gen + 1)) (snapOut (gen + 1) seq data)) (gen + 1)) (gen + 1) ((dirD (DiskR.dat (DepotR.Disk r164))).take i)) ((dirD (DiskR.dat (DepotR.Disk r164))).drop i)) ∧ ownDepotR r L179 ∧ Sub [(117, .int .i64 i), (14, .int .i64 c)] f) ((dirD (DiskR.dat (DepotR.Disk r164))).length) ?_ ?_
 ·refine ⟨_, 0, r164, L165, rfl, rfl, ?_, ?_, ?_, ?_, ho166, ⟨rfl, rfl, trivial⟩⟩
  · exact Nat.zero_le _
  · exact hT
  · exact hvT
  · exact (by rw [List.drop_zero, eD]; exact there_init _)
 rintro _ _ f w ⟨c, i, r, L179, rfl, rfl, p0, p1, p2, p3, ho180, hG⟩ hF hs182
 refine WC.sub _ (hG.app hF) ?_
 clear hG hF
 replace hs182 := St.ungrp1 [_] hs182
 have hs183 := ((((hs182.fb b2).fb b4).fb b39).fb b37)
 have hkr : diskOk (sweepS (tail1 (fill1 (head1 d.dat (gen + 1)) (snapOut (gen + 1) seq data)) (gen + 1)) (gen + 1) ((dirD (DiskR.dat (DepotR.Disk r164))).take i)).1 = true := sweep_ok hkT (fun x hx => hDT.names x (by rw [← eD]; exact List.mem_of_mem_take hx))
 have hbr : totDisk (DepotR.dat r).Disk ≤ 1048576 := by rw [p1]; exact ok_tot hkr
 have hqr : diskOk (DepotR.dat r).Disk = true := by rw [p1]; exact hkr
 have hsmr := dep_sm hbr
 refine WC.r1 hs183 [] rfl (WC.seq (fun K184 hK184 => ?_))
 refine WC.cq rfl (fun h185 qh185 => ?_) (fun h185 qh185 => ?_)
 ·have hi9 : i < (dirD (DiskR.dat (DepotR.Disk r164))).length := by have h9 := h185; simp at h9; omega
  have hnm9 : nameOk (gat encLink (dirD (DiskR.dat (DepotR.Disk r164))) i).Name = true := hDT.names _ (by rw [← eD]; exact gat_mem hi9)
  have hz9 := nameOk_size hnm9
  refine WC.skip (hK184 _ _ (WC.seq (fun K186 hK186 => WC.block (WC.sr ?_))))
  refine WL.val rfl rfl rfl (Run.idxK (i) Tryz.runUnderlying31 Tryz.sizeOf101 rfl rfl rfl ?_ ?_ ?_) ?_
  · exact SlF.some_ (SlF.ofOwn ho176 (hs183.ow L1_175))
  · omega
  · omega
  refine WL.val rfl rfl rfl (Run.loadA Tryz.isAgg101 Tryz.sizeOf101 rfl rfl (SlF.whole (SlF.ofOwn ho176 (hs183.ow L1_175)) ?_)) ?_
  · omega
  refine WL.al hs183 Tryz.zeroValue101 rfl rfl (fun b187 _ hs188 => WL.st tbk hs188 0 rfl rfl (fun _ hs189 => WL.nil (WC.sr (WL.r 2 hs189 [0] rfl ?_))))
  refine WL.cl Tryz.call70 rfl (k116_ _ _ ?_) ?_
  · first | assumption | rfl | omega | decide | exact hb12 | exact hq12 | exact hs12_ | exact hbr | exact hqr | exact hsmr | exact hsm9 | exact Nat.le_trans hlz (by decide) | exact Nat.le_trans hsz (by decide) | exact Nat.le_trans hz9 (by decide) | exact hz9 | exact Nat.zero_le _
  rintro _ whs190 ⟨rfl, hs190⟩
  replace hs190 := hs189.call0 hs190
  refine ⟨_, rfl, WL.r 5 hs190 [] rfl (WL.nil (WC.sr (WL.r 2 hs190 [] rfl ?_)))⟩
  refine WL.pA tbk 4 Acts.nil hs190 [] rfl rfl rfl rfl (fun g_ => by (try simp only [bf, within_iff, within_not] at g_); exact ⟨by omega, trivial⟩) (WL.nil (WC.cq rfl (fun h191 qh191 => ?_) (fun h191 qh191 => ?_)))
  ·have hcx : (genOk (gat encLink (dirD (DiskR.dat (DepotR.Disk r164))) i).Name && !decide (genV (gat encLink (dirD (DiskR.dat (DepotR.Disk r164))) i).Name = gen + 1)) = true := h191
   refine WC.region (WL.r 4 hs190 [0] rfl ?_)
   have hF192 := ((hs190.fr L179).fb b37)
   refine WL.cl Tryz.call67 rfl (k95_ _ r _ _ _ _ (St.headP hF192) ho180 (St.ownP hF192) (St.nodupP hF192) ?_ ?_ ?_) ?_
   iterate 3 first | assumption | rfl | omega | decide | exact hb12 | exact hq12 | exact hs12_ | exact hbr | exact hqr | exact hsmr | exact hsm9 | exact Nat.le_trans hlz (by decide) | exact Nat.le_trans hsz (by decide) | exact Nat.le_trans hz9 (by decide) | exact hz9 | exact Nat.zero_le _
   rintro _ whs193 ⟨cc198, r194, L195, rfl, hs193, ho196, hd197, hcc199⟩
   replace hs193 := St.lendP hF192 hs193
   refine ⟨_, rfl, ?_⟩
   have hs200 := (((((hs193.fb b2).fb b4).fb b39).fb b187).fb b37)
   have hpr : (((DepotR.dat r).Disk, c) : SD) = (sweepS (tail1 (fill1 (head1 d.dat (gen + 1)) (snapOut (gen + 1) seq data)) (gen + 1)) (gen + 1) ((dirD (DiskR.dat (DepotR.Disk r164))).take i)) := Prod.ext (congrArg DepotD.Disk p1) p2
   have hgo : gone ((DepotR.dat r).Disk, c) (gat encLink (dirD (DiskR.dat (DepotR.Disk r164))) i).Name = (sweepS (tail1 (fill1 (head1 d.dat (gen + 1)) (snapOut (gen + 1) seq data)) (gen + 1)) (gen + 1) ((dirD (DiskR.dat (DepotR.Disk r164))).take (i + 1))) := by rw [hpr, there_at hi9 p3, sweep_take hi9]; unfold sweep1; rw [if_pos hcx]
   have hnx : DepotR.dat r194 = setP (⟨d.dat, gen, seq, 0, false⟩ : DepotD) (sweepS (tail1 (fill1 (head1 d.dat (gen + 1)) (snapOut (gen + 1) seq data)) (gen + 1)) (gen + 1) ((dirD (DiskR.dat (DepotR.Disk r164))).take (i + 1))) := hd197.trans ((congrArg (a₂ := setP (⟨d.dat, gen, seq, 0, false⟩ : DepotD) (sweepS (tail1 (fill1 (head1 d.dat (gen + 1)) (snapOut (gen + 1) seq data)) (gen + 1)) (gen + 1) ((dirD (DiskR.dat (DepotR.Disk r164))).take i))) (fun q => setP q (gone ((DepotR.dat r).Disk, c) (gat encLink (dirD (DiskR.dat (DepotR.Disk r164))) i).Name)) (by exact p1)).trans (by rw [hgo]; rfl))
   have hcv := hcc199.trans (congrArg Prod.snd hgo)
   refine WL.r 1 hs200 [] rfl (WL.nil (hK186 _ _ (WC.region (WL.r 2 hs200 [] rfl (WL.nil (tkN ?_))))))
   replace hs200 := (hs200.fb b187).d1
   have hF201 := (St.grp1 (L1 := L195) [_] (((((((hs200.fr L1_20).fr L1_175).fb b2).fb b4).fb b39).fr L195).fb b37))
   refine ⟨sbF rfl, _, hF201, _, ?_, _, i + 1, r194, L195, rfl, rfl, ?_, ?_, ?_, ?_, ho196, ⟨rfl, rfl, trivial⟩⟩
   · omega
   · omega
   · exact hnx
   · exact hcv
   · exact there_sweep hsd9 hi9 p3
  have hcx : ¬ (genOk (gat encLink (dirD (DiskR.dat (DepotR.Disk r164))) i).Name && !decide (genV (gat encLink (dirD (DiskR.dat (DepotR.Disk r164))) i).Name = gen + 1)) = true := by have h9 := h191; rw [h9]; decide
  have hsw : (sweepS (tail1 (fill1 (head1 d.dat (gen + 1)) (snapOut (gen + 1) seq data)) (gen + 1)) (gen + 1) ((dirD (DiskR.dat (DepotR.Disk r164))).take (i + 1))) = (sweepS (tail1 (fill1 (head1 d.dat (gen + 1)) (snapOut (gen + 1) seq data)) (gen + 1)) (gen + 1) ((dirD (DiskR.dat (DepotR.Disk r164))).take i)) := by rw [sweep_take hi9]; unfold sweep1; rw [if_neg hcx]
  have hnx : DepotR.dat r = setP (⟨d.dat, gen, seq, 0, false⟩ : DepotD) (sweepS (tail1 (fill1 (head1 d.dat (gen + 1)) (snapOut (gen + 1) seq data)) (gen + 1)) (gen + 1) ((dirD (DiskR.dat (DepotR.Disk r164))).take (i + 1))) := by rw [hsw]; exact p1
  have hcv : c = (sweepS (tail1 (fill1 (head1 d.dat (gen + 1)) (snapOut (gen + 1) seq data)) (gen + 1)) (gen + 1) ((dirD (DiskR.dat (DepotR.Disk r164))).take (i + 1))).2 := by rw [hsw]; exact p2
  refine WC.skip (hK186 _ _ (WC.region (WL.r 2 hs190 [] rfl (WL.nil (tkN ?_)))))
  replace hs190 := hs190.d1
  have hF202 := (St.grp1 (L1 := L179) [_] (((((((hs190.fr L1_20).fr L1_175).fb b2).fb b4).fb b39).fr L179).fb b37))
  refine ⟨sbF rfl, _, hF202, _, ?_, _, i + 1, r, L179, rfl, rfl, ?_, ?_, ?_, ?_, ho180, ⟨rfl, rfl, trivial⟩⟩
  · omega
  · omega
  · exact hnx
  · exact hcv
  · exact there_sweep hsd9 hi9 p3
 refine WC.exit (hK171 _ _ (WC.sr (WL.r 3 hs183 [1] rfl ?_)))
 have hF203 := ((hs183.fr L179).fb b37)
 refine WL.cl Tryz.call40 rfl (k94_ _ r _ _ _ _ _ _ _ _ _ _ (St.headP hF203) ho180 (St.ownP hF203) (SlF.nil _ _) (by first | assumption | omega | simp) (St.nodupP hF203) (fun h_ => absurd h_ (by omega)) ?_ ?_ ?_ ?_ ?_) ?_
 iterate 5 first | assumption | rfl | omega | decide | exact hb12 | exact hq12 | exact hs12_ | exact hbr | exact hqr | exact hsmr | exact hsm9 | exact Nat.le_trans hlz (by decide) | exact Nat.le_trans hsz (by decide) | exact Nat.le_trans hz9 (by decide) | exact hz9 | exact Nat.zero_le _
 rintro _ whs204 ⟨cc209, r205, L206, rfl, hs204, ho207, hd208, hcc210⟩
 replace hs204 := St.lendP hF203 hs204
 refine ⟨_, rfl, ?_⟩
 have hs211 := ((((hs204.fb b2).fb b4).fb b39).fb b37)
 have hpr : (((DepotR.dat r).Disk, c) : SD) = sweepS (tail1 (fill1 (head1 d.dat (gen + 1)) (snapOut (gen + 1) seq data)) (gen + 1)) (gen + 1) (dirD (tail1 (fill1 (head1 d.dat (gen + 1)) (snapOut (gen + 1) seq data)) (gen + 1)).1) := Prod.ext ((congrArg DepotD.Disk p1).trans (by rw [List.take_of_length_le (by omega), eD]; rfl)) (p2.trans (by rw [List.take_of_length_le (by omega), eD]))
 have hfin : DepotR.dat r205 = setP (⟨d.dat, gen, seq, 0, false⟩ : DepotD) (stp (sweepS (tail1 (fill1 (head1 d.dat (gen + 1)) (snapOut (gen + 1) seq data)) (gen + 1)) (gen + 1) (dirD (tail1 (fill1 (head1 d.dat (gen + 1)) (snapOut (gen + 1) seq data)) (gen + 1)).1)) opY) := hd208.trans ((congrArg (a₂ := setP (⟨d.dat, gen, seq, 0, false⟩ : DepotD) (sweepS (tail1 (fill1 (head1 d.dat (gen + 1)) (snapOut (gen + 1) seq data)) (gen + 1)) (gen + 1) ((dirD (DiskR.dat (DepotR.Disk r164))).take i))) (fun q => setP q (stp ((DepotR.dat r).Disk, c) opY)) (by exact p1)).trans (by rw [hpr]; rfl))
 have hvf := hcc210.trans (congrArg (fun s : SD => (stp s opY).2) hpr)
 have hP : (beginP d.dat gen seq data) = (stp (sweepS (tail1 (fill1 (head1 d.dat (gen + 1)) (snapOut (gen + 1) seq data)) (gen + 1)) (gen + 1) (dirD (tail1 (fill1 (head1 d.dat (gen + 1)) (snapOut (gen + 1) seq data)) (gen + 1)).1)) opY) := by unfold beginP; rw [← snapOut_y hsn]; exact begin_n h5
 refine WL.r 1 hs211 [] rfl (WL.nil (WC.seq (fun K212 hK212 => WC.r1 hs211 [] rfl ?_)))
 refine WC.cq rfl (fun h213 qh213 => ?_) (fun h213 qh213 => ?_)
 ·have h0 : (stp (sweepS (tail1 (fill1 (head1 d.dat (gen + 1)) (snapOut (gen + 1) seq data)) (gen + 1)) (gen + 1) (dirD (tail1 (fill1 (head1 d.dat (gen + 1)) (snapOut (gen + 1) seq data)) (gen + 1)).1)) opY).2 = 0 := hvf.symm.trans (of_decide_eq_true h213)
  refine WC.region (WL.r 5 hs211 [] rfl (WL.st tbk hs211 0 rfl rfl (fun _ hs214 => WL.nil (hK212 _ _ (WC.sr (WL.r 4 hs214 [0] rfl (WL.st tbk hs214 2 rfl rfl (fun _ hs215 => ?_))))))))
  refine WL.r 1 hs215 [] rfl (WL.nil (WC.ret (retV2 rfl (resV.cellA tbk hs215 2 rfl rfl rfl rfl) (resV.tmp rfl) ?_)))
  obtain ⟨L216, L217, L218, hs222, ho219, ho220, ho221⟩ := ownDepotR.op hs215 ho207
  have hs223 := ((((hs222.fb b2).fb b4).fb b39).fb b37)
  obtain ⟨L225, hs224, ho226⟩ := ownDepotR.fl hs223 ho219 ho220 ho221
  have hs227 := ((((hs224.fb b2).fb b4).fb b39).fb b37)
  refine ⟨⟨⟨r205.Disk.Room, r205.Disk.Fuse, r205.Disk.Next, SlD.ofN ho219, SlD.of ho220, SlD.of ho221⟩, (gen + (1)), r205.Seq, r205.Size, r205.Stuck⟩, _, (by rw [hc]; first | done | rfl | (rw [hP, ← hvf]; first | done | rfl) | (rw [hP]; done)), (St.keep1 (hs227.fr L225)), ?_, ?_⟩
  · exact (by exact ho226)
  · rw [hdn, hP]; have q1_ := congrArg DepotD.Disk hfin; have q2_ := congrArg DepotD.Gen hfin; have q3_ := congrArg DepotD.Seq hfin; have q4_ := congrArg DepotD.Size hfin; have q5_ := congrArg DepotD.Stuck hfin; exact DepotD.ext' q1_ (show gen + 1 = (if _ = (0 : Int) then gen + 1 else gen) from (if_pos h0).symm) q3_ q4_ q5_
 have h0 : ¬ (stp (sweepS (tail1 (fill1 (head1 d.dat (gen + 1)) (snapOut (gen + 1) seq data)) (gen + 1)) (gen + 1) (dirD (tail1 (fill1 (head1 d.dat (gen + 1)) (snapOut (gen + 1) seq data)) (gen + 1)).1)) opY).2 = 0 := fun hx_ => (of_decide_eq_false h213) (hvf.trans hx_)
 refine WC.skip (hK212 _ _ (WC.sr (WL.r 4 hs211 [0] rfl (WL.st tbk hs211 2 rfl rfl (fun _ hs228 => WL.r 1 hs228 [] rfl (WL.nil (WC.ret ?_)))))))
 refine retV2 rfl (resV.cellA tbk hs228 2 rfl rfl rfl rfl) (resV.tmp rfl) ?_
 refine ⟨r205, _, (by rw [hc]; first | done | rfl | (rw [hP, ← hvf]; first | done | rfl) | (rw [hP]; done)), (St.keep1 (hs228.fr L206)), ?_, ?_⟩
 · exact ho207
 · rw [hdn, hP]; have q1_ := congrArg DepotD.Disk hfin; have q2_ := congrArg DepotD.Gen hfin; have q3_ := congrArg DepotD.Seq hfin; have q4_ := congrArg DepotD.Size hfin; have q5_ := congrArg DepotD.Stuck hfin; exact DepotD.ext' q1_ (q2_.trans (show gen = (if _ = (0 : Int) then gen + 1 else gen) from (if_neg h0).symm)) q3_ q4_ q5_
theorem k120_ (p : DepotR) (A_data : Option Addr) (n_data c_data : Nat) (data : List UInt8) (w : World) (f_p : okDepotR 549755813888 w p) (f_data : SlF encB w A_data n_data data) (hb : totDisk p.dat.Disk ≤ 1048576) (hn : n_data ≤ 1048576) :
    Calls Tryz.prog 17 #[.agg #[i64 p.Disk.Room, i64 p.Disk.Fuse, i64 p.Disk.Next, .slice p.Disk.Files.A p.Disk.Files.n p.Disk.Files.c, .slice p.Disk.Kept.A p.Disk.Kept.n p.Disk.Kept.c, .slice p.Disk.Turns.A p.Disk.Turns.n p.Disk.Turns.c, i64 p.Gen, i64 p.Seq, i64 p.Size, .bool p.Stuck], .slice A_data n_data c_data] w fun e w' => ∃ r L1, e = .returned (.tuple #[.agg #[i64 r.Disk.Room, i64 r.Disk.Fuse, i64 r.Disk.Next, .slice r.Disk.Files.A r.Disk.Files.n r.Disk.Files.c, .slice r.Disk.Kept.A r.Disk.Kept.n r.Disk.Kept.c, .slice r.Disk.Turns.A r.Disk.Turns.n r.Disk.Turns.c, i64 r.Gen, i64 r.Seq, i64 r.Size, .bool r.Stuck], .int .i64 (putC p.dat data)]) ∧ St w [] L1 w' ∧ ownDepotR r L1 ∧ r.dat = putD p.dat data := by
 have nb_p_Disk_Files := f_p.Disk.Files_n
 have nl_p_Disk_Files := f_p.Disk.Files.sl.len
 have nb_p_Disk_Kept := f_p.Disk.Kept_n
 have nl_p_Disk_Kept := f_p.Disk.Kept.len
 have nb_p_Disk_Turns := f_p.Disk.Turns_n
 have nl_p_Disk_Turns := f_p.Disk.Turns.len
 have hsmD : smDisk 1048576 p.dat.Disk := totDisk_sm hb
 have hln := logName_size p.Gen
 have hl := f_data.len
 have hsmB : smDepot 549755813888 p.dat := totDepot_sm (by show totDepot p.dat ≤ 549755813888; unfold totDepot; have := hb; unfold totDisk at this; omega)
 refine enter 57 Tryz.func17 rfl Tryz.ntmps17 rfl rfl ?_
 have hs1 := St.init w
 refine WC.sr (WL.bx hs1 rfl (fun b2 _ hs3 => WL.al hs3 Tryz.zeroValue36 rfl rfl (fun b4 _ hs5 => WL.r 1 hs5 [] rfl (WL.nil (WC.seq (fun K6 hK6 => WC.sr (WL.r 1 hs5 [1] rfl ?_)))))))
 refine WL.cl Tryz.call38 rfl (k84_ p _ (okDepotR.st0 f_p hs5) ?_) ?_
 · first | assumption | rfl | omega | exact hb | exact Nat.zero_le _ | exact Nat.le_trans hln (by decide)
 rintro _ whs7 ⟨rfl, hs7⟩
 replace hs7 := hs5.call0 hs7
 refine ⟨_, rfl, WL.r 2 hs7 [] rfl (WL.pO tbk 3 Acts.nil hs7 [] rfl rfl rfl rfl (fun g_ => trivial) (WL.nil (WC.cq rfl (fun h8 qh8 => ?_) (fun h8 qh8 => ?_))))⟩
 ·have hk : putGood p.dat data = false := by unfold putGood; have h9 := h8; revert h9; rw [hl]; cases depotOk p.dat <;> simp
  obtain ⟨hdn, hc⟩ := put_bad hk
  refine WC.sr ?_
  refine WL.val rfl rfl rfl (Run.build rfl rfl rfl rfl (built_36)) (WL.st tbk hs7 0 rfl rfl (fun _ hs9 => WL.r 1 hs9 [] rfl (WL.nil (WC.ret (tkR ?_)))))
  clear hK6
  refine retV2 rfl (resV.cellA tbk hs9 0 rfl rfl rfl rfl) (resV.tmp rfl) ?_
  obtain ⟨L14, hs13, ho15⟩ := ownDepotR.fl hs9 (OwnN.nil _ _ _) (OwnF.nil _ _) (OwnF.nil _ _)
  have hs16 := ((hs13.fb b2).fb b4)
  refine ⟨⟨⟨0, 0, 0, ⟨none, 0, 0, []⟩, ⟨none, 0, 0, []⟩, ⟨none, 0, 0, []⟩⟩, 0, 0, 0, false⟩, _, (by rw [hc]; first | done | rfl), (St.keep1 (hs16.fr L14)), ?_, ?_⟩
  · exact (by exact ho15)
  · rw [hdn]; rfl
 have hk : putGood p.dat data = true := by unfold putGood; have h9 := h8; revert h9; rw [hl]; cases depotOk p.dat <;> simp
 obtain ⟨hdk, hdl⟩ := putGood_P hk
 refine WC.skip (hK6 _ _ (WC.sr (WL.r 1 hs7 [1] rfl ?_)))
 refine WL.cl Tryz.call39 rfl (k85_ p _ (okDepotR.st0 f_p hs7) ?_) ?_
 · first | assumption | rfl | omega | exact hb | exact Nat.zero_le _ | exact Nat.le_trans hln (by decide)
 rintro _ whs17 ⟨r18, L1_19, rfl, hs17, ho20, hd21⟩
 replace hs17 := hs7.callF hs17
 refine ⟨_, rfl, ?_⟩
 replace hs17 := St.back [_, _] hs17
 have hcb : totDisk (DepotR.dat r18).Disk ≤ 1048576 := by rw [hd21]; exact hb
 have hcs : smDepot 549755813888 (DepotR.dat r18) := by rw [hd21]; exact hsmB
 refine WL.al hs17 Tryz.zeroValue36 rfl rfl (fun b22 _ hs23 => WL.st tbk hs23 0 rfl rfl (fun _ hs24 => WL.nil (WC.seq (fun K25 hK25 => WC.r1 hs24 [2] rfl ?_))))
 refine WC.cq rfl (fun h26 qh26 => ?_) (fun h26 qh26 => ?_)
 ·have hst : p.dat.Stuck = true := by show p.Stuck = true; have h9 := h26; simpa using h9
  obtain ⟨hdn, hc⟩ := put_st hk hst
  refine WC.sr (WL.r 1 hs24 [0] rfl (WL.st tbk hs24 1 rfl rfl (fun _ hs27 => WL.r 1 hs27 [] rfl (WL.nil (WC.ret (tkR ?_))))))
  clear hK25
  refine retV2 rfl (resV.cellA tbk hs27 1 rfl rfl rfl rfl) (resV.tmp rfl) ?_
  refine ⟨r18, _, (by rw [hc]; first | done | rfl), (St.keep1 (hs27.fr L1_19)), ?_, ?_⟩
  · exact ho20
  · rw [hdn]; exact hd21
 have hst : p.dat.Stuck = false := by show p.Stuck = false; have h9 := h26; simpa using h9
 refine WC.skip (hK25 _ _ (WC.sr (WL.r 3 hs24 [2] rfl ?_)))
 refine WL.cl Tryz.call46 rfl (k104_ _ _ _ _ _ _ (SlF.st0 f_data hs24) ?_) ?_
 · first | assumption | rfl | omega | exact hb | exact Nat.zero_le _ | exact Nat.le_trans hln (by decide)
 rintro _ whs28 ⟨A29, c30, L1_31, rfl, hs28, ho32⟩
 replace hs28 := hs24.callF hs28
 refine ⟨_, rfl, ?_⟩
 replace hs28 := St.back [_, _, _] hs28
 refine WL.r 5 hs28 [] rfl (WL.nil (WC.seq (fun K33 hK33 => WC.r1 hs28 [] rfl ?_)))
 refine WC.cq rfl (fun h34 qh34 => ?_) (fun h34 qh34 => ?_)
 ·have hsq : 1000000000 < p.dat.Seq := by
    rcases Int.lt_or_le 1000000000 p.dat.Seq with h8 | h8
    · exact h8
    · have h9 := h34; rw [show frameOk p.Seq data = true from put_frame (p := p.dat) hk (by omega)] at h9; cases h9
  obtain ⟨hdn, hc⟩ := put_full hk hst hsq
  refine WC.sr (WL.r 1 hs28 [0] rfl (WL.st tbk hs28 1 rfl rfl (fun _ hs35 => WL.r 1 hs35 [] rfl (WL.nil (WC.ret (tkR ?_))))))
  clear hK33
  refine retV2 rfl (resV.cellA tbk hs35 1 rfl rfl rfl rfl) (resV.tmp rfl) ?_
  refine ⟨r18, _, (by rw [hc]; first | done | rfl), (St.keep1 (hs35.fr L1_19)), ?_, ?_⟩
  · exact ho20
  · rw [hdn]; exact hd21
 have hsq : ¬ 1000000000 < p.dat.Seq := by intro h8; have h8' : 1000000000 < p.Seq := h8; have h9 := h34; rw [show frameOk p.Seq data = false from by unfold frameOk; rw [Bool.and_eq_false_iff, within_not]; left; omega] at h9; cases h9
 have hfk : frameOk p.Seq data = true := put_frame (p := p.dat) hk hsq
 have hfo : frameOut p.Seq data = frameL p.Seq data := frameOut_y hfk
 have hfl : (frameOut p.Seq data).length ≤ 60016 := by rw [hfo]; have h9 := (depA_nums (depotOk_A hdk)).2.1; have h8 : 1 ≤ p.Seq ∧ p.Seq ≤ 1000000001 := h9; have h7 := frameL_len (seq := p.Seq) (b := data) (by omega) (by omega); omega
 have hCO : doneC p.dat.Disk (⟨2, logName p.Gen, noName, frameOut p.Seq data⟩ : DiskOpD) = doneC p.dat.Disk (putOp p.dat data) := congrArg (fun l => doneC p.dat.Disk (⟨2, logName p.Gen, noName, l⟩ : DiskOpD)) hfo
 have hDO : doneD p.dat.Disk (⟨2, logName p.Gen, noName, frameOut p.Seq data⟩ : DiskOpD) = doneD p.dat.Disk (putOp p.dat data) := congrArg (fun l => doneD p.dat.Disk (⟨2, logName p.Gen, noName, l⟩ : DiskOpD)) hfo
 have hcode := put_code (p := p.dat) (b := data) hk hst hsq
 have hsq2 : p.Seq ≤ 1000000000 := by have h9 : ¬ 1000000000 < p.Seq := hsq; omega
 have hsq3 : 1 ≤ p.Seq := (depA_nums (depotOk_A hdk)).2.1.1
 refine WC.skip (hK33 _ _ (WC.sr (WL.r 2 hs28 [2] rfl (WL.cl Tryz.call41 rfl (k17_ _ _) ?_))))
 rintro _ whs36 ⟨rfl, hs36⟩
 replace hs36 := hs28.call0 hs36
 refine ⟨_, rfl, WL.r 1 hs36 [] rfl ?_⟩
 refine WL.val rfl rfl rfl (Run.build rfl rfl rfl rfl (built_75_0_1_3 _ _ _ _ _)) ?_
 have hF37 := ((hs36.fr L1_19).fb b22)
 refine WL.cl Tryz.call40 rfl (k86_ _ r18 _ _ _ _ _ _ _ _ _ _ (St.headP hF37) ho20 (St.ownP hF37) (SlF.ofOwn ho32 (hs36.ow L1_31)) (OwnF.cap ho32) (St.nodupP hF37) (OwnF.sep (L1 := (_, _) :: _) hF37 (fun p_ hp_ => (List.mem_append_right [_, _] (List.mem_append_left _ hp_))) ho32) ?_ ?_ ?_ ?_ ?_) ?_
 iterate 5 first | assumption | rfl | omega | exact hb | exact Nat.zero_le _ | exact Nat.le_trans hln (by decide)
 rintro _ whs38 ⟨r39, L40, rfl, hs38, ho41, hd42⟩
 replace hs38 := St.lendP hF37 hs38
 refine ⟨_, rfl, ?_⟩
 have hs43 := (((hs38.fb b2).fb b4).fb b22)
 have hS : stepC (DepotR.dat r18).Disk 0 (⟨2, logName p.Gen, noName, frameOut p.Seq data⟩ : DiskOpD) = doneC p.dat.Disk (putOp p.dat data) := (show doneC (DepotR.dat r18).Disk (⟨2, logName p.Gen, noName, frameOut p.Seq data⟩ : DiskOpD) = _ from by rw [hd21]; exact hCO)
 have hR : DepotR.dat r39 = ({ p.dat with Disk := doneD p.dat.Disk (putOp p.dat data) } : DepotD) := hd42.trans (by rw [hd21]; exact congrArg (fun q => ({ p.dat with Disk := q } : DepotD)) hDO)
 have hRq : r39.Seq = p.Seq := congrArg DepotD.Seq hR
 have hRs : r39.Size = p.Size := congrArg DepotD.Size hR
 have hRd := congrArg DepotD.Disk hR
 have hRg := congrArg DepotD.Gen hR
 have hRt := congrArg DepotD.Stuck hR
 refine WL.r 1 hs43 [] rfl (WL.nil (WC.seq (fun K44 hK44 => WC.r1 hs43 [] rfl ?_)))
 refine WC.cq rfl (fun h45 qh45 => ?_) (fun h45 qh45 => ?_)
 ·have h5 : doneC p.dat.Disk (putOp p.dat data) = 5 := by exact hS.symm.trans (of_decide_eq_true h45)
  have hdn := put_5 hk hst hsq h5
  have hc := hcode
  refine WC.region (WL.r 1 hs43 [] rfl (WL.st tbk hs43 0 rfl rfl (fun _ hs46 => WL.nil (hK44 _ _ (WC.seq (fun K47 hK47 => WC.r1 hs46 [] rfl ?_))))))
  refine WC.condF rfl (by rw [decide_eq_false_iff_not]; omega) (WC.skip (hK47 _ _ (WC.sr (WL.r 2 hs46 [0] rfl (WL.st tbk hs46 1 rfl rfl (fun _ hs49 => WL.r 1 hs49 [] rfl (WL.nil ?_)))))))
  refine WC.ret (retV2 rfl (resV.cellA tbk hs49 1 rfl rfl rfl rfl) (resV.tmp rfl) ?_)
  obtain ⟨L50, L51, L52, hs56, ho53, ho54, ho55⟩ := ownDepotR.op hs49 ho41
  have hs57 := (((hs56.fb b2).fb b4).fb b22)
  obtain ⟨L59, hs58, ho60⟩ := ownDepotR.fl hs57 ho53 ho54 ho55
  have hs61 := (((hs58.fb b2).fb b4).fb b22)
  refine ⟨⟨⟨r39.Disk.Room, r39.Disk.Fuse, r39.Disk.Next, SlD.ofN ho53, SlD.of ho54, SlD.of ho55⟩, r39.Gen, r39.Seq, r39.Size, true⟩, _, (by rw [hc, ← hS]; first | done | rfl), (St.keep1 (hs61.fr L59)), ?_, ?_⟩
  · exact (by exact ho60)
  · rw [hdn]; exact DepotD.ext' hRd hRg hRq hRs rfl
 have h5 : ¬ doneC p.dat.Disk (putOp p.dat data) = 5 := by exact fun h9 => (of_decide_eq_false h45) (hS.trans h9)
 have hc := hcode
 refine WC.skip (hK44 _ _ (WC.seq (fun K62 hK62 => WC.r1 hs43 [] rfl ?_)))
 refine WC.cq rfl (fun h63 qh63 => ?_) (fun h63 qh63 => ?_)
 ·have h0 : doneC p.dat.Disk (putOp p.dat data) = 0 := by exact hS.symm.trans (of_decide_eq_true h63)
  have hdn := put_0 hk hst hsq h0
  have hsz : p.Size ≤ 1048576 := put_size (p := p.dat) hdk hst h0 hsmD
  have hsz0 : 0 ≤ p.Size := (depA_nums (depotOk_A hdk)).2.2
  refine WC.sr (WL.r 4 hs43 [0] rfl (WL.st tbk hs43 0 rfl rfl (fun _ hs64 => WL.nil (WC.region (WL.r 6 hs64 [0] rfl (WL.st tbk hs64 0 rfl rfl (fun _ hs65 => WL.nil ?_)))))))
  refine hK62 _ _ (WC.sr (WL.r 2 hs65 [0] rfl (WL.st tbk hs65 1 rfl rfl (fun _ hs66 => WL.r 1 hs66 [] rfl (WL.nil (WC.ret (retV2 rfl (resV.cellA tbk hs66 1 rfl rfl rfl rfl) (resV.tmp rfl) ?_)))))))
  obtain ⟨L67, L68, L69, hs73, ho70, ho71, ho72⟩ := ownDepotR.op hs66 ho41
  have hs74 := (((hs73.fb b2).fb b4).fb b22)
  obtain ⟨L76, hs75, ho77⟩ := ownDepotR.fl hs74 ho70 ho71 ho72
  have hs78 := (((hs75.fb b2).fb b4).fb b22)
  refine ⟨⟨⟨r39.Disk.Room, r39.Disk.Fuse, r39.Disk.Next, SlD.ofN ho70, SlD.of ho71, SlD.of ho72⟩, r39.Gen, (r39.Seq + (1)), _, r39.Stuck⟩, _, (by rw [hc, ← hS]; first | done | rfl), (St.keep1 (hs78.fr L76)), ?_, ?_⟩
  · exact (by exact ho77)
  · rw [hdn]; exact DepotD.ext' hRd hRg (by show _ + 1 = _ + 1; rw [hRq]; rfl) (by show _ + _ = _ + _; rw [hRs]; exact congrArg (fun l : List UInt8 => p.Size + (l.length : Int)) hfo) hRt
 have h0 : ¬ doneC p.dat.Disk (putOp p.dat data) = 0 := by exact fun h9 => (of_decide_eq_false h63) (hS.trans h9)
 have hdn := put_n hk hst hsq h0 h5
 refine WC.skip (hK62 _ _ (WC.sr (WL.r 2 hs43 [0] rfl (WL.st tbk hs43 1 rfl rfl (fun _ hs79 => WL.r 1 hs79 [] rfl (WL.nil (WC.ret ?_)))))))
 refine retV2 rfl (resV.cellA tbk hs79 1 rfl rfl rfl rfl) (resV.tmp rfl) ?_
 refine ⟨r39, _, (by rw [hc, ← hS]; first | done | rfl), (St.keep1 (hs79.fr L40)), ?_, ?_⟩
 · exact ho41
 · rw [hdn]; exact DepotD.ext' hRd hRg hRq hRs hRt
theorem k121_ (p : DepotR) (A_data : Option Addr) (n_data c_data : Nat) (data : List UInt8) (w : World) (f_p : okDepotR 549755813888 w p) (f_data : SlF encB w A_data n_data data) (hb : totDisk p.dat.Disk ≤ 1048576) (hn : n_data ≤ 1048576) (hl9 : LibOk w) :
    Calls Tryz.prog 33 #[.agg #[i64 p.Disk.Room, i64 p.Disk.Fuse, i64 p.Disk.Next, .slice p.Disk.Files.A p.Disk.Files.n p.Disk.Files.c, .slice p.Disk.Kept.A p.Disk.Kept.n p.Disk.Kept.c, .slice p.Disk.Turns.A p.Disk.Turns.n p.Disk.Turns.c, i64 p.Gen, i64 p.Seq, i64 p.Size, .bool p.Stuck], .slice A_data n_data c_data] w fun e w' => ∃ r L1, e = .returned (.tuple #[.agg #[i64 r.Disk.Room, i64 r.Disk.Fuse, i64 r.Disk.Next, .slice r.Disk.Files.A r.Disk.Files.n r.Disk.Files.c, .slice r.Disk.Kept.A r.Disk.Kept.n r.Disk.Kept.c, .slice r.Disk.Turns.A r.Disk.Turns.n r.Disk.Turns.c, i64 r.Gen, i64 r.Seq, i64 r.Size, .bool r.Stuck], .int .i64 (compC p.dat data)]) ∧ St w [] L1 w' ∧ ownDepotR r L1 ∧ r.dat = compD p.dat data := by
 have nb_p_Disk_Files := f_p.Disk.Files_n
 have nl_p_Disk_Files := f_p.Disk.Files.sl.len
 have nb_p_Disk_Kept := f_p.Disk.Kept_n
 have nl_p_Disk_Kept := f_p.Disk.Kept.len
 have nb_p_Disk_Turns := f_p.Disk.Turns_n
 have nl_p_Disk_Turns := f_p.Disk.Turns.len
 have hsmD : smDisk 1048576 p.dat.Disk := totDisk_sm hb
 have hsmB : smDepot 549755813888 p.dat := dep_sm hb
 refine enter 42 Tryz.func33 rfl Tryz.ntmps33 rfl rfl ?_
 have hs1 := St.init w
 refine WC.sr (WL.bx hs1 rfl (fun b2 _ hs3 => WL.al hs3 Tryz.zeroValue36 rfl rfl (fun b4 _ hs5 => WL.r 1 hs5 [] rfl (WL.nil (WC.seq (fun K6 hK6 => WC.block (WC.sr ?_)))))))
 refine WL.r 1 hs5 [1] rfl (WL.cl Tryz.call25 rfl (k89_ p _ (okDepotR.st0 f_p hs5) ?_ ?_) ?_)
 iterate 2 first | assumption | rfl | omega | exact hb | exact lib_st hl9 (by assumption) | exact lib_tab hl9 (by assumption)
 rintro _ whs7 ⟨rfl, hs7⟩
 replace hs7 := hs5.call0 hs7
 refine ⟨_, rfl, WL.r 2 hs7 [] rfl (WL.nil (WC.cq rfl (fun h8 qh8 => ?_) (fun h8 qh8 => ?_)))⟩
 ·have hk : depotOk p.dat = false := by have h9 := h8; simpa using h9
  obtain ⟨hdn, hc⟩ := comp_bad (b := data) hk
  refine WC.sr ?_
  refine WL.val rfl rfl rfl (Run.build rfl rfl rfl rfl (built_36)) (WL.st tbk hs7 0 rfl rfl (fun _ hs9 => WL.r 1 hs9 [] rfl (WL.nil (WC.ret (ibR (tkR ?_))))))
  clear hK6
  refine retV2 rfl (resV.cellA tbk hs9 0 rfl rfl rfl rfl) (resV.tmp rfl) ?_
  obtain ⟨L14, hs13, ho15⟩ := ownDepotR.fl hs9 (OwnN.nil _ _ _) (OwnF.nil _ _) (OwnF.nil _ _)
  have hs16 := ((hs13.fb b2).fb b4)
  refine ⟨⟨⟨0, 0, 0, ⟨none, 0, 0, []⟩, ⟨none, 0, 0, []⟩, ⟨none, 0, 0, []⟩⟩, 0, 0, 0, false⟩, _, (by rw [hc]; first | done | rfl), (St.keep1 (hs16.fr L14)), ?_, ?_⟩
  · exact (by exact ho15)
  · rw [hdn]; rfl
 have hk : depotOk p.dat = true := by have h9 := h8; simpa using h9
 refine WC.r1 hs7 [1] rfl (WC.cq rfl (fun h17 qh17 => ?_) (fun h17 qh17 => ?_))
 ·have hst : p.dat.Stuck = true := by show p.Stuck = true; have h9 := h17; simpa using h9
  obtain ⟨hdn, hc⟩ := comp_st (b := data) hk hst
  refine WC.sr (WL.r 1 hs7 [1] rfl (WL.cl Tryz.call42 rfl (k90_ p _ (okDepotR.st0 f_p hs7) ?_) ?_))
  · first | assumption | rfl | omega | exact hb | exact lib_st hl9 (by assumption) | exact lib_tab hl9 (by assumption)
  rintro _ whs18 ⟨r19, L1_20, rfl, hs18, ho21, hd22⟩
  replace hs18 := hs7.callF hs18
  refine ⟨_, rfl, ?_⟩
  replace hs18 := St.back [_, _] hs18
  refine WL.st tbk hs18 0 rfl rfl (fun _ hs23 => WL.r 1 hs23 [] rfl (WL.nil (WC.ret (ibR (tkR ?_)))))
  clear hK6
  refine retV2 rfl (resV.cellA tbk hs23 0 rfl rfl rfl rfl) (resV.tmp rfl) ?_
  refine ⟨r19, _, (by rw [hc]; first | done | rfl), (St.keep1 (hs23.fr L1_20)), ?_, ?_⟩
  · exact ho21
  · rw [hdn]; exact hd22
 have hst : p.dat.Stuck = false := by show p.Stuck = false; have h9 := h17; simpa using h9
 refine WC.skip (hK6 _ _ (WC.sr (WL.r 7 hs7 [1, 1, 1] rfl ?_)))
 refine WL.cl Tryz.call29 rfl (k118_ p.Disk _ _ _ _ _ _ _ (okDiskR.st0 f_p.Disk hs7) (SlF.st0 f_data hs7) ?_ ?_ ?_) ?_
 iterate 3 first | assumption | rfl | omega | exact hb | exact lib_st hl9 (by assumption) | exact lib_tab hl9 (by assumption)
 rintro _ whs24 ⟨r25, L1_26, rfl, hs24, ho27, hd28⟩
 replace hs24 := hs7.callF hs24
 refine ⟨_, rfl, ?_⟩
 replace hs24 := St.back [_, _] hs24
 have hbg := hd28
 refine WL.r 3 hs24 [] rfl (WL.al hs24 Tryz.zeroValue36 rfl rfl (fun b29 _ hs30 => WL.st tbk hs30 0 rfl rfl (fun _ hs31 => WL.r 1 hs31 [] rfl (WL.nil (WC.seq (fun K32 hK32 => WC.r1 hs31 [] rfl (WC.block ?_)))))))
 refine WC.r1 hs31 [] rfl (WC.cq rfl (fun h33 qh33 => ?_) (fun h33 qh33 => ?_))
 ·have h0 : compK p.dat data = 0 := of_decide_eq_true h33
  obtain ⟨hdn, hc⟩ := comp_0 hk hst h0
  refine WC.sr (WL.r 1 hs31 [0] rfl (WL.st tbk hs31 1 rfl rfl (fun _ hs34 => WL.r 1 hs34 [] rfl (WL.nil (WC.ret (ibR (tkR ?_)))))))
  clear hK32
  refine retV2 rfl (resV.cellA tbk hs34 1 rfl rfl rfl rfl) (resV.tmp rfl) ?_
  refine ⟨r25, _, (by rw [hc]; first | done | rfl), (St.keep1 (hs34.fr L1_26)), ?_, ?_⟩
  · exact ho27
  · rw [hdn]; exact hd28
 have h0 : ¬ compK p.dat data = 0 := of_decide_eq_false h33
 refine WC.r1 hs31 [] rfl (WC.cq rfl (fun h35 qh35 => ?_) (fun h35 qh35 => ?_))
 ·have h1 : compK p.dat data = 1 := of_decide_eq_true h35
  obtain ⟨hdn, hc⟩ := comp_1 hk hst h1
  refine WC.sr (WL.r 1 hs31 [2] rfl (WL.cl Tryz.call42 rfl (k90_ p _ (okDepotR.st0 f_p hs31) ?_) ?_))
  · first | assumption | rfl | omega | exact hb | exact lib_st hl9 (by assumption) | exact lib_tab hl9 (by assumption)
  rintro _ whs36 ⟨r37, L1_38, rfl, hs36, ho39, hd40⟩
  replace hs36 := hs31.callF hs36
  refine ⟨_, rfl, ?_⟩
  replace hs36 := St.back [_, _, _] hs36
  refine WL.st tbk hs36 1 rfl rfl (fun _ hs41 => WL.r 1 hs41 [] rfl (WL.nil (WC.ret (ibR (tkR ?_)))))
  clear hK32
  refine retV2 rfl (resV.cellA tbk hs41 1 rfl rfl rfl rfl) (resV.tmp rfl) ?_
  refine ⟨r37, _, (by rw [hc]; first | done | rfl), (St.keep1 (hs41.fr L1_38)), ?_, ?_⟩
  · exact ho39
  · rw [hdn]; exact hd40
 have h1 : ¬ compK p.dat data = 1 := of_decide_eq_false h35
 obtain ⟨hdn, hc⟩ := comp_n hk hst h0 h1
 refine WC.skip (hK32 _ _ (WC.sr (WL.r 3 hs31 [0] rfl (WL.st tbk hs31 2 rfl rfl (fun _ hs42 => WL.nil (WC.sr (WL.r 2 hs42 [2] rfl ?_)))))))
 refine WL.st tbk hs42 1 rfl rfl (fun _ hs43 => WL.r 1 hs43 [] rfl (WL.nil (WC.ret (retV2 rfl (resV.cellA tbk hs43 1 rfl rfl rfl rfl) (resV.tmp rfl) ?_))))
 obtain ⟨L44, L45, L46, hs50, ho47, ho48, ho49⟩ := ownDepotR.op hs43 ho27
 have hs51 := (((hs50.fb b2).fb b4).fb b29)
 obtain ⟨L53, hs52, ho54⟩ := ownDepotR.fl hs51 ho47 ho48 ho49
 have hs55 := (((hs52.fb b2).fb b4).fb b29)
 refine ⟨⟨⟨r25.Disk.Room, r25.Disk.Fuse, r25.Disk.Next, SlD.ofN ho47, SlD.of ho48, SlD.of ho49⟩, p.Gen, p.Seq, p.Size, p.Stuck⟩, _, (by rw [hc]; first | done | rfl), (St.keep1 (hs55.fr L53)), ?_, ?_⟩
 · exact (by exact ho54)
 · rw [hdn]; have q_ := congrArg DepotD.Disk hbg; exact DepotD.ext' q_ rfl rfl rfl rfl
theorem k122_ (p : DepotR) (A_data : Option Addr) (n_data c_data : Nat) (data : List UInt8) (w : World) (f_p : okDepotR 549755813888 w p) (f_data : SlF encB w A_data n_data data) (hb : totDisk p.dat.Disk ≤ 1048576) (hn : n_data ≤ 1048576) :
    Calls Tryz.prog 32 #[.agg #[i64 p.Disk.Room, i64 p.Disk.Fuse, i64 p.Disk.Next, .slice p.Disk.Files.A p.Disk.Files.n p.Disk.Files.c, .slice p.Disk.Kept.A p.Disk.Kept.n p.Disk.Kept.c, .slice p.Disk.Turns.A p.Disk.Turns.n p.Disk.Turns.c, i64 p.Gen, i64 p.Seq, i64 p.Size, .bool p.Stuck], .slice A_data n_data c_data] w fun e w' => ∃ r L1, e = .returned (.tuple #[.agg #[i64 r.Disk.Room, i64 r.Disk.Fuse, i64 r.Disk.Next, .slice r.Disk.Files.A r.Disk.Files.n r.Disk.Files.c, .slice r.Disk.Kept.A r.Disk.Kept.n r.Disk.Kept.c, .slice r.Disk.Turns.A r.Disk.Turns.n r.Disk.Turns.c, i64 r.Gen, i64 r.Seq, i64 r.Size, .bool r.Stuck], .int .i64 (compC p.dat data)]) ∧ St w [] L1 w' ∧ ownDepotR r L1 ∧ r.dat = compD p.dat data := by
 have nb_p_Disk_Files := f_p.Disk.Files_n
 have nl_p_Disk_Files := f_p.Disk.Files.sl.len
 have nb_p_Disk_Kept := f_p.Disk.Kept_n
 have nl_p_Disk_Kept := f_p.Disk.Kept.len
 have nb_p_Disk_Turns := f_p.Disk.Turns_n
 have nl_p_Disk_Turns := f_p.Disk.Turns.len
 have hsmD : smDisk 1048576 p.dat.Disk := totDisk_sm hb
 have hsmB : smDepot 549755813888 p.dat := dep_sm hb
 refine enter 40 Tryz.func32 rfl Tryz.ntmps32 rfl rfl ?_
 have hs1 := St.init w
 refine WC.sr (WL.bx hs1 rfl (fun b2 _ hs3 => WL.al hs3 Tryz.zeroValue36 rfl rfl (fun b4 _ hs5 => WL.r 1 hs5 [] rfl (WL.nil (WC.seq (fun K6 hK6 => WC.sr (WL.r 1 hs5 [1] rfl ?_)))))))
 refine WL.cl Tryz.call38 rfl (k84_ p _ (okDepotR.st0 f_p hs5) ?_) ?_
 · first | assumption | rfl | omega | exact hb
 rintro _ whs7 ⟨rfl, hs7⟩
 replace hs7 := hs5.call0 hs7
 refine ⟨_, rfl, WL.r 1 hs7 [] rfl (WL.nil (WC.cq rfl (fun h8 qh8 => ?_) (fun h8 qh8 => ?_)))⟩
 ·have hk : depotOk p.dat = false := by have h9 := h8; simpa using h9
  obtain ⟨hdn, hc⟩ := comp_bad (b := data) hk
  refine WC.sr ?_
  refine WL.val rfl rfl rfl (Run.build rfl rfl rfl rfl (built_36)) (WL.st tbk hs7 0 rfl rfl (fun _ hs9 => WL.r 1 hs9 [] rfl (WL.nil (WC.ret (tkR ?_)))))
  clear hK6
  refine retV2 rfl (resV.cellA tbk hs9 0 rfl rfl rfl rfl) (resV.tmp rfl) ?_
  obtain ⟨L14, hs13, ho15⟩ := ownDepotR.fl hs9 (OwnN.nil _ _ _) (OwnF.nil _ _) (OwnF.nil _ _)
  have hs16 := ((hs13.fb b2).fb b4)
  refine ⟨⟨⟨0, 0, 0, ⟨none, 0, 0, []⟩, ⟨none, 0, 0, []⟩, ⟨none, 0, 0, []⟩⟩, 0, 0, 0, false⟩, _, (by rw [hc]; first | done | rfl), (St.keep1 (hs16.fr L14)), ?_, ?_⟩
  · exact (by exact ho15)
  · rw [hdn]; rfl
 have hk : depotOk p.dat = true := by have h9 := h8; simpa using h9
 refine WC.skip (hK6 _ _ (WC.sr (WL.r 1 hs7 [1] rfl ?_)))
 refine WL.cl Tryz.call39 rfl (k85_ p _ (okDepotR.st0 f_p hs7) ?_) ?_
 · first | assumption | rfl | omega | exact hb
 rintro _ whs17 ⟨r18, L1_19, rfl, hs17, ho20, hd21⟩
 replace hs17 := hs7.callF hs17
 refine ⟨_, rfl, ?_⟩
 replace hs17 := St.back [_, _] hs17
 have hcp := hd21
 refine WL.al hs17 Tryz.zeroValue36 rfl rfl (fun b22 _ hs23 => WL.st tbk hs23 0 rfl rfl (fun _ hs24 => WL.nil (WC.seq (fun K25 hK25 => WC.r1 hs24 [2] rfl ?_))))
 refine WC.cq rfl (fun h26 qh26 => ?_) (fun h26 qh26 => ?_)
 ·have hst : p.dat.Stuck = true := by show p.Stuck = true; have h9 := h26; simpa using h9
  obtain ⟨hdn, hc⟩ := comp_st (b := data) hk hst
  refine WC.sr (WL.r 1 hs24 [0] rfl (WL.st tbk hs24 1 rfl rfl (fun _ hs27 => WL.r 1 hs27 [] rfl (WL.nil (WC.ret (tkR ?_))))))
  clear hK25
  refine retV2 rfl (resV.cellA tbk hs27 1 rfl rfl rfl rfl) (resV.tmp rfl) ?_
  refine ⟨r18, _, (by rw [hc]; first | done | rfl), (St.keep1 (hs27.fr L1_19)), ?_, ?_⟩
  · exact ho20
  · rw [hdn]; exact hd21
 have hst : p.dat.Stuck = false := by show p.Stuck = false; have h9 := h26; simpa using h9
 refine WC.skip (hK25 _ _ (WC.sr (WL.r 7 hs24 [2, 2, 2] rfl ?_)))
 refine WL.cl Tryz.call27 rfl (k119_ p.Disk _ _ _ _ _ _ _ (okDiskR.st0 f_p.Disk hs24) (SlF.st0 f_data hs24) ?_ ?_) ?_
 iterate 2 first | assumption | rfl | omega | exact hb
 rintro _ whs28 ⟨r29, L1_30, rfl, hs28, ho31, hd32⟩
 replace hs28 := hs24.callF hs28
 refine ⟨_, rfl, ?_⟩
 replace hs28 := St.back [_, _, _] hs28
 have hbg := hd32
 refine WL.r 3 hs28 [] rfl (WL.al hs28 Tryz.zeroValue36 rfl rfl (fun b33 _ hs34 => WL.st tbk hs34 0 rfl rfl (fun _ hs35 => WL.r 1 hs35 [] rfl (WL.nil (WC.seq (fun K36 hK36 => WC.r1 hs35 [] rfl ?_))))))
 refine WC.cq rfl (fun h37 qh37 => ?_) (fun h37 qh37 => ?_)
 ·have h0 : compK p.dat data = 0 := of_decide_eq_true h37
  obtain ⟨hdn, hc⟩ := comp_0 hk hst h0
  refine WC.sr (WL.r 1 hs35 [0] rfl (WL.st tbk hs35 2 rfl rfl (fun _ hs38 => WL.r 1 hs38 [] rfl (WL.nil (WC.ret (tkR ?_))))))
  clear hK36
  refine retV2 rfl (resV.cellA tbk hs38 2 rfl rfl rfl rfl) (resV.tmp rfl) ?_
  refine ⟨r29, _, (by rw [hc]; first | done | rfl), (St.keep1 (hs38.fr L1_30)), ?_, ?_⟩
  · exact ho31
  · rw [hdn]; exact hd32
 have h0 : ¬ compK p.dat data = 0 := of_decide_eq_false h37
 refine WC.skip (hK36 _ _ (WC.seq (fun K39 hK39 => WC.r1 hs35 [] rfl ?_)))
 refine WC.cq rfl (fun h40 qh40 => ?_) (fun h40 qh40 => ?_)
 ·have h1 : compK p.dat data = 1 := of_decide_eq_true h40
  obtain ⟨hdn, hc⟩ := comp_1 hk hst h1
  refine WC.sr (WL.r 1 hs35 [1] rfl (WL.st tbk hs35 2 rfl rfl (fun _ hs41 => WL.r 1 hs41 [] rfl (WL.nil (WC.ret (tkR ?_))))))
  clear hK39
  refine retV2 rfl (resV.cellA tbk hs41 2 rfl rfl rfl rfl) (resV.tmp rfl) ?_
  refine ⟨r18, _, (by rw [hc]; first | done | rfl), (St.keep1 (hs41.fr L1_19)), ?_, ?_⟩
  · exact ho20
  · rw [hdn]; exact hd21
 have h1 : ¬ compK p.dat data = 1 := of_decide_eq_false h40
 obtain ⟨hdn, hc⟩ := comp_n hk hst h0 h1
 refine WC.skip (hK39 _ _ (WC.sr (WL.r 3 hs35 [0] rfl (WL.st tbk hs35 1 rfl rfl (fun _ hs42 => WL.nil (WC.sr (WL.r 2 hs42 [1] rfl ?_)))))))
 refine WL.st tbk hs42 2 rfl rfl (fun _ hs43 => WL.r 1 hs43 [] rfl (WL.nil (WC.ret (retV2 rfl (resV.cellA tbk hs43 2 rfl rfl rfl rfl) (resV.tmp rfl) ?_))))
 obtain ⟨L44, L45, L46, hs50, ho47, ho48, ho49⟩ := ownDepotR.op hs43 ho31
 have hs51 := ((((hs50.fb b2).fb b4).fb b22).fb b33)
 obtain ⟨L53, hs52, ho54⟩ := ownDepotR.fl hs51 ho47 ho48 ho49
 have hs55 := ((((hs52.fb b2).fb b4).fb b22).fb b33)
 refine ⟨⟨⟨r29.Disk.Room, r29.Disk.Fuse, r29.Disk.Next, SlD.ofN ho47, SlD.of ho48, SlD.of ho49⟩, r18.Gen, r18.Seq, r18.Size, r18.Stuck⟩, _, (by rw [hc]; first | done | rfl), (St.keep1 (hs55.fr L53)), ?_, ?_⟩
 · exact (by exact ho54)
 · rw [hdn]; have q_ := congrArg DepotD.Disk hbg; have g1_ := congrArg DepotD.Gen hcp; have g2_ := congrArg DepotD.Seq hcp; have g3_ := congrArg DepotD.Size hcp; have g4_ := congrArg DepotD.Stuck hcp; exact DepotD.ext' q_ g1_ g2_ g3_ g4_
theorem take_all {α : Type} {l : List α} {c : Nat} (h : (l.length : Int) ≤ (c : Int)) : l.take c = l := List.take_of_length_le (by omega)
theorem crash_old {d : DiskD} {g a s : Int} {y : List UInt8} {l : List LoadD} {t : Int} {κ : Nat → Int} (hg : isGenB g = true) (hs : snapOk g s y = true) (hj : jrnOk s l = true) (hk : diskOk d = true)
  (hd : crashL d t = [⟨logName g, a + 1⟩, ⟨snapName g, a⟩] ∨ ∃ k, crashL d t = [⟨logName g, a + 1⟩, ⟨snapName g, a⟩, ⟨tempP, k⟩]) (f1 : (⟨a, snapL g s y, (snapL g s y).length⟩ : FileD) ∈ d.Files) (f2 : (⟨a + 1, jrnL s l, (jrnL s l).length⟩ : FileD) ∈ d.Files) :
  findD (crashK d t κ) = ⟨g, s, y, l, 0⟩ := by
 obtain ⟨n1, n2, _⟩ := names_ne hg
 obtain ⟨c1, k1, k2, k3⟩ := crash_read hk (t := t) (κ := κ) (n := logName g) (i := a + 1) (by rcases hd with hd | ⟨k, hd⟩ <;> rw [hd] <;> simp [hasN, isN]) (by rcases hd with hd | ⟨k, hd⟩ <;> rw [hd] <;> simp [findL, isN]) f2 rfl
 obtain ⟨c2, k4, k5, k6⟩ := crash_read hk (t := t) (κ := κ) (n := snapName g) (i := a) (by rcases hd with hd | ⟨k, hd⟩ <;> rw [hd] <;> simp [hasN, isN]) (by rcases hd with hd | ⟨k, hd⟩ <;> rw [hd] <;> simp [findL, isN, n1]) f1 rfl
 rw [take_all k1] at k3
 rw [take_all k4] at k6
 have hn : snOk (jrnL s l) = false := by have := jrn_noSnap (l := l) (s := s) (k := (jrnL s l).length); rwa [List.take_length] at this
 have := find_old hg (ok_crash hk t κ) (by rcases hd with hd | ⟨k, hd⟩; exact .inl ⟨_, _, hd⟩; exact .inr ⟨_, _, _, hd⟩) k3 hn k6 hs
 rw [jrn_whole hj] at this
 exact this
theorem crash_new {d : DiskD} {g q i : Int} {b : List UInt8} {t : Int} {κ : Nat → Int} {pre : List LinkD} (hg : isGenB g = true) (hs : snapOk (g + 1) q b = true) (hk : diskOk d = true)
  (hd : crashL d t = pre ++ [⟨snapName (g + 1), i⟩]) (hp : ∀ x, x ∈ pre → x.Name = logName g ∨ x.Name = logName (g + 1) ∨ x.Name = snapName g) (hsn : findL (crashL d t) (snapName (g + 1)) = i) (f1 : (⟨i, snapL (g + 1) q b, (snapL (g + 1) q b).length⟩ : FileD) ∈ d.Files)
  (hL : hasN (crashL d t) (logName (g + 1)) = false ∨ hasN (crashL d t) (logName (g + 1)) = true ∧ ∃ j, findL (crashL d t) (logName (g + 1)) = j ∧ (⟨j, [], 0⟩ : FileD) ∈ d.Files) :
  findD (crashK d t κ) = ⟨g + 1, q, b, [], 0⟩ := by
 obtain ⟨c2, k4, k5, k6⟩ := crash_read hk (t := t) (κ := κ) (n := snapName (g + 1)) (i := i) (by rw [hd]; simp [hasN, isN]) hsn f1 rfl
 rw [take_all k4] at k6
 refine find_new hg (ok_crash hk t κ) hd hp ?_ k6 hs
 rcases hL with hL | ⟨h1, j, h2, h3⟩
 ·exact read_no (by unfold readOk; rw [show hasN (dirD (crashK d t κ)) (logName (g + 1)) = false from hL, Bool.and_false])
 ·obtain ⟨c, _, _, k⟩ := crash_read hk (t := t) (κ := κ) h1 h2 h3 rfl
  rw [k]; exact List.take_nil
theorem crash_begin {g a s : Int} {y b : List UInt8} {l : List LoadD} {t : Int} {κ : Nat → Int} (hg : 1 ≤ g ∧ g ≤ 8) (ha : 1 ≤ a ∧ a ≤ 100) (hs : snapOk g s y = true) (hj : jrnOk s l = true) (hb : snapOk (g + 1) (s + l.length) b = true) {j : Nat} (hj11 : j ≤ 11)
  (hk : diskOk (liveX g a s y l (jrnL s l).length b j) = true) :
  findD (crashK (liveX g a s y l (jrnL s l).length b j) t κ) = ⟨g + 1, s + l.length, b, [], 0⟩ ∨ j < 11 ∧ findD (crashK (liveX g a s y l (jrnL s l).length b j) t κ) = ⟨g, s, y, l, 0⟩ := by
 obtain ⟨⟨⟨a1, a2⟩, a3, a4⟩, ⟨⟨b1, b2⟩, b3, b4⟩, ⟨⟨c1, c2⟩, c3, c4⟩, ⟨⟨d1, d2⟩, d3, d4⟩, ⟨⟨e1, e2⟩, e3, e4⟩, ⟨⟨f1, f2⟩, f3, f4⟩, ⟨⟨g1, g2⟩, g3, g4⟩, ⟨⟨h1, h2⟩, h3, h4⟩, ⟨⟨i1, i2⟩, i3, i4⟩, ⟨⟨j1, j2⟩, j3, j4⟩⟩ := (names_five hg).two
 have hgb : isGenB g = true := by unfold isGenB; rw [within_iff]; omega
 have hn : crashN (liveX g a s y l (jrnL s l).length b j) t ≤ (liveX g a s y l (jrnL s l).length b j).Turns.length := by unfold crashN; omega
 have old : ∀ d, diskOk d = true → (crashL d t = [⟨logName g, a + 1⟩, ⟨snapName g, a⟩] ∨ ∃ k, crashL d t = [⟨logName g, a + 1⟩, ⟨snapName g, a⟩, ⟨tempP, k⟩]) → (⟨a, snapL g s y, (snapL g s y).length⟩ : FileD) ∈ d.Files → (⟨a + 1, jrnL s l, (jrnL s l).length⟩ : FileD) ∈ d.Files → findD (crashK d t κ) = ⟨g, s, y, l, 0⟩ := fun d h1 h2 h3 h4 => crash_old hgb hs hj h1 h2 h3 h4
 generalize hq : crashN (liveX g a s y l (jrnL s l).length b j) t = n at hn
 have hcl : crashL (liveX g a s y l (jrnL s l).length b j) t = turnsL (liveX g a s y l (jrnL s l).length b j).Kept ((liveX g a s y l (jrnL s l).length b j).Turns.take n) := by unfold crashL; rw [hq]
 match j, hj11 with
 | 0, _ =>
  obtain rfl : n = 0 := by simpa [liveX, chX] using hn
  exact .inr ⟨by omega, old _ hk (.inl hcl) (by simp [liveX, chX]) (by simp [liveX, chX])⟩
 | 1, _ =>
  obtain rfl : n = 0 := by simpa [liveX, chX] using hn
  exact .inr ⟨by omega, old _ hk (.inl hcl) (by simp [liveX, chX]) (by simp [liveX, chX])⟩
 | 2, _ =>
  obtain rfl : n = 0 := by simpa [liveX, chX] using hn
  exact .inr ⟨by omega, old _ hk (.inl hcl) (by simp [liveX, chX]) (by simp [liveX, chX])⟩
 | 3, _ =>
  have hn2 : n ≤ 1 := by simpa [liveX, chX] using hn
  refine .inr ⟨by omega, old _ hk ?_ (by simp [liveX, chX]) (by simp [liveX, chX])⟩
  rcases (by omega : n = 0 ∨ n = 1) with rfl | rfl
  ·exact .inl hcl
  ·exact .inr ⟨a + 2, by rw [hcl]; simp [liveX, chX, turnsL, turnL, withL, *]⟩
 | 4, _ =>
  have hn2 : n ≤ 1 := by simpa [liveX, chX] using hn
  refine .inr ⟨by omega, old _ hk ?_ (by simp [liveX, chX]) (by simp [liveX, chX])⟩
  rcases (by omega : n = 0 ∨ n = 1) with rfl | rfl
  ·exact .inl hcl
  ·exact .inr ⟨a + 2, by rw [hcl]; simp [liveX, chX, turnsL, turnL, withL, *]⟩
 | 5, _ =>
  have hn2 : n ≤ 1 := by simpa [liveX, chX] using hn
  refine .inr ⟨by omega, old _ hk ?_ (by simp [liveX, chX]) (by simp [liveX, chX])⟩
  rcases (by omega : n = 0 ∨ n = 1) with rfl | rfl
  ·exact .inl hcl
  ·exact .inr ⟨a + 2, by rw [hcl]; simp [liveX, chX, turnsL, turnL, withL, *]⟩
 | 6, _ =>
  have hn2 : n ≤ 2 := by simpa [liveX, chX] using hn
  rcases (by omega : n = 0 ∨ n = 1 ∨ n = 2) with rfl | rfl | rfl
  ·exact .inr ⟨by omega, old _ hk (.inl hcl) (by simp [liveX, chX]) (by simp [liveX, chX])⟩
  ·exact .inr ⟨by omega, old _ hk (.inr ⟨a + 2, by rw [hcl]; simp [liveX, chX, turnsL, turnL, withL, *]⟩) (by simp [liveX, chX]) (by simp [liveX, chX])⟩
  ·have e : crashL (liveX g a s y l (jrnL s l).length b 6) t = [⟨logName g, a + 1⟩, ⟨snapName g, a⟩] ++ [⟨snapName (g + 1), a + 2⟩] := by rw [hcl]; simp [liveX, chX, turnsL, turnL, withL, lessL, findL, isN, *]
   exact .inl (crash_new hgb hb hk e (by simp) (by rw [e]; simp [findL, isN, *]) (by simp [liveX, chX]) (.inl (by rw [e]; simp [hasN, isN, *])))
 | 7, _ =>
  have hn2 : n ≤ 3 := by simpa [liveX, chX] using hn
  rcases (by omega : n = 0 ∨ n = 1 ∨ n = 2 ∨ n = 3) with rfl | rfl | rfl | rfl
  ·exact .inr ⟨by omega, old _ hk (.inl hcl) (by simp [liveX, chX]) (by simp [liveX, chX])⟩
  ·exact .inr ⟨by omega, old _ hk (.inr ⟨a + 2, by rw [hcl]; simp [liveX, chX, turnsL, turnL, withL, *]⟩) (by simp [liveX, chX]) (by simp [liveX, chX])⟩
  ·have e : crashL (liveX g a s y l (jrnL s l).length b 7) t = [⟨logName g, a + 1⟩, ⟨snapName g, a⟩] ++ [⟨snapName (g + 1), a + 2⟩] := by rw [hcl]; simp [liveX, chX, turnsL, turnL, withL, lessL, findL, isN, *]
   exact .inl (crash_new hgb hb hk e (by simp) (by rw [e]; simp [findL, isN, *]) (by simp [liveX, chX]) (.inl (by rw [e]; simp [hasN, isN, *])))
  ·have e : crashL (liveX g a s y l (jrnL s l).length b 7) t = [⟨logName g, a + 1⟩, ⟨logName (g + 1), a + 2 + 1⟩, ⟨snapName g, a⟩] ++ [⟨snapName (g + 1), a + 2⟩] := by rw [hcl]; simp [liveX, chX, turnsL, turnL, withL, lessL, findL, isN, *]
   exact .inl (crash_new hgb hb hk e (by simp) (by rw [e]; simp [findL, isN, *]) (by simp [liveX, chX]) (.inr ⟨by rw [e]; simp [hasN, isN, *], a + 2 + 1, by rw [e]; simp [findL, isN, *], by simp [liveX, chX]⟩))
 | 8, _ =>
  obtain rfl : n = 0 := by simpa [liveX, chX] using hn
  have e : crashL (liveX g a s y l (jrnL s l).length b 8) t = [⟨logName g, a + 1⟩, ⟨logName (g + 1), a + 2 + 1⟩, ⟨snapName g, a⟩] ++ [⟨snapName (g + 1), a + 2⟩] := hcl
  exact .inl (crash_new hgb hb hk e (by simp) (by rw [e]; simp [findL, isN, *]) (by simp [liveX, chX]) (.inr ⟨by rw [e]; simp [hasN, isN, *], a + 2 + 1, by rw [e]; simp [findL, isN, *], by simp [liveX, chX]⟩))
 | 9, _ =>
  have hn2 : n ≤ 1 := by simpa [liveX, chX] using hn
  rcases (by omega : n = 0 ∨ n = 1) with rfl | rfl
  ·have e : crashL (liveX g a s y l (jrnL s l).length b 9) t = [⟨logName g, a + 1⟩, ⟨logName (g + 1), a + 2 + 1⟩, ⟨snapName g, a⟩] ++ [⟨snapName (g + 1), a + 2⟩] := hcl
   exact .inl (crash_new hgb hb hk e (by simp) (by rw [e]; simp [findL, isN, *]) (by simp [liveX, chX]) (.inr ⟨by rw [e]; simp [hasN, isN, *], a + 2 + 1, by rw [e]; simp [findL, isN, *], by simp [liveX, chX]⟩))
  ·have e : crashL (liveX g a s y l (jrnL s l).length b 9) t = [⟨logName (g + 1), a + 2 + 1⟩, ⟨snapName g, a⟩] ++ [⟨snapName (g + 1), a + 2⟩] := by rw [hcl]; simp [liveX, chX, turnsL, turnL, lessL, isN, *]
   exact .inl (crash_new hgb hb hk e (by simp) (by rw [e]; simp [findL, isN, *]) (by simp [liveX, chX]) (.inr ⟨by rw [e]; simp [hasN, isN, *], a + 2 + 1, by rw [e]; simp [findL, isN, *], by simp [liveX, chX]⟩))
 | 10, _ =>
  have hn2 : n ≤ 2 := by simpa [liveX, chX] using hn
  rcases (by omega : n = 0 ∨ n = 1 ∨ n = 2) with rfl | rfl | rfl
  ·have e : crashL (liveX g a s y l (jrnL s l).length b 10) t = [⟨logName g, a + 1⟩, ⟨logName (g + 1), a + 2 + 1⟩, ⟨snapName g, a⟩] ++ [⟨snapName (g + 1), a + 2⟩] := hcl
   exact .inl (crash_new hgb hb hk e (by simp) (by rw [e]; simp [findL, isN, *]) (by simp [liveX, chX]) (.inr ⟨by rw [e]; simp [hasN, isN, *], a + 2 + 1, by rw [e]; simp [findL, isN, *], by simp [liveX, chX]⟩))
  ·have e : crashL (liveX g a s y l (jrnL s l).length b 10) t = [⟨logName (g + 1), a + 2 + 1⟩, ⟨snapName g, a⟩] ++ [⟨snapName (g + 1), a + 2⟩] := by rw [hcl]; simp [liveX, chX, turnsL, turnL, lessL, isN, *]
   exact .inl (crash_new hgb hb hk e (by simp) (by rw [e]; simp [findL, isN, *]) (by simp [liveX, chX]) (.inr ⟨by rw [e]; simp [hasN, isN, *], a + 2 + 1, by rw [e]; simp [findL, isN, *], by simp [liveX, chX]⟩))
  ·have e : crashL (liveX g a s y l (jrnL s l).length b 10) t = [⟨logName (g + 1), a + 2 + 1⟩] ++ [⟨snapName (g + 1), a + 2⟩] := by rw [hcl]; simp [liveX, chX, turnsL, turnL, lessL, isN, *]
   exact .inl (crash_new hgb hb hk e (by simp) (by rw [e]; simp [findL, isN, *]) (by simp [liveX, chX]) (.inr ⟨by rw [e]; simp [hasN, isN, *], a + 2 + 1, by rw [e]; simp [findL, isN, *], by simp [liveX, chX]⟩))
 | 11, _ =>
  obtain rfl : n = 0 := by simpa [liveX, chX] using hn
  have e : crashL (liveX g a s y l (jrnL s l).length b 11) t = [⟨logName (g + 1), a + 2 + 1⟩] ++ [⟨snapName (g + 1), a + 2⟩] := hcl
  exact .inl (crash_new hgb hb hk e (by simp) (by rw [e]; simp [findL, isN, *]) (by simp [liveX, chX]) (.inr ⟨by rw [e]; simp [hasN, isN, *], a + 2 + 1, by rw [e]; simp [findL, isN, *], by simp [liveX, chX]⟩))
theorem begin_law {i : Nat} {p : DepotD} {b : List UInt8} (h : Made i p) (hi : i ≤ 5) (hb : b.length ≤ 20) {f : Int} (hf : -1 ≤ f ∧ f ≤ 1000) (t : Int) (κ : Nat → Int) :
  flushC p = 0 ∧ totDisk (flushD p).Disk ≤ 1048576 ∧ (findD (flushD p).Disk).G = (flushD p).Gen ∧ diskOk { (flushD p).Disk with Fuse := f } = true ∧
  diskOk (compD { flushD p with Disk := { (flushD p).Disk with Fuse := f } } b).Disk = true ∧
  (findD (crashK (compD { flushD p with Disk := { (flushD p).Disk with Fuse := f } } b).Disk t κ) = ⟨(findD (flushD p).Disk).G + 1, (flushD p).Seq, b, [], 0⟩ ∨
   compC { flushD p with Disk := { (flushD p).Disk with Fuse := f } } b ≠ 0 ∧ findD (crashK (compD { flushD p with Disk := { (flushD p).Disk with Fuse := f } } b).Disk t κ) = findD (flushD p).Disk ∧ (findD (flushD p).Disk).C = 0) := by
 obtain ⟨g, a, s, y, l, sf, h, h1, h2, h3, h4⟩ := h
 obtain ⟨f0, hl⟩ := h.flush
 have e1 := hl.find
 have q1 := hl.eq
 have ht := hl.tot
 refine ⟨f0, ht, by rw [e1, q1], ?_⟩
 rw [e1]
 rw [q1] at hl ⊢
 have hg1 := hl.hg
 have hs := (snapOk_P hl.hs).2.2.1
 have hn := hl.hn
 have hb2 : snapOk (g + 1) (s + l.length) b = true := snapOk_mk (by omega) (by omega) (by omega)
 obtain ⟨c0, c1, c2, _⟩ := live_comp hl (by omega) hf hb
 refine ⟨any_fuse hl.ok hf, ?_⟩
 show diskOk (compD ⟨{ liveD g a s y l (jrnL s l).length with Fuse := f }, g, s + l.length, (jrnL s l).length, false⟩ b).Disk = true ∧ (findD (crashK (compD ⟨{ liveD g a s y l (jrnL s l).length with Fuse := f }, g, s + l.length, (jrnL s l).length, false⟩ b).Disk t κ) = _ ∨ compC ⟨{ liveD g a s y l (jrnL s l).length with Fuse := f }, g, s + l.length, (jrnL s l).length, false⟩ b ≠ 0 ∧ findD (crashK (compD ⟨{ liveD g a s y l (jrnL s l).length with Fuse := f }, g, s + l.length, (jrnL s l).length, false⟩ b).Disk t κ) = _ ∧ _)
 rw [c1, c2]
 rcases cst_end (X := liveX g a s y l (jrnL s l).length b) (f := f) (N := 11) hf.1 with ⟨e, k1, k2⟩ | ⟨j, hj, k1, k2⟩
 ·rw [k1, k2]
  have hk := c0.all 11 (by omega)
  refine ⟨?_, ?_⟩
  ·have hz : e = f ∨ e = f - 11 := by
    have := congrArg DiskD.Fuse k1
    unfold cst at this
    split at this
    ·left; exact this.symm
    ·split at this
     ·right; exact this.symm
     ·rename_i q; exfalso; unfold cst at k2; rw [if_neg (by assumption), if_neg q] at k2; exact absurd (show (2 : Int) = 0 from k2) (by decide)
   refine any_fuse hk ?_
   rcases hz with rfl | rfl
   ·exact hf
   ·have h9 := congrArg DiskD.Fuse k1
    unfold cst at h9
    split at h9
    ·have : f = f - 11 := h9; omega
    ·split at h9
     ·omega
     ·rename_i q; exfalso; unfold cst at k2; rw [if_neg (by assumption), if_neg q] at k2; exact absurd (show (2 : Int) = 0 from k2) (by decide)
  ·left
   rcases crash_begin (t := t) (κ := κ) (by omega) hl.ha hl.hs hl.hj hb2 (Nat.le_refl 11) hk with h9 | h9
   ·exact h9
   ·omega
 ·rw [k1, k2]
  have hk := c0.all j (by omega)
  refine ⟨any_fuse hk (by omega), ?_⟩
  rcases crash_begin (t := t) (κ := κ) (by omega) hl.ha hl.hs hl.hj hb2 (Nat.le_of_lt hj) hk with h9 | h9
  ·exact .inl h9
  ·exact .inr ⟨by decide, h9.2, rfl⟩
theorem Made.seq {i : Nat} {p : DepotD} (h : Made i p) : (0 ≤ p.Seq ∧ p.Seq ≤ 9 + i) ∧ (findD p.Disk).L.length ≤ 9 + i := by
 obtain ⟨g, a, s, y, l, sf, h, h1, h2, h3, h4⟩ := h
 have hs := (snapOk_P h.hs).2.2.1
 rw [h.find, h.eq]
 refine ⟨⟨?_, h3⟩, ?_⟩
 ·show 0 ≤ s + (l.length : Int); omega
 ·show l.length ≤ 9 + i; omega
theorem Made.ok {i : Nat} {p : DepotD} (h : Made i p) : diskOk p.Disk = true := by
 obtain ⟨g, a, s, y, l, sf, h, _⟩ := h
 rw [h.eq]; exact h.ok
theorem Made.gen {i : Nat} {p : DepotD} (h : Made i p) : 1 ≤ p.Gen ∧ p.Gen ≤ 9 := by
 obtain ⟨g, a, s, y, l, sf, h, _⟩ := h
 rw [h.eq]; exact h.hg
set_option maxHeartbeats 8000000 in
theorem k123_ (A_s : Option Addr) (n_s c_s : Nat) (s : List UInt8) (w : World) (f_s : SlF encB w A_s n_s s) (hn : n_s ≤ 1048576) :
    Calls Tryz.prog 22 #[.slice A_s n_s c_s] w fun e w' => ∃ r A c zs L1 L2, e = .returned (.tuple #[.agg #[i64 r.Disk.Room, i64 r.Disk.Fuse, i64 r.Disk.Next, .slice r.Disk.Files.A r.Disk.Files.n r.Disk.Files.c, .slice r.Disk.Kept.A r.Disk.Kept.n r.Disk.Kept.c, .slice r.Disk.Turns.A r.Disk.Turns.n r.Disk.Turns.c, i64 r.Gen, i64 r.Seq, i64 r.Size, .bool r.Stuck], .slice A (List.length zs) c]) ∧ St w [] (L1 ++ L2) w' ∧ ownDepotR r L1 ∧ OwnF encB 5 (.slice A (List.length zs) c) zs L2 ∧ Made 5 r.dat ∧ (List.length zs : Int) ≤ 12 := by
 have hl := f_s.len
 refine enter 62 Tryz.func22 rfl Tryz.ntmps22 rfl rfl ?_
 have hs1 := St.init w
 refine WC.sr (WL.al hs1 Tryz.zeroValue36 rfl rfl (fun b2 _ hs3 => WL.r 1 hs3 [] rfl (WL.nil (WC.sr (WL.r 1 hs3 [] rfl ?_)))))
 refine WL.call rfl rfl rfl (Run.call Tryz.call48 rfl rfl rfl) (k1_ _ _ _ _ _ (SlF.st0 f_s hs3) ?_) ?_
 · omega
 rintro _ whs6 ⟨b4, h5, rfl, hs6⟩
 replace hs6 := hs3.callF hs6
 refine ⟨_, rfl, WL.r 1 hs6 [] rfl (WL.nil (WC.sr (WL.cl Tryz.call49 rfl (k87_ _ _ ?_) ?_)))⟩
 · first | assumption | rfl | omega | exact p0.tot | exact hb1 | (show _ ≤ 1048576; omega)
 rintro _ whs7 ⟨r8, L1_9, rfl, hs7, ho10, hd11⟩
 replace hs7 := hs6.callF hs7
 refine ⟨_, rfl, ?_⟩
 replace hs7 := St.back [_, _] hs7
 have hdn := hd11
 have hbd : totDisk (DiskR.dat r8) ≤ 1048576 := by rw [hd11]; decide
 have hsd : smDisk 549755813888 (⟨400000, -1, 1, [], [], []⟩ : DiskD) := totDisk_sm (by decide)
 refine WL.r 3 hs7 [] rfl (WL.al hs7 Tryz.zeroValue34 rfl rfl (fun b12 _ hs13 => WL.st tbk hs13 0 rfl rfl (fun _ hs14 => WL.r 1 hs14 [] rfl (WL.nil (WC.seq (fun K15 hK15 => ?_))))))
 refine WC.jRC 7 [0, 2, 3, 4, 5, 10, 11, 12, 13, 14, 15] rfl (hs14.fb b4) (fun o_ p_ L_ => ∃ (r : DepotR) (i_ h_ : Int), o_ = Obj.cells (List.toArray [i64 r.Disk.Room, i64 r.Disk.Fuse, i64 r.Disk.Next, .slice r.Disk.Files.A r.Disk.Files.n r.Disk.Files.c, .slice r.Disk.Kept.A r.Disk.Kept.n r.Disk.Kept.c, .slice r.Disk.Turns.A r.Disk.Turns.n r.Disk.Turns.c, i64 r.Gen, i64 r.Seq, i64 r.Size, .bool r.Stuck]) 36 (0, 0) ∧ p_ = Obj.cells (List.toArray [.slice A_s n_s c_s, i64 (i_), i64 (h_)]) 118 (0, 0) ∧ ownDepotR r L_ ∧ (Made 0 r.dat) ∧ 0 ≤ i_ ∧ i_ ≤ n_s) ?_ ?_
 ·refine WC.rG 13 (hs14.fb b4).d1 (hs14.fb b4).d1 hs14 (fun _ hs16 => ?_)
  refine WG.rn [0, 1, 3, 6] (hs16.fb b4).d1 [0] rfl rfl (WG.all [2, 12] (by kernel_rfl) rfl (WGs.cons (i := 2) rfl rfl ?_ (WGs.cons (i := 12) rfl rfl ?_ WGs.nil)))
  ·replace hs16 := (hs16.fb b4)
   have hF17 : St _ _ ([(b4, _)] ++ _) _ := hs16
   refine WL.call rfl rfl rfl (Run.call Tryz.call50 rfl rfl rfl) (k3_ _ _ _ _ _ _ _ _ _ (hF17.own _ List.mem_cons_self).1 (SlF.st0 f_s hs16) (St.sep hF17 f_s) ?_ ?_) ?_
   · omega
   · omega
   rintro _ whs23 ⟨r18, i19, h20, rfl, hs23, hr21, hi22⟩
   replace hs23 := St.lend1 hF17 hs23
   try have hbhr21 := hr21.2 (by omega)
   refine ⟨_, rfl, WL.nil ⟨hs23.d1, WG.all [4, 12] (by kernel_rfl) rfl (WGs.cons (i := 4) rfl rfl ?_ (WGs.cons (i := 12) rfl rfl ?_ WGs.nil))⟩⟩
   ·have hF24 : St _ _ ([(b4, _)] ++ _) _ := hs23
    refine WL.call rfl rfl rfl (Run.call Tryz.call50 rfl rfl rfl) (k3_ _ _ _ _ _ _ _ _ _ (hF24.own _ List.mem_cons_self).1 (SlF.st0 f_s hs23) (St.sep hF24 f_s) ?_ ?_) ?_
    · omega
    · omega
    rintro _ whs30 ⟨r25, i26, h27, rfl, hs30, hr28, hi29⟩
    replace hs30 := St.lend1 hF24 hs30
    try have hbhr28 := hr28.2 (by omega)
    refine ⟨_, rfl, WL.nil ⟨hs30.d1, WG.rn [5] hs30.d1 [] rfl rfl (WG.all [7, 12] (by kernel_rfl) rfl (WGs.cons (i := 7) rfl rfl ?_ (WGs.cons (i := 12) rfl rfl ?_ WGs.nil)))⟩⟩
    ·have hF31 : St _ _ ([(b4, _)] ++ _) _ := hs30
     refine WL.call rfl rfl rfl (Run.call Tryz.call51 rfl rfl rfl) (k4_ _ _ _ _ _ _ _ _ _ (hF31.own _ List.mem_cons_self).1 (SlF.st0 f_s hs30) (St.sep hF31 f_s) ?_ ?_ ?_) ?_
     · omega
     · omega
     · omega
     rintro _ whs41 ⟨A32, c33, zs34, L35, i36, h37, rfl, hs41, ho38, hl39, hi40⟩
     replace hs41 : St _ _ ((b4, _) :: (L35 ++ _)) _ := St.lend hF31 hs41
     refine ⟨_, rfl, ?_⟩
     have hs42 := (((hs41.fb b2).fb b12).fb b4)
     refine WL.nil ⟨(hs42.d1.rm L35), WG.all [8, 12] (by kernel_rfl) rfl (WGs.cons (i := 8) rfl rfl ?_ (WGs.cons (i := 12) rfl rfl ?_ WGs.nil))⟩
     ·refine WL.cl Tryz.call27 rfl (k119_ r8 _ _ _ _ _ _ _ (ownDiskR.ok (B := 549755813888) ho10 (hs42.ow L1_9) (by rw [hd11]; assumption)) (SlF.ofOwn ho38 (hs42.ow L35)) ?_ ?_) ?_
      iterate 2 first | assumption | rfl | omega | exact p0.tot | exact hb1 | (show _ ≤ 1048576; omega)
      rintro _ whs43 ⟨r44, L1_45, rfl, hs43, ho46, hd47⟩
      replace hs43 := hs42.callF hs43
      refine ⟨_, rfl, ?_⟩
      replace hs43 := St.back [_, _, _] hs43
      have hm0 : Made 0 (DepotR.dat r44) := by rw [hd47, hdn]; exact Made.new (by omega) (by omega) (by omega)
      have hb0 := hm0.tot
      have hs0 := dep_sm hb0
      rw [hd47] at hs0
      refine WL.nil ⟨((hs43.d1.rm L1_45).rm L35), WG.rn [9, 10, 11] ((hs43.d1.rm L1_45).rm L35) [] rfl rfl (WG.o1 12 rfl rfl (WL.al hs43 Tryz.zeroValue36 rfl rfl (fun b48 _ hs49 => WL.nil ⟨((hs49.d1.d1.rm L1_45).rm L35), WG.oK rfl (WL.st tbk hs49 0 rfl rfl (fun _ hs50 => WL.nil ⟨((hs50.d1.d1.rm L1_45).rm L35), ?_⟩))⟩)))⟩
      refine WH.rn [14] ((hs50.d1.d1.rm L1_45).rm L35) [] rfl rfl (WH.dn ?_)
      replace hs50 := (hs50.rm L35)
      exact ⟨rfl, b48, _, _, _, ((((((hs50.fr L1_9).fb b2).fb b12).fr L1_45).fb b4).fb b48), ⟨r44, i36, h37, rfl, rfl, ho46, by exact hm0, by omega, by omega⟩, ⟨rfl, sbF rfl⟩⟩
     refine WL.al hs42 Tryz.zeroValue36 rfl rfl (fun b51 _ hs52 => WL.nil ⟨(hs52.d1.d1.rm L35), WG.o1 8 rfl rfl ?_⟩)
     refine WL.cl Tryz.call27 rfl (k119_ r8 _ _ _ _ _ _ _ (ownDiskR.ok (B := 549755813888) ho10 (hs52.ow L1_9) (by rw [hd11]; assumption)) (SlF.ofOwn ho38 (hs52.ow L35)) ?_ ?_) ?_
     iterate 2 first | assumption | rfl | omega | exact p0.tot | exact hb1 | (show _ ≤ 1048576; omega)
     rintro _ whs53 ⟨r54, L1_55, rfl, hs53, ho56, hd57⟩
     replace hs53 := hs52.callF hs53
     refine ⟨_, rfl, ?_⟩
     replace hs53 := St.back [_, _, _, _] hs53
     have hm0 : Made 0 (DepotR.dat r54) := by rw [hd57, hdn]; exact Made.new (by omega) (by omega) (by omega)
     have hb0 := hm0.tot
     have hs0 := dep_sm hb0
     rw [hd57] at hs0
     refine WL.nil ⟨((hs53.d1.d1.rm L1_55).rm L35), WG.rn [9, 10, 11] ((hs53.d1.d1.rm L1_55).rm L35) [] rfl rfl (WG.oK rfl (WL.st tbk hs53 0 rfl rfl (fun _ hs58 => WL.nil ⟨((hs58.d1.d1.rm L1_55).rm L35), WH.rn [14] ((hs58.d1.d1.rm L1_55).rm L35) [] rfl rfl (WH.dn ?_)⟩)))⟩
     replace hs58 := (hs58.rm L35)
     exact ⟨rfl, b51, _, _, _, ((((((hs58.fr L1_9).fb b2).fb b12).fr L1_55).fb b4).fb b51), ⟨r54, i36, h37, rfl, rfl, ho56, by exact hm0, by omega, by omega⟩, ⟨rfl, sbF rfl⟩⟩
    refine WL.al hs30 Tryz.zeroValue36 rfl rfl (fun b59 _ hs60 => WL.nil ⟨hs60.d1.d1, WG.o1 7 rfl rfl ?_⟩)
    replace hs60 := (hs60.fb b4)
    have hF61 : St _ _ ([(b4, _)] ++ _) _ := hs60
    refine WL.call rfl rfl rfl (Run.call Tryz.call51 rfl rfl rfl) (k4_ _ _ _ _ _ _ _ _ _ (hF61.own _ List.mem_cons_self).1 (SlF.st0 f_s hs60) (St.sep hF61 f_s) ?_ ?_ ?_) ?_
    · omega
    · omega
    · omega
    rintro _ whs71 ⟨A62, c63, zs64, L65, i66, h67, rfl, hs71, ho68, hl69, hi70⟩
    replace hs71 : St _ _ ((b4, _) :: (L65 ++ _)) _ := St.lend hF61 hs71
    refine ⟨_, rfl, ?_⟩
    have hs72 := ((((hs71.fb b2).fb b12).fb b59).fb b4)
    refine WL.nil ⟨(hs72.d1.d1.rm L65), WG.o1 8 rfl rfl ?_⟩
    refine WL.cl Tryz.call27 rfl (k119_ r8 _ _ _ _ _ _ _ (ownDiskR.ok (B := 549755813888) ho10 (hs72.ow L1_9) (by rw [hd11]; assumption)) (SlF.ofOwn ho68 (hs72.ow L65)) ?_ ?_) ?_
    iterate 2 first | assumption | rfl | omega | exact p0.tot | exact hb1 | (show _ ≤ 1048576; omega)
    rintro _ whs73 ⟨r74, L1_75, rfl, hs73, ho76, hd77⟩
    replace hs73 := hs72.callF hs73
    refine ⟨_, rfl, ?_⟩
    replace hs73 := St.back [_, _, _, _] hs73
    have hm0 : Made 0 (DepotR.dat r74) := by rw [hd77, hdn]; exact Made.new (by omega) (by omega) (by omega)
    have hb0 := hm0.tot
    have hs0 := dep_sm hb0
    rw [hd77] at hs0
    refine WL.nil ⟨((hs73.d1.d1.rm L1_75).rm L65), WG.rn [9, 10, 11] ((hs73.d1.d1.rm L1_75).rm L65) [] rfl rfl (WG.oK rfl (WL.st tbk hs73 1 rfl rfl (fun _ hs78 => WL.nil ⟨((hs78.d1.d1.rm L1_75).rm L65), WH.rn [14] ((hs78.d1.d1.rm L1_75).rm L65) [] rfl rfl (WH.dn ?_)⟩)))⟩
    replace hs78 := (hs78.rm L65)
    exact ⟨rfl, b59, _, _, _, ((((((hs78.fr L1_9).fb b2).fb b12).fr L1_75).fb b4).fb b59), ⟨r74, i66, h67, rfl, rfl, ho76, by exact hm0, by omega, by omega⟩, ⟨rfl, sbF rfl⟩⟩
   refine WL.al hs23 Tryz.zeroValue36 rfl rfl (fun b79 _ hs80 => WL.nil ⟨hs80.d1.d1, WG.o1 4 rfl rfl ?_⟩)
   replace hs80 := (hs80.fb b4)
   have hF81 : St _ _ ([(b4, _)] ++ _) _ := hs80
   refine WL.call rfl rfl rfl (Run.call Tryz.call50 rfl rfl rfl) (k3_ _ _ _ _ _ _ _ _ _ (hF81.own _ List.mem_cons_self).1 (SlF.st0 f_s hs80) (St.sep hF81 f_s) ?_ ?_) ?_
   · omega
   · omega
   rintro _ whs87 ⟨r82, i83, h84, rfl, hs87, hr85, hi86⟩
   replace hs87 := St.lend1 hF81 hs87
   try have hbhr85 := hr85.2 (by omega)
   refine ⟨_, rfl, WL.nil ⟨hs87.d1.d1, WG.rn [5] hs87.d1.d1 [] rfl rfl (WG.o1 7 rfl rfl ?_)⟩⟩
   have hF88 : St _ _ ([(b4, _)] ++ _) _ := hs87
   refine WL.call rfl rfl rfl (Run.call Tryz.call51 rfl rfl rfl) (k4_ _ _ _ _ _ _ _ _ _ (hF88.own _ List.mem_cons_self).1 (SlF.st0 f_s hs87) (St.sep hF88 f_s) ?_ ?_ ?_) ?_
   · omega
   · omega
   · omega
   rintro _ whs98 ⟨A89, c90, zs91, L92, i93, h94, rfl, hs98, ho95, hl96, hi97⟩
   replace hs98 : St _ _ ((b4, _) :: (L92 ++ _)) _ := St.lend hF88 hs98
   refine ⟨_, rfl, ?_⟩
   have hs99 := ((((hs98.fb b2).fb b12).fb b79).fb b4)
   refine WL.nil ⟨(hs99.d1.d1.rm L92), WG.o1 8 rfl rfl ?_⟩
   refine WL.cl Tryz.call27 rfl (k119_ r8 _ _ _ _ _ _ _ (ownDiskR.ok (B := 549755813888) ho10 (hs99.ow L1_9) (by rw [hd11]; assumption)) (SlF.ofOwn ho95 (hs99.ow L92)) ?_ ?_) ?_
   iterate 2 first | assumption | rfl | omega | exact p0.tot | exact hb1 | (show _ ≤ 1048576; omega)
   rintro _ whs100 ⟨r101, L1_102, rfl, hs100, ho103, hd104⟩
   replace hs100 := hs99.callF hs100
   refine ⟨_, rfl, ?_⟩
   replace hs100 := St.back [_, _, _, _] hs100
   have hm0 : Made 0 (DepotR.dat r101) := by rw [hd104, hdn]; exact Made.new (by omega) (by omega) (by omega)
   have hb0 := hm0.tot
   have hs0 := dep_sm hb0
   rw [hd104] at hs0
   refine WL.nil ⟨((hs100.d1.d1.rm L1_102).rm L92), WG.rn [9, 10, 11] ((hs100.d1.d1.rm L1_102).rm L92) [] rfl rfl (WG.oK rfl (WL.st tbk hs100 1 rfl rfl (fun _ hs105 => WL.nil ⟨((hs105.d1.d1.rm L1_102).rm L92), WH.rn [14] ((hs105.d1.d1.rm L1_102).rm L92) [] rfl rfl (WH.dn ?_)⟩)))⟩
   replace hs105 := (hs105.rm L92)
   exact ⟨rfl, b79, _, _, _, ((((((hs105.fr L1_9).fb b2).fb b12).fr L1_102).fb b4).fb b79), ⟨r101, i93, h94, rfl, rfl, ho103, by exact hm0, by omega, by omega⟩, ⟨rfl, sbF rfl⟩⟩
  refine WL.al hs16 Tryz.zeroValue36 rfl rfl (fun b106 _ hs107 => WL.nil ⟨(hs107.d1.fb b4).d1, WG.o1 2 rfl rfl ?_⟩)
  replace hs107 := (((hs107.fb b12).fb b106).fb b4)
  have hF108 : St _ _ ([(b4, _)] ++ _) _ := hs107
  refine WL.call rfl rfl rfl (Run.call Tryz.call50 rfl rfl rfl) (k3_ _ _ _ _ _ _ _ _ _ (hF108.own _ List.mem_cons_self).1 (SlF.st0 f_s hs107) (St.sep hF108 f_s) ?_ ?_) ?_
  · omega
  · omega
  rintro _ whs114 ⟨r109, i110, h111, rfl, hs114, hr112, hi113⟩
  replace hs114 := St.lend1 hF108 hs114
  try have hbhr112 := hr112.2 (by omega)
  refine ⟨_, rfl, WL.nil ⟨hs114.d1.d1, WG.o1 4 rfl rfl ?_⟩⟩
  have hF115 : St _ _ ([(b4, _)] ++ _) _ := hs114
  refine WL.call rfl rfl rfl (Run.call Tryz.call50 rfl rfl rfl) (k3_ _ _ _ _ _ _ _ _ _ (hF115.own _ List.mem_cons_self).1 (SlF.st0 f_s hs114) (St.sep hF115 f_s) ?_ ?_) ?_
  · omega
  · omega
  rintro _ whs121 ⟨r116, i117, h118, rfl, hs121, hr119, hi120⟩
  replace hs121 := St.lend1 hF115 hs121
  try have hbhr119 := hr119.2 (by omega)
  refine ⟨_, rfl, WL.nil ⟨hs121.d1.d1, WG.rn [5] hs121.d1.d1 [] rfl rfl (WG.o1 7 rfl rfl ?_)⟩⟩
  have hF122 : St _ _ ([(b4, _)] ++ _) _ := hs121
  refine WL.call rfl rfl rfl (Run.call Tryz.call51 rfl rfl rfl) (k4_ _ _ _ _ _ _ _ _ _ (hF122.own _ List.mem_cons_self).1 (SlF.st0 f_s hs121) (St.sep hF122 f_s) ?_ ?_ ?_) ?_
  · omega
  · omega
  · omega
  rintro _ whs132 ⟨A123, c124, zs125, L126, i127, h128, rfl, hs132, ho129, hl130, hi131⟩
  replace hs132 : St _ _ ((b4, _) :: (L126 ++ _)) _ := St.lend hF122 hs132
  refine ⟨_, rfl, ?_⟩
  have hs133 := ((((hs132.fb b2).fb b12).fb b106).fb b4)
  refine WL.nil ⟨(hs133.d1.d1.rm L126), WG.o1 8 rfl rfl ?_⟩
  refine WL.cl Tryz.call27 rfl (k119_ r8 _ _ _ _ _ _ _ (ownDiskR.ok (B := 549755813888) ho10 (hs133.ow L1_9) (by rw [hd11]; assumption)) (SlF.ofOwn ho129 (hs133.ow L126)) ?_ ?_) ?_
  iterate 2 first | assumption | rfl | omega | exact p0.tot | exact hb1 | (show _ ≤ 1048576; omega)
  rintro _ whs134 ⟨r135, L1_136, rfl, hs134, ho137, hd138⟩
  replace hs134 := hs133.callF hs134
  refine ⟨_, rfl, ?_⟩
  replace hs134 := St.back [_, _, _, _] hs134
  have hm0 : Made 0 (DepotR.dat r135) := by rw [hd138, hdn]; exact Made.new (by omega) (by omega) (by omega)
  have hb0 := hm0.tot
  have hs0 := dep_sm hb0
  rw [hd138] at hs0
  refine WL.nil ⟨((hs134.d1.d1.rm L1_136).rm L126), WG.rn [9, 10, 11] ((hs134.d1.d1.rm L1_136).rm L126) [] rfl rfl (WG.oK rfl (WL.st tbk hs134 1 rfl rfl (fun _ hs139 => WL.nil ⟨((hs139.d1.d1.rm L1_136).rm L126), WH.rn [14] ((hs139.d1.d1.rm L1_136).rm L126) [] rfl rfl (WH.dn ?_)⟩)))⟩
  replace hs139 := (hs139.rm L126)
  exact ⟨rfl, b106, _, _, _, ((((((hs139.fr L1_9).fb b2).fb b12).fr L1_136).fb b4).fb b106), ⟨r135, i127, h128, rfl, rfl, ho137, by exact hm0, by omega, by omega⟩, ⟨rfl, sbF rfl⟩⟩
 rintro b140 _ _ L141 _ ⟨r142, i147, h148, rfl, rfl, ho143, hp144, hi149, hi150⟩ hs145 _ hf146
 have hs151 := ((((hs145.fb b2).fb b12).fb b4).fb b140)
 have hm0 := hp144
 have hb0 := hm0.tot
 have hs0 := dep_sm hb0
 refine hK15 _ _ (WC.sub _ hf146 (WC.seq (fun K152 hK152 => WC.sr (WL.r 1 hs151 [] rfl ?_))))
 replace hs151 := (hs151.fb b4)
 have hF153 : St _ _ ([(b4, _)] ++ _) _ := hs151
 refine WL.call rfl rfl rfl (Run.call Tryz.call50 rfl rfl rfl) (k3_ _ _ _ _ _ _ _ _ _ (hF153.own _ List.mem_cons_self).1 (SlF.st0 f_s hs151) (St.sep hF153 f_s) ?_ ?_) ?_
 · omega
 · omega
 rintro _ whs159 ⟨r154, i155, h156, rfl, hs159, hr157, hi158⟩
 replace hs159 := St.lend1 hF153 hs159
 try have hbhr157 := hr157.2 (by omega)
 refine ⟨_, rfl, WL.r 1 hs159 [] rfl (WL.nil (WC.block ?_))⟩
 have hM164 := (St.grp1 (L1 := L141) [_, _] ((((((hs159.fr L1_9).fb b2).fb b12).fr L141).fb b4).fb b140))
 refine WC.lV [2, 3, 4, 7] rfl hM164 (fun k_ (a_ : Hp) f => ∃ (n i1 h1 : Int) (k : Nat) (r : DepotR) (L162 : Hp), k_ = n.toNat ∧ a_ = [(b140, .cells (List.toArray [i64 r.Disk.Room, i64 r.Disk.Fuse, i64 r.Disk.Next, .slice r.Disk.Files.A r.Disk.Files.n r.Disk.Files.c, .slice r.Disk.Kept.A r.Disk.Kept.n r.Disk.Kept.c, .slice r.Disk.Turns.A r.Disk.Turns.n r.Disk.Turns.c, i64 r.Gen, i64 r.Seq, i64 r.Size, .bool r.Stuck]) 36 (0, 0)), (b4, .cells (List.toArray [.slice A_s n_s c_s, i64 i1, i64 h1]) 118 (0, 0))] ++ L162 ∧ (Made k r.dat) ∧ (0 ≤ n ∧ n + k ≤ 5) ∧ (0 ≤ i1 ∧ i1 ≤ n_s) ∧ ownDepotR r L162 ∧ Sub [(9, .int .i64 n)] f) (((fun (n i1 h1 : Int) (k : Nat) => n.toNat) (r154) (i155) (h156) (0))) ?_ ?_
 ·refine ⟨r154, i155, h156, 0, r142, L141, rfl, rfl, ?_, ?_, ?_, ho143, ⟨rfl, trivial⟩⟩
  · exact hm0
  · omega
  · omega
 rintro _ _ f w ⟨n, i1, h1, k, r, L162, rfl, rfl, p0, p1, p2, ho163, hG⟩ hF hs165
 refine WC.sub _ (hG.app hF) ?_
 clear hG hF
 replace hs165 := St.ungrp1 [_, _] hs165
 have hs166 := ((((hs165.fb b2).fb b12).fb b4).fb b140)
 have hbr := p0.tot
 have hsmr := dep_sm hbr
 refine WC.seq (fun K167 hK167 => WC.r1 hs166 [] rfl ?_)
 refine WC.cq rfl (fun h168 qh168 => ?_) (fun h168 qh168 => ?_)
 ·refine WC.skip (hK167 _ _ (WC.seq (fun K169 hK169 => WC.block (WC.seq (fun K170 hK170 => WC.rG 7 hs166.d1.d1 (hs166.fb b4).d1 hs166 (fun _ hs171 => ?_))))))
  refine WG.rn [0, 1] (hs171.fb b4).d1 [0] rfl rfl (WG.o1 2 rfl rfl ?_)
  replace hs171 := (hs171.fb b4)
  have hF172 : St _ _ ([(b4, _)] ++ _) _ := hs171
  refine WL.call rfl rfl rfl (Run.call Tryz.call51 rfl rfl rfl) (k4_ _ _ _ _ _ _ _ _ _ (hF172.own _ List.mem_cons_self).1 (SlF.st0 f_s hs171) (St.sep hF172 f_s) ?_ ?_ ?_) ?_
  · omega
  · omega
  · omega
  rintro _ whs182 ⟨A173, c174, zs175, L176, i177, h178, rfl, hs182, ho179, hl180, hi181⟩
  replace hs182 : St _ _ ((b4, _) :: (L176 ++ _)) _ := St.lend hF172 hs182
  refine ⟨_, rfl, ?_⟩
  have hs183 := ((((hs182.fb b2).fb b12).fb b140).fb b4)
  refine WL.nil ⟨(hs183.d1.rm L176), ?_⟩
  refine WG.strS hs183.d1 (fun w_ h_ => (h_.rm L176)) ?_
  refine WG.o1 3 rfl rfl (WL.cl Tryz.call17 rfl (k120_ r _ _ _ _ _ (ownDepotR.ok (B := 549755813888) ho163 (hs183.ow L162) hsmr) (SlF.ofOwn ho179 (hs183.ow L176)) ?_ ?_) ?_)
  iterate 2 first | assumption | rfl | omega | exact p0.tot | exact hb1 | (show _ ≤ 1048576; omega)
  rintro _ whs184 ⟨r185, L1_186, rfl, hs184, ho187, hd188⟩
  replace hs184 := hs183.callF hs184
  refine ⟨_, rfl, ?_⟩
  replace hs184 := St.back [_, _, _, _] hs184
  have hm1 : Made1 k (DepotR.dat r185) := by rw [hd188]; exact p0.put1 (by omega) (by omega)
  have hb1 := hm1.tot
  have hs1 := dep_sm hb1
  rw [hd188] at hs1
  refine WL.nil ⟨(hs184.d1.rm L1_186), ?_⟩
  refine WG.strS hs184.d1 (fun w_ h_ => (h_.rm L1_186)) ?_
  refine WG.rn [4, 5, 6] hs184.d1 [] rfl rfl (WG.oK rfl (WL.st tbk hs184 1 rfl rfl (fun _ hs189 => WL.nil ⟨((hs189.d1.d1.rm L1_186).rm L176), ?_⟩)))
  refine WH.strS hs189.d1 (fun w_ h_ => ((h_.d1.rm L1_186).rm L176)) ?_
  refine WH.dn (hK170 _ _ (WC.seq (fun K190 hK190 => WC.sr (WL.r 1 hs189 [] rfl ?_))))
  have hF191 : St _ _ ([(b4, _)] ++ _) _ := hs189
  refine WL.call rfl rfl rfl (Run.call Tryz.call50 rfl rfl rfl) (k3_ _ _ _ _ _ _ _ _ _ (hF191.own _ List.mem_cons_self).1 (SlF.st0 f_s hs189) (St.sep hF191 f_s) ?_ ?_) ?_
  · omega
  · omega
  rintro _ whs197 ⟨r192, i193, h194, rfl, hs197, hr195, hi196⟩
  replace hs197 := St.lend1 hF191 hs197
  try have hbhr195 := hr195.2 (by omega)
  refine ⟨_, rfl, WL.r 1 hs197 [] rfl (WL.nil (WC.jCK [2, 3, 4, 7, 9, 30, 31, 34, 35, 36, 37, 38, 39, 41, 42, 43] rfl (((hs197.fr L1_186).fb b4).fb b140) (fun o_ p_ L_ => ∃ (r : DepotR) (i_ h_ : Int), o_ = Obj.cells (List.toArray [i64 r.Disk.Room, i64 r.Disk.Fuse, i64 r.Disk.Next, .slice r.Disk.Files.A r.Disk.Files.n r.Disk.Files.c, .slice r.Disk.Kept.A r.Disk.Kept.n r.Disk.Kept.c, .slice r.Disk.Turns.A r.Disk.Turns.n r.Disk.Turns.c, i64 r.Gen, i64 r.Seq, i64 r.Size, .bool r.Stuck]) 36 (0, 0) ∧ p_ = Obj.cells (List.toArray [.slice A_s n_s c_s, i64 (i_), i64 (h_)]) 118 (0, 0) ∧ ownDepotR r L_ ∧ (Made1 k r.dat) ∧ 0 ≤ i_ ∧ i_ ≤ n_s) ?_ ?_))⟩
  ·refine WC.cq rfl (fun h198 qh198 => ?_) (fun h198 qh198 => ?_)
   ·refine WC.region (WL.r 1 hs197 [1] rfl ?_)
    refine WL.cl Tryz.call11 rfl (k92_ r185 _ (ownDepotR.ok (B := 549755813888) ho187 (hs197.ow L1_186) (by rw [hd188]; assumption)) ?_) ?_
    · first | assumption | rfl | omega | exact p0.tot | exact hb1 | (show _ ≤ 1048576; omega)
    rintro _ whs199 ⟨r200, L1_201, rfl, hs199, ho202, hd203⟩
    replace hs199 := hs197.callF hs199
    refine ⟨_, rfl, ?_⟩
    replace hs199 := St.back [_, _, _, _] hs199
    have hm2 : Made1 k (DepotR.dat r200) := by rw [hd203]; exact hm1.flush
    have hs2 := dep_sm hm2.tot
    rw [hd203] at hs2
    refine WL.r 3 hs199 [] rfl (WL.st tbk hs199 1 rfl rfl (fun _ hs204 => WL.nil ?_))
    replace hs204 := (hs204.rm L1_186)
    refine tkN ⟨_, _, _, ((((((((hs204.fr L1_9).fr L162).fr L176).fb b2).fb b12).fr L1_201).fb b4).fb b140), ⟨r200, i193, h194, rfl, rfl, ho202, ?_, by omega, by omega⟩, sbF rfl⟩
    · exact hm2
   refine WC.skip (tkN ⟨_, _, _, ((((((((hs197.fr L1_9).fr L162).fr L176).fb b2).fb b12).fr L1_186).fb b4).fb b140), ⟨r185, i193, h194, rfl, rfl, ho187, ?_, by omega, by omega⟩, sbF rfl⟩)
   · exact hm1
  rintro _ _ L205 _ ⟨r206, i210, h211, rfl, rfl, ho207, hp208, hi212, hi213⟩ hs209 f_ hf_
  refine hK190 _ _ (WC.sub _ hf_ ?_)
  clear hf_
  have hs214 := ((((hs209.fb b2).fb b12).fb b4).fb b140)
  have hm1 := hp208
  have hb1 := hm1.tot
  have hs1 := dep_sm hb1
  refine WC.sr (WL.r 1 hs214 [] rfl ?_)
  replace hs214 := (hs214.fb b4)
  have hF215 : St _ _ ([(b4, _)] ++ _) _ := hs214
  refine WL.call rfl rfl rfl (Run.call Tryz.call50 rfl rfl rfl) (k3_ _ _ _ _ _ _ _ _ _ (hF215.own _ List.mem_cons_self).1 (SlF.st0 f_s hs214) (St.sep hF215 f_s) ?_ ?_) ?_
  · omega
  · omega
  rintro _ whs221 ⟨r216, i217, h218, rfl, hs221, hr219, hi220⟩
  replace hs221 := St.lend1 hF215 hs221
  try have hbhr219 := hr219.2 (by omega)
  refine ⟨_, rfl, WL.r 1 hs221 [] rfl (WL.nil (WC.cq rfl (fun h222 qh222 => ?_) (fun h222 qh222 => ?_)))⟩
  ·refine WC.rG 7 hs221.d1.d1 hs221.d1 hs221 (fun _ hs223 => ?_)
   refine WG.rn [0, 1] hs223.d1 [0] rfl rfl (WG.o1 2 rfl rfl ?_)
   have hF224 : St _ _ ([(b4, _)] ++ _) _ := hs223
   refine WL.call rfl rfl rfl (Run.call Tryz.call51 rfl rfl rfl) (k4_ _ _ _ _ _ _ _ _ _ (hF224.own _ List.mem_cons_self).1 (SlF.st0 f_s hs223) (St.sep hF224 f_s) ?_ ?_ ?_) ?_
   · omega
   · omega
   · omega
   rintro _ whs234 ⟨A225, c226, zs227, L228, i229, h230, rfl, hs234, ho231, hl232, hi233⟩
   replace hs234 : St _ _ ((b4, _) :: (L228 ++ _)) _ := St.lend hF224 hs234
   refine ⟨_, rfl, ?_⟩
   have hs235 := ((((hs234.fb b2).fb b12).fb b140).fb b4)
   refine WL.nil ⟨(hs235.d1.rm L228), ?_⟩
   refine WG.strS hs235.d1 (fun w_ h_ => (h_.rm L228)) ?_
   refine WG.o1 3 rfl rfl (WL.cl Tryz.call32 rfl (k122_ r206 _ _ _ _ _ (ownDepotR.ok (B := 549755813888) ho207 (hs235.ow L205) (by assumption)) (SlF.ofOwn ho231 (hs235.ow L228)) ?_ ?_) ?_)
   iterate 2 first | assumption | rfl | omega | exact p0.tot | exact hb1 | (show _ ≤ 1048576; omega)
   rintro _ whs236 ⟨r237, L1_238, rfl, hs236, ho239, hd240⟩
   replace hs236 := hs235.callF hs236
   refine ⟨_, rfl, ?_⟩
   replace hs236 := St.back [_, _, _, _] hs236
   have hm3 : Made (k + 1) (DepotR.dat r237) := by rw [hd240]; exact hm1.compact (by omega) (by omega)
   have hb3 := hm3.tot
   have hs3 := dep_sm hb3
   rw [hd240] at hs3
   refine WL.nil ⟨(hs236.d1.rm L1_238), ?_⟩
   refine WG.strS hs236.d1 (fun w_ h_ => (h_.rm L1_238)) ?_
   refine WG.rn [4, 5, 6] hs236.d1 [] rfl rfl (WG.oK rfl (WL.st tbk hs236 1 rfl rfl (fun _ hs241 => WL.nil ⟨((hs241.d1.d1.rm L1_238).rm L228), ?_⟩)))
   refine WH.strS hs241.d1 (fun w_ h_ => ((h_.d1.rm L1_238).rm L228)) ?_
   refine WH.dn (hK169 _ _ (WC.region (WL.r 3 hs241 [] rfl (WL.nil (tkN ?_)))))
   replace hs241 := ((((hs241.rm L228).rm L205).rm L176).rm L162)
   have hF242 := (St.grp1 (L1 := L1_238) [_, _] ((((((hs241.fr L1_9).fb b2).fb b12).fr L1_238).fb b4).fb b140))
   refine ⟨sbF rfl, _, hF242, _, ?_, _, i229, h230, k + 1, r237, L1_238, rfl, rfl, ?_, ?_, ?_, ho239, ⟨rfl, trivial⟩⟩
   · omega
   · first | exact hm3 | exact hm1.up
   · omega
   · omega
  refine WC.skip (hK169 _ _ (WC.region (WL.r 3 hs221 [] rfl (WL.nil (tkN ?_)))))
  replace hs221 := ((hs221.rm L176).rm L162)
  have hF243 := (St.grp1 (L1 := L205) [_, _] ((((((hs221.fr L1_9).fb b2).fb b12).fr L205).fb b4).fb b140))
  refine ⟨sbF rfl, _, hF243, _, ?_, _, i217, h218, k + 1, r206, L205, rfl, rfl, ?_, ?_, ?_, ho207, ⟨rfl, trivial⟩⟩
  · omega
  · first | exact hm3 | exact hm1.up
  · omega
  · omega
 refine WC.exit (hK152 _ _ (WC.seq (fun K244 hK244 => WC.rG 3 ((hs166.fb b4).d1.fb b2).d1 (hs166.fb b4).d1 hs166 (fun _ hs245 => ?_))))
 refine WG.rn [0, 1] (hs245.fb b4).d1 [0] rfl rfl (WG.o1 2 rfl rfl ?_)
 replace hs245 := (hs245.fb b4)
 have hF246 : St _ _ ([(b4, _)] ++ _) _ := hs245
 refine WL.call rfl rfl rfl (Run.call Tryz.call51 rfl rfl rfl) (k4_ _ _ _ _ _ _ _ _ _ (hF246.own _ List.mem_cons_self).1 (SlF.st0 f_s hs245) (St.sep hF246 f_s) ?_ ?_ ?_) ?_
 · omega
 · omega
 · omega
 rintro _ whs256 ⟨A247, c248, zs249, L250, i251, h252, rfl, hs256, ho253, hl254, hi255⟩
 replace hs256 : St _ _ ((b4, _) :: (L250 ++ _)) _ := St.lend hF246 hs256
 refine ⟨_, rfl, ?_⟩
 have hs257 := ((((hs256.fb b2).fb b12).fb b140).fb b4)
 refine WL.nil ⟨(hs257.d1.rm L250), ?_⟩
 refine WG.strS hs257.d1 (fun w_ h_ => (h_.rm L250)) ?_
 refine WG.oK rfl (WL.st tbk hs257 3 rfl rfl (fun _ hs258 => WL.nil ⟨((hs258.d1.fb b2).d1.rm L250), ?_⟩))
 refine WH.strS hs258.d1 (fun w_ h_ => ((h_.fb b2).d1.rm L250)) ?_
 refine WH.rn [4] hs258.d1 [] rfl rfl (WH.dn (hK244 _ _ (WC.ret (retV2 rfl (resV.cellA tbk hs258 3 rfl rfl rfl rfl) (resV.tmp rfl) (⟨r, _, _, zs249, _, _, rfl, (St.drop ((hs258.fr L250).fr L162) (List.Sublist.append_left (List.sublist_append_left L250 _) L162)), ho163, ho253, ?_, by omega⟩)))))
 · exact p0.sub (by omega)
theorem k124_ (b_c : Nat) (A_s : Option Addr) (n_s c_s : Nat) (s : List UInt8) (i h : Int)  (w : World) (hc : w.heap[b_c]? = some (Obj.cells (List.toArray [.slice A_s n_s c_s, i64 (i), i64 (h)]) 118 (0, 0))) (f_s : SlF encB w A_s n_s s) (s_s : 0 < n_s → (adr A_s).block ∉ [b_c]) (hn : n_s ≤ 1099511627776) (hi : 0 ≤ i ∧ i ≤ n_s) :
    Calls Tryz.prog 139 #[.pointer (some ⟨b_c, 0, none⟩)] w fun e w' => ∃ r i' h', e = .returned (.int .i64 r) ∧ St w [b_c] [(b_c, Obj.cells (List.toArray [.slice A_s n_s c_s, i64 (i'), i64 (h')]) 118 (0, 0))] w' ∧ (True) ∧ (0 ≤ i' ∧ i' ≤ n_s) := by
 have hl := f_s.len
 refine enter 49 Tryz.func139 rfl Tryz.ntmps139 rfl rfl ?_
 have hs1 := St.take1 w b_c _ hc
 refine WC.r1 hs1 [] rfl (WC.sr (WL.r 1 hs1 [] rfl ?_))
 have hF2 : St _ _ ([(b_c, _)] ++ _) _ := hs1
 refine WL.call rfl rfl rfl (Run.call Tryz.call50 rfl rfl rfl) (k3_ _ _ _ _ _ _ _ _ _ (hF2.own _ List.mem_cons_self).1 (SlF.st f_s hs1 s_s) (St.sepT hF2 f_s s_s) ?_ ?_) ?_
 · omega
 · omega
 rintro _ whs8 ⟨r3, i4, h5, rfl, hs8, hr6, hi7⟩
 replace hs8 := St.lend1 hF2 hs8
 try have hbhr6 := hr6.2 (by omega)
 refine ⟨_, rfl, WL.r 1 hs8 [] rfl (WL.nil (WC.seq (fun K9 hK9 => WC.r1 hs8 [] rfl ?_)))⟩
 refine WC.cD rfl (fun qh10 => ?_) (fun qh10 => ?_)
 ·refine WC.sr (WL.r 1 hs8 [] rfl ?_)
  have hF11 : St _ _ ([(b_c, _)] ++ _) _ := hs8
  refine WL.call rfl rfl rfl (Run.call Tryz.call50 rfl rfl rfl) (k3_ _ _ _ _ _ _ _ _ _ (hF11.own _ List.mem_cons_self).1 (SlF.st f_s hs8 s_s) (St.sepT hF11 f_s s_s) ?_ ?_) ?_
  · omega
  · omega
  rintro _ whs17 ⟨r12, i13, h14, rfl, hs17, hr15, hi16⟩
  replace hs17 := St.lend1 hF11 hs17
  try have hbhr15 := hr15.2 (by omega)
  refine ⟨_, rfl, WL.r 1 hs17 [] rfl (WL.nil (WC.ret (tkR ?_)))⟩
  clear hK9
  refine retV1 rfl (resV.tmp rfl) (⟨_, _, _, rfl, hs17, trivial, by omega⟩)
 refine WC.skip (hK9 _ _ (WC.seq (fun K18 hK18 => WC.r1 hs8 [] rfl ?_)))
 refine WC.cD rfl (fun qh19 => ?_) (fun qh19 => ?_)
 ·refine WC.sr (WL.r 1 hs8 [] rfl ?_)
  have hF20 : St _ _ ([(b_c, _)] ++ _) _ := hs8
  refine WL.call rfl rfl rfl (Run.call Tryz.call50 rfl rfl rfl) (k3_ _ _ _ _ _ _ _ _ _ (hF20.own _ List.mem_cons_self).1 (SlF.st f_s hs8 s_s) (St.sepT hF20 f_s s_s) ?_ ?_) ?_
  · omega
  · omega
  rintro _ whs26 ⟨r21, i22, h23, rfl, hs26, hr24, hi25⟩
  replace hs26 := St.lend1 hF20 hs26
  try have hbhr24 := hr24.2 (by omega)
  refine ⟨_, rfl, WL.r 1 hs26 [] rfl (WL.nil (WC.ret (tkR ?_)))⟩
  clear hK18
  refine retV1 rfl (resV.tmp rfl) (⟨_, _, _, rfl, hs26, trivial, by omega⟩)
 refine WC.skip (hK18 _ _ (WC.seq (fun K27 hK27 => WC.r1 hs8 [] rfl ?_)))
 refine WC.cD rfl (fun qh28 => ?_) (fun qh28 => ?_)
 ·refine WC.sr (WL.r 1 hs8 [] rfl ?_)
  have hF29 : St _ _ ([(b_c, _)] ++ _) _ := hs8
  refine WL.call rfl rfl rfl (Run.call Tryz.call50 rfl rfl rfl) (k3_ _ _ _ _ _ _ _ _ _ (hF29.own _ List.mem_cons_self).1 (SlF.st f_s hs8 s_s) (St.sepT hF29 f_s s_s) ?_ ?_) ?_
  · omega
  · omega
  rintro _ whs35 ⟨r30, i31, h32, rfl, hs35, hr33, hi34⟩
  replace hs35 := St.lend1 hF29 hs35
  try have hbhr33 := hr33.2 (by omega)
  refine ⟨_, rfl, WL.r 2 hs35 [] rfl ?_⟩
  have hF36 : St _ _ ([(b_c, _)] ++ _) _ := hs35
  refine WL.call rfl rfl rfl (Run.call Tryz.call50 rfl rfl rfl) (k3_ _ _ _ _ _ _ _ _ _ (hF36.own _ List.mem_cons_self).1 (SlF.st f_s hs35 s_s) (St.sepT hF36 f_s s_s) ?_ ?_) ?_
  · omega
  · omega
  rintro _ whs42 ⟨r37, i38, h39, rfl, hs42, hr40, hi41⟩
  replace hs42 := St.lend1 hF36 hs42
  try have hbhr40 := hr40.2 (by omega)
  refine ⟨_, rfl, WL.r 2 hs42 [] rfl (WL.nil (WC.ret (tkR ?_)))⟩
  clear hK27
  refine retV1 rfl (resV.tmp rfl) (⟨_, _, _, rfl, hs42, trivial, by omega⟩)
 refine WC.skip (hK27 _ _ (WC.seq (fun K43 hK43 => WC.r1 hs8 [] rfl ?_)))
 refine WC.cD rfl (fun qh44 => ?_) (fun qh44 => ?_)
 ·refine WC.sr (WL.r 1 hs8 [] rfl ?_)
  have hF45 : St _ _ ([(b_c, _)] ++ _) _ := hs8
  refine WL.call rfl rfl rfl (Run.call Tryz.call50 rfl rfl rfl) (k3_ _ _ _ _ _ _ _ _ _ (hF45.own _ List.mem_cons_self).1 (SlF.st f_s hs8 s_s) (St.sepT hF45 f_s s_s) ?_ ?_) ?_
  · omega
  · omega
  rintro _ whs51 ⟨r46, i47, h48, rfl, hs51, hr49, hi50⟩
  replace hs51 := St.lend1 hF45 hs51
  try have hbhr49 := hr49.2 (by omega)
  refine ⟨_, rfl, WL.r 2 hs51 [] rfl (WL.nil (WC.ret (tkR ?_)))⟩
  clear hK43
  refine retV1 rfl (resV.tmp rfl) (⟨_, _, _, rfl, hs51, trivial, by omega⟩)
 refine WC.skip (hK43 _ _ (WC.seq (fun K52 hK52 => WC.r1 hs8 [] rfl ?_)))
 refine WC.cD rfl (fun qh53 => ?_) (fun qh53 => ?_)
 ·refine WC.sr (WL.r 1 hs8 [] rfl ?_)
  have hF54 : St _ _ ([(b_c, _)] ++ _) _ := hs8
  refine WL.call rfl rfl rfl (Run.call Tryz.call50 rfl rfl rfl) (k3_ _ _ _ _ _ _ _ _ _ (hF54.own _ List.mem_cons_self).1 (SlF.st f_s hs8 s_s) (St.sepT hF54 f_s s_s) ?_ ?_) ?_
  · omega
  · omega
  rintro _ whs60 ⟨r55, i56, h57, rfl, hs60, hr58, hi59⟩
  replace hs60 := St.lend1 hF54 hs60
  try have hbhr58 := hr58.2 (by omega)
  refine ⟨_, rfl, WL.r 2 hs60 [] rfl (WL.nil (WC.ret (tkR ?_)))⟩
  clear hK52
  refine retV1 rfl (resV.tmp rfl) (⟨_, _, _, rfl, hs60, trivial, by omega⟩)
 refine WC.skip (hK52 _ _ (WC.seq (fun K61 hK61 => WC.r1 hs8 [] rfl ?_)))
 refine WC.cD rfl (fun qh62 => ?_) (fun qh62 => ?_)
 ·refine WC.sr (WL.r 1 hs8 [] rfl ?_)
  have hF63 : St _ _ ([(b_c, _)] ++ _) _ := hs8
  refine WL.call rfl rfl rfl (Run.call Tryz.call50 rfl rfl rfl) (k3_ _ _ _ _ _ _ _ _ _ (hF63.own _ List.mem_cons_self).1 (SlF.st f_s hs8 s_s) (St.sepT hF63 f_s s_s) ?_ ?_) ?_
  · omega
  · omega
  rintro _ whs69 ⟨r64, i65, h66, rfl, hs69, hr67, hi68⟩
  replace hs69 := St.lend1 hF63 hs69
  try have hbhr67 := hr67.2 (by omega)
  refine ⟨_, rfl, WL.r 2 hs69 [] rfl (WL.nil (WC.ret (tkR ?_)))⟩
  clear hK61
  refine retV1 rfl (resV.tmp rfl) (⟨_, _, _, rfl, hs69, trivial, by omega⟩)
 refine WC.skip (hK61 _ _ (WC.seq (fun K70 hK70 => WC.r1 hs8 [] rfl ?_)))
 refine WC.cD rfl (fun qh71 => ?_) (fun qh71 => ?_)
 ·refine WC.sr (WL.buildF (F := encI) hs8 ([127, 128, 16383, 16384, 2097151, 2097152, 268435455, 268435456]) Tryz.runUnderlying64 Tryz.sizeOf3 Tryz.zeroValue3 rfl rfl rfl rfl rfl rfl rfl rfl rfl rfl rfl rfl (fun A75 c76 L72 whs73 hs73 ho74 => ?_))
  replace hs73 := St.back [_] hs73
  refine WL.r 1 hs73 [] rfl ?_
  have hF77 : St _ _ ([(b_c, _)] ++ _) _ := hs73
  refine WL.call rfl rfl rfl (Run.call Tryz.call50 rfl rfl rfl) (k3_ _ _ _ _ _ _ _ _ _ (hF77.own _ List.mem_cons_self).1 (SlF.st f_s hs73 s_s) (St.sepT hF77 f_s s_s) ?_ ?_) ?_
  · omega
  · omega
  rintro _ whs83 ⟨r78, i79, h80, rfl, hs83, hr81, hi82⟩
  replace hs83 := St.lend1 hF77 hs83
  try have hbhr81 := hr81.2 (by omega)
  refine ⟨_, rfl, WL.val rfl rfl rfl (Run.idxK (r78.toNat) Tryz.runUnderlying64 Tryz.sizeOf3 rfl rfl rfl ?_ ?_ ?_) ?_⟩
  · exact SlF.some_ (SlF.ofOwn ho74 (hs83.ow L72))
  · first | omega | (show _ < 8; omega)
  · first | omega | (show _ < 8; omega)
  refine WL.val rfl rfl rfl (Run.load Tryz.isAgg3 rfl rfl (SlF.one1 (SlF.ofOwn ho74 (hs83.ow L72)) ?_ rfl)) ?_
  · first | omega | (show _ < 8; omega)
  refine WL.r 1 hs83 [] rfl (WL.nil (WC.ret (tkR ?_)))
  clear hK70
  refine retV1 rfl (resV.tmp rfl) (⟨_, _, _, rfl, (hs83.rm L72), trivial, by omega⟩)
 refine WC.skip (hK70 _ _ (WC.sr (WL.r 1 hs8 [] rfl ?_)))
 have hF84 : St _ _ ([(b_c, _)] ++ _) _ := hs8
 refine WL.call rfl rfl rfl (Run.call Tryz.call50 rfl rfl rfl) (k3_ _ _ _ _ _ _ _ _ _ (hF84.own _ List.mem_cons_self).1 (SlF.st f_s hs8 s_s) (St.sepT hF84 f_s s_s) ?_ ?_) ?_
 · omega
 · omega
 rintro _ whs90 ⟨r85, i86, h87, rfl, hs90, hr88, hi89⟩
 replace hs90 := St.lend1 hF84 hs90
 try have hbhr88 := hr88.2 (by omega)
 refine ⟨_, rfl, WL.r 1 hs90 [] rfl ?_⟩
 have hF91 : St _ _ ([(b_c, _)] ++ _) _ := hs90
 refine WL.call rfl rfl rfl (Run.call Tryz.call50 rfl rfl rfl) (k3_ _ _ _ _ _ _ _ _ _ (hF91.own _ List.mem_cons_self).1 (SlF.st f_s hs90 s_s) (St.sepT hF91 f_s s_s) ?_ ?_) ?_
 · omega
 · omega
 rintro _ whs97 ⟨r92, i93, h94, rfl, hs97, hr95, hi96⟩
 replace hs97 := St.lend1 hF91 hs97
 try have hbhr95 := hr95.2 (by omega)
 refine ⟨_, rfl, ?_⟩
 have hm1 : r85 * r92 ≤ 65535 * 65535 := Int.mul_le_mul (by omega) (by omega) (by omega) (by omega)
 have hm2 : 0 ≤ r85 * r92 := Int.mul_nonneg (by omega) (by omega)
 refine WL.r 2 hs97 [] rfl (WL.nil (WC.ret (retV1 rfl (resV.tmp rfl) (⟨_, _, _, rfl, hs97, trivial, by omega⟩))))
set_option maxHeartbeats 2000000 in
theorem k125_ (b_c : Nat) (A_s : Option Addr) (n_s c_s : Nat) (s : List UInt8) (i h : Int)  (w : World) (hc : w.heap[b_c]? = some (Obj.cells (List.toArray [.slice A_s n_s c_s, i64 (i), i64 (h)]) 118 (0, 0))) (f_s : SlF encB w A_s n_s s) (s_s : 0 < n_s → (adr A_s).block ∉ [b_c]) (hn : n_s ≤ 1099511627776) (hi : 0 ≤ i ∧ i ≤ n_s) :
    Calls Tryz.prog 83 #[.pointer (some ⟨b_c, 0, none⟩)] w fun e w' => ∃ (A : Option Addr) (c : Nat) (zs : List Int) (L1 : Hp) (i' h' : Int), e = .returned (.slice A zs.length c) ∧ St w [b_c] ((b_c, Obj.cells (List.toArray [.slice A_s n_s c_s, i64 (i'), i64 (h')]) 118 (0, 0)) :: L1) w' ∧ OwnF encI 3 (.slice A zs.length c) zs L1 ∧ zs.length ≤ 3 ∧ (0 ≤ i' ∧ i' ≤ n_s) := by
 have hl := f_s.len
 refine enter 25 Tryz.func83 rfl Tryz.ntmps83 rfl rfl ?_
 have hs1 := St.take1 w b_c _ hc
 refine WC.r1 hs1 [] rfl (WC.sr (WL.buildF (F := encI) hs1 ([]) Tryz.runUnderlying64 Tryz.sizeOf3 Tryz.zeroValue3 rfl rfl rfl rfl rfl rfl rfl rfl rfl rfl rfl rfl (fun A5 c6 L2 whs3 hs3 ho4 => ?_)))
 replace hs3 := St.back [_] hs3
 refine WL.r 1 hs3 [] rfl (WL.nil (WC.seq (fun K7 hK7 => WC.sr (WL.r 1 hs3 [] rfl ?_))))
 have hF8 : St _ _ ([(b_c, _)] ++ _) _ := hs3
 refine WL.call rfl rfl rfl (Run.call Tryz.call50 rfl rfl rfl) (k3_ _ _ _ _ _ _ _ _ _ (hF8.own _ List.mem_cons_self).1 (SlF.st f_s hs3 s_s) (St.sepT hF8 f_s s_s) ?_ ?_) ?_
 · omega
 · omega
 rintro _ whs14 ⟨r9, i10, h11, rfl, hs14, hr12, hi13⟩
 replace hs14 := St.lend1 hF8 hs14
 try have hbhr12 := hr12.2 (by omega)
 refine ⟨_, rfl, WL.r 1 hs14 [] rfl (WL.nil (WC.block ?_))⟩
 have hM19 := (St.grp1 (L1 := L2) [_] ((hs14.fr L2).fb b_c))
 refine WC.lV [0, 2] rfl hM19 (fun k_ (a_ : Hp) f => ∃ (n i1 h1 : Int) (zs : List Int) (A15 : Option Addr) (c16 : Nat) (L17 : Hp), k_ = n.toNat ∧ a_ = [(b_c, .cells (List.toArray [.slice A_s n_s c_s, i64 i1, i64 h1]) 118 (0, 0))] ++ L17 ∧ (0 ≤ n ∧ (zs.length : Int) + n ≤ 3) ∧ (0 ≤ i1 ∧ i1 ≤ n_s) ∧ OwnF encI 3 (.slice A15 (zs).length c16) (zs) L17 ∧ Sub [(3, .slice A15 (zs).length c16), (4, .int .i64 n)] f) (((fun (n i1 h1 : Int) (zs : List Int) => n.toNat) (r9) (i10) (h11) ([]))) ?_ ?_
 ·refine ⟨r9, i10, h11, [], A5, c6, L2, rfl, rfl, ?_, ?_, ho4, ⟨rfl, rfl, trivial⟩⟩
  · show 0 ≤ _ ∧ ((0 : Nat) : Int) + _ ≤ 3; omega
  · omega
 rintro _ _ f w ⟨n, i1, h1, zs, A15, c16, L17, rfl, rfl, p0, p1, ho18, hG⟩ hF hs20
 refine WC.sub _ (hG.app hF) ?_
 clear hG hF
 replace hs20 := St.ungrp1 [_] hs20
 refine WC.seq (fun K21 hK21 => WC.r1 hs20 [] rfl ?_)
 refine WC.cD rfl (fun qh22 => ?_) (fun qh22 => ?_)
 ·refine WC.skip (hK21 _ _ (WC.seq (fun K23 hK23 => WC.block (WC.region (WL.r 2 hs20 [] rfl ?_)))))
  have hF24 : St _ _ ([(b_c, _)] ++ _) _ := hs20
  refine WL.call rfl rfl rfl (Run.call Tryz.call139 rfl rfl rfl) (k124_ _ _ _ _ _ _ _ _ (hF24.own _ List.mem_cons_self).1 (SlF.st f_s hs20 s_s) (St.sepT hF24 f_s s_s) ?_ ?_) ?_
  · omega
  · omega
  rintro _ whs30 ⟨r25, i26, h27, rfl, hs30, hr28, hi29⟩
  replace hs30 := St.lend1 hF24 hs30
  refine ⟨_, rfl, WL.r 1 hs30 [] rfl ?_⟩
  have hF31 : St _ _ ([(b_c, _)] ++ _) _ := hs30
  refine WL.call rfl rfl rfl (Run.call Tryz.call50 rfl rfl rfl) (k3_ _ _ _ _ _ _ _ _ _ (hF31.own _ List.mem_cons_self).1 (SlF.st f_s hs30 s_s) (St.sepT hF31 f_s s_s) ?_ ?_) ?_
  · omega
  · omega
  rintro _ whs37 ⟨r32, i33, h34, rfl, hs37, hr35, hi36⟩
  replace hs37 := St.lend1 hF31 hs37
  try have hbhr35 := hr35.2 (by omega)
  refine ⟨_, rfl, WL.buildF (F := encI) hs37 ([0, 1, 2, 3, 5, 8, 13, 100000, _, _]) Tryz.runUnderlying64 Tryz.sizeOf3 Tryz.zeroValue3 rfl rfl rfl rfl rfl rfl rfl rfl rfl rfl rfl rfl (fun A41 c42 L38 whs39 hs39 ho40 => ?_)⟩
  replace hs39 := St.back [_] hs39
  refine WL.r 1 hs39 [] rfl ?_
  have hF43 : St _ _ ([(b_c, _)] ++ _) _ := hs39
  refine WL.call rfl rfl rfl (Run.call Tryz.call50 rfl rfl rfl) (k3_ _ _ _ _ _ _ _ _ _ (hF43.own _ List.mem_cons_self).1 (SlF.st f_s hs39 s_s) (St.sepT hF43 f_s s_s) ?_ ?_) ?_
  · omega
  · omega
  rintro _ whs49 ⟨r44, i45, h46, rfl, hs49, hr47, hi48⟩
  replace hs49 := St.lend1 hF43 hs49
  try have hbhr47 := hr47.2 (by omega)
  refine ⟨_, rfl, WL.val rfl rfl rfl (Run.idxK (r44.toNat) Tryz.runUnderlying64 Tryz.sizeOf3 rfl rfl rfl ?_ ?_ ?_) ?_⟩
  · exact SlF.some_ (SlF.ofOwn ho40 (hs49.ow L38))
  · first | omega | (show _ < 10; omega)
  · first | omega | (show _ < 10; omega)
  refine WL.val rfl rfl rfl (Run.load Tryz.isAgg3 rfl rfl (SlF.one1 (SlF.ofOwn ho40 (hs49.ow L38)) ?_ rfl)) ?_
  · first | omega | (show _ < 10; omega)
  refine WL.buildSlice hs49 Tryz.runUnderlying64 Tryz.sizeOf3 Tryz.zeroValue3 rfl rfl rfl rfl rfl rfl rfl rfl rfl rfl (fun b50 whs51 hs51 => ?_)
  refine WL.appendG (hs51.fr L17) ho18 (srcI1 Tryz.underlying64 (hs51.own _ (nthL_mem (i := 0) rfl)).1) Tryz.underlying64 inf3 rfl rfl rfl rfl rfl rfl rfl rfl rfl rfl ?_ (fun A55 c56 L52 whs53 hs53 ho54 => ?_)
  · (try simp only [List.length_append, List.length_singleton]); omega
  replace hs53 := St.back [_, _] hs53
  refine WL.r 1 hs53 [] rfl (WL.nil (hK23 _ _ (WC.region (WL.r 3 hs53 [] rfl (WL.nil (tkN ?_))))))
  replace hs53 := (hs53.d1.rm L38)
  have hF57 := (St.grp1 (L1 := L52) [_] ((hs53.fr L52).fb b_c))
  refine ⟨sbF rfl, _, hF57, _, ?_, _, i45, h46, _, A55, c56, L52, rfl, rfl, ?_, ?_, ho54, ⟨rfl, rfl, trivial⟩⟩
  · omega
  · simp only [List.length_append, List.length_singleton]; omega
  · omega
 refine WC.exit (hK7 _ _ (WC.r1 hs20 [] rfl (WC.ret (retV1 rfl (resV.tmp rfl) (⟨_, _, zs, _, _, _, rfl, St.keepP (L1 := L17) ((hs20.fr L17).fb b_c), ho18, by omega, by omega⟩)))))
theorem k126_ (A_s : Option Addr) (n_s c_s : Nat) (s : List UInt8) (w : World) (f_s : SlF encB w A_s n_s s) (hn : n_s ≤ 1048576) :
    Calls Tryz.prog 34 #[.slice A_s n_s c_s] w fun e w' => ∃ t A c zs L1, e = .returned (.tuple #[.int .i64 t, .slice A (List.length zs) c]) ∧ St w [] L1 w' ∧ OwnF encI 3 (.slice A (List.length zs) c) zs L1 ∧ List.length zs ≤ 3 := by
 have hl := f_s.len
 refine enter 19 Tryz.func34 rfl Tryz.ntmps34 rfl rfl ?_
 have hs1 := St.init w
 refine WC.r1 hs1 [] rfl (WC.sr (WL.r 1 hs1 [] rfl (WL.call rfl rfl rfl (Run.call Tryz.call48 rfl rfl rfl) (k1_ _ _ _ _ _ (SlF.st0 f_s hs1) ?_) ?_)))
 · omega
 rintro _ whs4 ⟨b2, h3, rfl, hs4⟩
 replace hs4 := hs1.callF hs4
 refine ⟨_, rfl, WL.r 1 hs4 [] rfl (WL.nil (WC.sr (WL.r 5 hs4 [0] rfl (WL.val rfl rfl rfl (Run.addW rfl rfl rfl) (WL.r 2 hs4 [] rfl (WL.st tbk hs4 0 rfl rfl (fun _ hs5 => ?_)))))))⟩
 refine WL.nil (WC.sr (WL.r 1 hs5 [] rfl ?_))
 have hF6 : St _ _ ([(b2, _)] ++ _) _ := hs5
 refine WL.call rfl rfl rfl (Run.call Tryz.call50 rfl rfl rfl) (k3_ _ _ _ _ _ _ _ _ _ (hF6.own _ List.mem_cons_self).1 (SlF.st0 f_s hs5) (St.sep hF6 f_s) ?_ ?_) ?_
 · omega
 · omega
 rintro _ whs12 ⟨r7, i8, h9, rfl, hs12, hr10, hi11⟩
 replace hs12 := St.lend1 hF6 hs12
 try have hbhr10 := hr10.2 (by omega)
 refine ⟨_, rfl, WL.r 1 hs12 [] rfl ?_⟩
 have hF13 : St _ _ ([(b2, _)] ++ _) _ := hs12
 refine WL.call rfl rfl rfl (Run.call Tryz.call83 rfl rfl rfl) (k125_ _ _ _ _ _ _ _ _ (hF13.own _ List.mem_cons_self).1 (SlF.st0 f_s hs12) (St.sep hF13 f_s) ?_ ?_) ?_
 · omega
 · omega
 rintro _ whs23 ⟨A14, c15, zs16, L17, i18, h19, rfl, hs23, ho20, hl21, hi22⟩
 replace hs23 : St _ _ ((b2, _) :: (L17 ++ _)) _ := St.lend hF13 hs23
 refine ⟨_, rfl, WL.r 2 hs23 [] rfl (WL.nil (WC.ret (retV2 rfl (resV.tmp rfl) (resV.tmp rfl) (⟨_, _, _, zs16, _, rfl, (St.keep1 (hs23.fr L17)), ho20, hl21⟩))))⟩
theorem k127_ (A_s : Option Addr) (n_s c_s : Nat) (s : List UInt8) (n : Int) (w : World) (f_s : SlF encB w A_s n_s s) (hn : n_s ≤ 1048576) :
    Calls Tryz.prog 36 #[.slice A_s n_s c_s, i64 n] w fun e w' => ∃ r, e = .returned (.int .i64 r) ∧ St w [] [] w' ∧ (0 ≤ r ∧ (0 < n → r < n)) := by
 have hl := f_s.len
 refine enter 19 Tryz.func36 rfl Tryz.ntmps36 rfl rfl ?_
 have hs1 := St.init w
 refine WC.r1 hs1 [] rfl (WC.sr (WL.r 1 hs1 [] rfl (WL.call rfl rfl rfl (Run.call Tryz.call48 rfl rfl rfl) (k1_ _ _ _ _ _ (SlF.st0 f_s hs1) ?_) ?_)))
 · omega
 rintro _ whs4 ⟨b2, h3, rfl, hs4⟩
 replace hs4 := hs1.callF hs4
 refine ⟨_, rfl, WL.r 1 hs4 [] rfl (WL.nil (WC.sr (WL.r 5 hs4 [0] rfl (WL.val rfl rfl rfl (Run.addW rfl rfl rfl) (WL.r 2 hs4 [] rfl (WL.st tbk hs4 0 rfl rfl (fun _ hs5 => ?_)))))))⟩
 refine WL.nil (WC.sr (WL.r 2 hs5 [] rfl ?_))
 have hF6 : St _ _ ([(b2, _)] ++ _) _ := hs5
 refine WL.call rfl rfl rfl (Run.call Tryz.call50 rfl rfl rfl) (k3_ _ _ _ _ _ _ _ _ _ (hF6.own _ List.mem_cons_self).1 (SlF.st0 f_s hs5) (St.sep hF6 f_s) ?_ ?_) ?_
 · omega
 · omega
 rintro _ whs12 ⟨r7, i8, h9, rfl, hs12, hr10, hi11⟩
 replace hs12 := St.lend1 hF6 hs12
 try have hbhr10 := hr10.2 (by omega)
 refine ⟨_, rfl, WL.r 1 hs12 [] rfl (WL.nil (WC.ret (retV1 rfl (resV.tmp rfl) (⟨_, rfl, hs12.nil, hr10⟩))))⟩
set_option maxHeartbeats 4000000 in
theorem k128_ (d : DiskR) (room : Int) (fuse : Int) (w : World) (f_d : okDiskR 549755813888 w d) (hok : diskOk d.dat = true) (hok2 : diskOk ({ d.dat with Room := room, Fuse := fuse } : DiskD) = true) (hb : totDisk d.dat ≤ 1048576) :
    Calls Tryz.prog 35 #[.agg #[i64 d.Room, i64 d.Fuse, i64 d.Next, .slice d.Files.A d.Files.n d.Files.c, .slice d.Kept.A d.Kept.n d.Kept.c, .slice d.Turns.A d.Turns.n d.Turns.c], i64 room, i64 fuse] w fun e w' => ∃ r L1, e = .returned (.tuple #[.agg #[i64 r.Room, i64 r.Fuse, i64 r.Next, .slice r.Files.A r.Files.n r.Files.c, .slice r.Kept.A r.Kept.n r.Kept.c, .slice r.Turns.A r.Turns.n r.Turns.c], .bool true]) ∧ St w [] L1 w' ∧ ownDiskR r L1 ∧ r.dat = ({ d.dat with Room := room, Fuse := fuse } : DiskD) := by
 have nb_d_Files := f_d.Files_n
 have nl_d_Files := f_d.Files.sl.len
 have nb_d_Kept := f_d.Kept_n
 have nl_d_Kept := f_d.Kept.len
 have nb_d_Turns := f_d.Turns_n
 have nl_d_Turns := f_d.Turns.len
 have hsm : smDisk 1048576 d.dat := totDisk_sm hb
 have hsmB : smDisk 549755813888 d.dat := totDisk_sm (by omega)
 refine enter 25 Tryz.func35 rfl Tryz.ntmps35 rfl rfl ?_
 have hs1 := St.init w
 refine WC.sr (WL.bx hs1 rfl (fun b2 _ hs3 => WL.al hs3 Tryz.zeroValue34 rfl rfl (fun b4 _ hs5 => WL.r 1 hs5 [] rfl (WL.nil (WC.sr (WL.r 1 hs5 [1] rfl ?_))))))
 refine WL.cl Tryz.call75 rfl (k63_ d _ (okDiskR.st0 f_d hs5) ?_) ?_
 · first | assumption | rfl | omega
 rintro _ whs6 ⟨r7, L1_8, rfl, hs6, ho9, hd10⟩
 replace hs6 := hs5.callF hs6
 refine ⟨_, rfl, ?_⟩
 replace hs6 := St.back [_, _] hs6
 have hcp := hd10
 have hc3 := congrArg DiskD.Next hcp
 have hc4 := congrArg DiskD.Files hcp
 have hc5 := congrArg DiskD.Kept hcp
 have hc6 := congrArg DiskD.Turns hcp
 have hq2 : DiskR.dat (⟨room, fuse, r7.Next, r7.Files, r7.Kept, r7.Turns⟩ : DiskR) = ({ d.dat with Room := room, Fuse := fuse } : DiskD) := DiskD.ext' rfl rfl hc3 hc4 hc5 hc6
 have hb2 : totDisk (DiskR.dat (⟨room, fuse, r7.Next, r7.Files, r7.Kept, r7.Turns⟩ : DiskR)) ≤ 1048576 := by rw [hq2]; exact ok_tot hok2
 refine WL.al hs6 Tryz.zeroValue34 rfl rfl (fun b11 _ hs12 => WL.st tbk hs12 0 rfl rfl (fun _ hs13 => WL.nil (WC.sr (WL.r 3 hs13 [] rfl (WL.st tbk hs13 0 rfl rfl (fun _ hs14 => WL.r 1 hs14 [] rfl (WL.st tbk hs14 0 rfl rfl (fun _ hs15 => ?_))))))))
 refine WL.nil (WC.seq (fun K16 hK16 => WC.sr (WL.r 1 hs15 [2] rfl ?_)))
 refine WL.cl Tryz.call56 rfl (k53_ d _ (okDiskR.st0 f_d hs15) ?_) ?_
 · first | assumption | rfl | omega
 rintro _ whs17 ⟨rfl, hs17⟩
 replace hs17 := hs15.call0 hs17
 refine ⟨_, rfl, WL.r 2 hs17 [] rfl ?_⟩
 apply WL.gO 3 Acts.nil hs17 rfl
 ·intro g18 J19
  have qg18 := g18
  try simp only [bf, within_iff, within_not] at qg18
  refine WL.runA tbk 1 (Acts.nil.cons (j := 3) rfl g18) hs17 [0] rfl ⟨rfl, trivial⟩ ?_
  have hk21 := (ownDiskR.ok (B := 549755813888) ho9 (hs17.ow L1_8) (by rw [hd10]; assumption))
  have hk22 := (ownDiskR.ok (B := 549755813888) ho9 (hs17.ow L1_8) (by rw [hd10]; assumption))
  refine WL.call (wantF rfl g18) rfl rfl (Run.call Tryz.call56 rfl rfl rfl) (k53_ (⟨room, fuse, r7.Next, r7.Files, r7.Kept, r7.Turns⟩ : DiskR) _ ⟨hk21.Files, hk21.Files_c, hk21.Files_n, hk21.Kept, hk21.Kept_c, hk21.Kept_n, hk21.Kept_s, hk21.Turns, hk21.Turns_c, hk21.Turns_n, hk21.Turns_s⟩ ?_) ?_
  · first | assumption | rfl | omega
  rintro _ whs20 ⟨rfl, hs20⟩
  replace hs20 := hs17.call0 hs20
  refine ⟨_, rfl, WL.runA tbk 1 (Acts.nil.cons (j := 3) rfl g18) hs20 [] rfl trivial (WL.eO 3 Acts.nil J19 hs20 g18 rfl rfl)⟩
 intro _ hs23
 refine WL.nil (WC.cq rfl (fun h24 qh24 => ?_) (fun h24 qh24 => ?_))
 ·exfalso
  have h9 := h24
  rw [hok, hq2, hok2] at h9
  cases h9
 refine WC.skip (hK16 _ _ (WC.sr (WL.r 1 hs23 [0] rfl (WL.st tbk hs23 1 rfl rfl (fun _ hs25 => WL.r 1 hs25 [] rfl (WL.nil (WC.ret ?_)))))))
 refine retV2 rfl (resV.cellA tbk hs25 1 rfl rfl rfl rfl) (resV.tmp rfl) ?_
 obtain ⟨L26, L27, L28, hs32, ho29, ho30, ho31⟩ := ownDiskR.op hs25 ho9
 have hs33 := (((hs32.fb b2).fb b4).fb b11)
 obtain ⟨L35, hs34, ho36⟩ := ownDiskR.fl hs33 ho29 ho30 ho31
 have hs37 := (((hs34.fb b2).fb b4).fb b11)
 refine ⟨⟨room, fuse, r7.Next, SlD.ofN ho29, SlD.of ho30, SlD.of ho31⟩, _, rfl, (St.keep1 (hs37.fr L35)), ?_, ?_⟩
 · exact (by exact ho36)
 · exact DiskD.ext' rfl rfl hc3 hc4 hc5 hc6
set_option maxHeartbeats 8000000 in
theorem k129_ (d : DiskR) (turns : Int) (A_cuts : Option Addr) (n_cuts c_cuts : Nat) (cuts : List Int) (w : World) (f_d : okDiskR 549755813888 w d) (f_cuts : SlF encI w A_cuts n_cuts cuts) (hok : diskOk d.dat = true) (hb : totDisk d.dat ≤ 1048576) (hcl : n_cuts ≤ 1048576) :
    Calls Tryz.prog 37 #[.agg #[i64 d.Room, i64 d.Fuse, i64 d.Next, .slice d.Files.A d.Files.n d.Files.c, .slice d.Kept.A d.Kept.n d.Kept.c, .slice d.Turns.A d.Turns.n d.Turns.c], i64 turns, .slice A_cuts n_cuts c_cuts] w fun e w' => ∃ r L1, e = .returned (.tuple #[.agg #[i64 r.Room, i64 r.Fuse, i64 r.Next, .slice r.Files.A r.Files.n r.Files.c, .slice r.Kept.A r.Kept.n r.Kept.c, .slice r.Turns.A r.Turns.n r.Turns.c], .bool true]) ∧ St w [] L1 w' ∧ ownDiskR r L1 ∧ r.dat = crashK d.dat turns (cutAt cuts) := by
 have nb_d_Files := f_d.Files_n
 have nl_d_Files := f_d.Files.sl.len
 have nb_d_Kept := f_d.Kept_n
 have nl_d_Kept := f_d.Kept.len
 have nb_d_Turns := f_d.Turns_n
 have nl_d_Turns := f_d.Turns.len
 have hsm : smDisk 1048576 d.dat := totDisk_sm hb
 have hsmB : smDisk 549755813888 d.dat := totDisk_sm (by omega)
 have hcc := f_cuts.len
 have hD := diskOk_P hok
 obtain ⟨hs1, hs2, hs3, hs4, hs5, hs6, hs7, hs8⟩ := hD.small
 have hl1 := f_d.Files.sl.len
 have hl2 := f_d.Kept.len
 have hl3 := f_d.Turns.len
 have hm1 : d.Files.n ≤ 10 := by rw [← hl1, ← List.length_map (f := FileR.dat)]; exact hs1
 have hm2 : d.Kept.n ≤ 10 := by rw [← hl2]; exact hs2
 have hm3 : d.Turns.n ≤ 30 := by rw [← hl3]; exact hs3
 have hdl : (dirD d.dat).length ≤ 40 := Nat.le_trans turnsL_len (by show d.Kept.xs.length + d.Turns.xs.length ≤ 40; omega)
 have hcr : ((crashN d.dat turns : Nat) : Int) = max 0 (min turns (d.Turns.n : Int)) ∧ crashN d.dat turns ≤ d.Turns.n := by have h9 : d.dat.Turns.length = d.Turns.n := hl3; unfold crashN; rw [h9]; omega
 have hkl9 : (turnsL d.Kept.xs (d.Turns.xs.take (crashN d.dat turns))).length ≤ 1048576 := Nat.le_trans turnsL_len (by rw [List.length_take]; omega)
 have htc := f_d.Turns_c
 have htl9 : (d.Turns.xs.take (crashN d.dat turns)).length ≤ 30 := by rw [List.length_take]; omega
 refine enter 88 Tryz.func37 rfl Tryz.ntmps37 rfl rfl ?_
 have hs1 := St.init w
 refine WC.sr (WL.bx hs1 rfl (fun b2 _ hs3 => WL.al hs3 Tryz.zeroValue34 rfl rfl (fun b4 _ hs5 => WL.r 1 hs5 [] rfl (WL.nil (WC.seq (fun K6 hK6 => WC.sr (WL.r 1 hs5 [1] rfl ?_)))))))
 refine WL.cl Tryz.call56 rfl (k53_ d _ (okDiskR.st0 f_d hs5) ?_) ?_
 · first | assumption | rfl | omega | exact hD.sorted | exact runI_pre hD.runi | exact f_d.Kept_s | exact sm_pre f_d.Turns_s _ | exact hkl9 | exact hb
 rintro _ whs7 ⟨rfl, hs7⟩
 replace hs7 := hs5.call0 hs7
 refine ⟨_, rfl, WL.r 1 hs7 [] rfl (WL.nil (WC.cq rfl (fun h8 qh8 => ?_) (fun h8 qh8 => ?_)))⟩
 ·exfalso; have h9 := h8; rw [hok] at h9; cases h9
 refine WC.skip (hK6 _ _ (WC.sr (WL.r 1 hs7 [1] rfl ?_)))
 refine WL.cl Tryz.call75 rfl (k63_ d _ (okDiskR.st0 f_d hs7) ?_) ?_
 · first | assumption | rfl | omega | exact hD.sorted | exact runI_pre hD.runi | exact f_d.Kept_s | exact sm_pre f_d.Turns_s _ | exact hkl9 | exact hb
 rintro _ whs9 ⟨r10, L1_11, rfl, hs9, ho12, hd13⟩
 replace hs9 := hs7.callF hs9
 refine ⟨_, rfl, ?_⟩
 replace hs9 := St.back [_, _] hs9
 have hcp := hd13
 have hk1 := congrArg DiskD.Room hcp
 have hk3 := congrArg DiskD.Next hcp
 have hk4 := congrArg DiskD.Files hcp
 have hfl0 : r10.Files.xs.length ≤ 1048576 := by have h9 := congrArg List.length hk4; have h8 := hD.small.1; rw [show (DiskR.dat r10).Files.length = r10.Files.xs.length from List.length_map _] at h9; omega
 refine WL.al hs9 Tryz.zeroValue34 rfl rfl (fun b14 _ hs15 => WL.st tbk hs15 0 rfl rfl (fun _ hs16 => WL.nil (WC.seq (fun K17 hK17 => WC.rG 13 hs16.d1 hs16 hs16 (fun _ hs18 => ?_)))))
 refine WG.rn [0, 1, 2, 3, 4, 5, 6, 7, 8, 9] hs18 [2, 2, 2] rfl rfl ?_
 refine WG.tk 10 rfl (by kernel_rfl) rfl rfl rfl hs18 (fun w_ hs_ => (Run.sliceH ((crashN d.dat turns)) Tryz.runUnderlying32 Tryz.sizeOf137 rfl rfl rfl ?_ ?_)) ?_
 · first | rfl | (omega)
 · refine ⟨?_, ?_, ?_⟩ <;> (omega)
 refine WG.o1 11 rfl rfl ?_
 refine WL.cl Tryz.call84 rfl (k54_ _ _ _ _ _ _ _ _ _ (SlF.st0 f_d.Kept hs18) (SlF.cutH ((crashN d.dat turns)) (SlF.st0 f_d.Turns hs18) (by refine ⟨?_, ?_, ?_⟩ <;> (omega))) ?_ ?_ ?_ ?_ ?_ ?_) ?_
 iterate 6 first | assumption | rfl | omega | exact hD.sorted | exact runI_pre hD.runi | exact f_d.Kept_s | exact sm_pre f_d.Turns_s _ | exact hkl9 | exact hb
 rintro _ whs19 ⟨A20, c21, L1_22, rfl, hs19, ho23⟩
 replace hs19 := hs18.callF hs19
 refine ⟨_, rfl, ?_⟩
 replace hs19 := St.back [_, _, _] hs19
 refine WL.nil ⟨(hs19.rm L1_22), WG.rn [12] (hs19.rm L1_22) [] rfl rfl (WG.oK rfl (WL.st tbk hs19 0 rfl rfl (fun _ hs24 => WL.nil ⟨(hs24.d1.rm L1_22), WH.rn [14] (hs24.d1.rm L1_22) [] rfl rfl (WH.o1 15 rfl (WL.st tbk hs24 0 rfl rfl (fun _ hs25 => ?_)))⟩)))⟩
 refine WL.nil ⟨(hs25.d1.rm L1_22), WH.rn [16] (hs25.d1.rm L1_22) [] rfl rfl (WH.o1 17 rfl (WL.st tbk hs25 0 rfl rfl (fun _ hs26 => WL.nil ⟨(hs26.d1.rm L1_22), WH.dn (hK17 _ _ (WC.sr ?_))⟩)))⟩
 obtain ⟨L27, L28, L29, hs33, ho30, ho31, ho32⟩ := ownDiskR.op hs26 ho12
 have hs34 := (((hs33.fb b2).fb b4).fb b14)
 obtain ⟨L37, hs36, ho38⟩ := ownDiskR.fl hs34 ho30 ho23 (OwnF.nil _ _)
 have hs39 := (((hs36.fb b2).fb b4).fb b14)
 have hF40 := ((hs39.fr L37).fb b14)
 refine WL.cl Tryz.call85 rfl (k80_ _ ⟨r10.Room, (-1), r10.Next, SlD.ofN ho30, SlD.of ho23, ⟨none, 0, 0, []⟩⟩ _ _ (St.headP hF40) (by exact ho38) (St.ownP hF40) (St.nodupP hF40) ?_ ?_) ?_
 iterate 2 first | assumption | rfl | omega | exact hD.sorted | exact runI_pre hD.runi | exact f_d.Kept_s | exact sm_pre f_d.Turns_s _ | exact hkl9 | exact hb
 rintro _ whs41 ⟨r42, L43, rfl, hs41, ho44, hd45⟩
 replace hs41 := St.lendP hF40 hs41
 refine ⟨_, rfl, ?_⟩
 have hs46 := (((hs41.fb b2).fb b4).fb b14)
 have hE0 : DiskR.dat r42 = (crashI d.dat turns (cutAt cuts) 0) := hd45.trans (DiskD.ext' hk1 rfl hk3 (by show onlyL (crashL d.dat turns) (DiskR.dat r10).Files = ctI _ _ 0; rw [hk4]; rfl) rfl rfl)
 have hsm1 : smDisk 549755813888 (DiskR.dat r42) := by rw [hE0]; exact smDisk_le (crashI_sm hok turns (cutAt cuts) 0) (by decide)
 have hro1 := ownDiskR.ok (B := 549755813888) ho44 (hs46.ow L43) hsm1
 have hn1 : r42.Files.n = (onlyL (crashL d.dat turns) d.dat.Files).length := by rw [← hro1.Files.sl.len, ← List.length_map (f := FileR.dat)]; exact (congrArg (fun q : DiskD => q.Files.length) hE0).trans ctI_len
 refine WL.nil (WC.seq (fun K47 hK47 => WC.r1 hs46 [0] rfl (WC.block ?_)))
 have hM52 := (St.grp1 (L1 := L43) [_] ((((((hs46.fr L29).fr L28).fb b2).fb b4).fr L43).fb b14))
 refine WC.lV [2, 6, 7, 8, 14, 36] rfl hM52 (fun k_ (a_ : Hp) f => ∃ (i : Nat) (r : DiskR) (L50 : Hp), k_ = (onlyL (crashL d.dat turns) d.dat.Files).length - i ∧ a_ = [(b14, .cells (List.toArray [i64 r.Room, i64 r.Fuse, i64 r.Next, .slice r.Files.A r.Files.n r.Files.c, .slice r.Kept.A r.Kept.n r.Kept.c, .slice r.Turns.A r.Turns.n r.Turns.c]) 34 (0, 0))] ++ L50 ∧ (i ≤ (onlyL (crashL d.dat turns) d.dat.Files).length) ∧ (DiskR.dat r = (crashI d.dat turns (cutAt cuts) i)) ∧ ownDiskR r L50 ∧ Sub [(37, .int .i64 i)] f) (((fun (i : Nat) => (onlyL (crashL d.dat turns) d.dat.Files).length - i) (0))) ?_ ?_
 ·refine ⟨0, r42, L43, rfl, rfl, ?_, ?_, ho44, ⟨rfl, trivial⟩⟩
  · exact Nat.zero_le _
  · exact hE0
 rintro _ _ f w ⟨i, r, L50, rfl, rfl, p0, p1, ho51, hG⟩ hF hs53
 refine WC.sub _ (hG.app hF) ?_
 clear hG hF
 replace hs53 := St.ungrp1 [_] hs53
 have hs54 := (((hs53.fb b2).fb b4).fb b14)
 have hF10 := crashF_len hok turns
 have hsmr : smDisk 549755813888 (DiskR.dat r) := by rw [p1]; exact smDisk_le (crashI_sm hok turns (cutAt cuts) i) (by decide)
 have hrl : r.Files.xs.length = (onlyL (crashL d.dat turns) d.dat.Files).length := by rw [← List.length_map (f := FileR.dat)]; exact (congrArg (fun q : DiskD => q.Files.length) p1).trans ctI_len
 refine WC.r1 hs54 [] rfl (WC.seq (fun K55 hK55 => ?_))
 refine WC.cq rfl (fun h56 qh56 => ?_) (fun h56 qh56 => ?_)
 ·have hi : i < (onlyL (crashL d.dat turns) d.dat.Files).length := by have h9 := h56; simp at h9; omega
  have hrok := ownDiskR.ok (B := 549755813888) ho51 (hs54.ow L50) hsmr
  have hfn2 : i < r.Files.xs.length := by omega
  have hyk := hrok.Files.all _ (gat_mem (F := encFileR) (xs := r.Files.xs) (k := i) hfn2)
  have hyb := hyk.Body.len
  have hyc := hyk.Body_c
  have hrn : r.Files.n = r.Files.xs.length := hrok.Files.sl.len.symm
  have hyd : FileR.dat (gat encFileR r.Files.xs i) = fAt (onlyL (crashL d.dat turns) d.dat.Files) i := by rw [← fAt_dat hfn2, show r.Files.xs.map FileR.dat = ctI (cutAt cuts) (onlyL (crashL d.dat turns) d.dat.Files) i from congrArg DiskD.Files p1, ctI_at hi]
  obtain ⟨hys1, hys2, hys3⟩ := crashF_at hok hi
  have hys4 := hys2
  have hyi : (gat encFileR r.Files.xs i).Id = (fAt (onlyL (crashL d.dat turns) d.dat.Files) i).Id := congrArg FileD.Id hyd
  have hy1 : (gat encFileR r.Files.xs i).Safe = (fAt (onlyL (crashL d.dat turns) d.dat.Files) i).Safe := congrArg FileD.Safe hyd
  have hy2 : (gat encFileR r.Files.xs i).Body.xs = (fAt (onlyL (crashL d.dat turns) d.dat.Files) i).Body := congrArg FileD.Body hyd
  have hy3 : (((gat encFileR r.Files.xs i).Body.n : Nat) : Int) = ((fAt (onlyL (crashL d.dat turns) d.dat.Files) i).Body.length : Int) := by rw [← hyb, hy2]
  have hcn := cutN_in (f := fAt (onlyL (crashL d.dat turns) d.dat.Files) i) (k := cutAt cuts i) ⟨hys1, hys2⟩
  have hcd : (cutN (fAt (onlyL (crashL d.dat turns) d.dat.Files) i) (cutAt cuts i)) = (fAt (onlyL (crashL d.dat turns) d.dat.Files) i).Safe + max 0 (min (cutAt cuts i) (((fAt (onlyL (crashL d.dat turns) d.dat.Files) i).Body.length : Int) - (fAt (onlyL (crashL d.dat turns) d.dat.Files) i).Safe)) := rfl
  have hcd2 : (gat encFileR r.Files.xs i).Safe + max 0 (min (cutAt cuts i) ((((gat encFileR r.Files.xs i).Body.n : Nat) : Int) - (gat encFileR r.Files.xs i).Safe)) = (cutN (fAt (onlyL (crashL d.dat turns) d.dat.Files) i) (cutAt cuts i)) := by rw [hy1, hy3]; rfl
  have hcy : (cutN (fAt (onlyL (crashL d.dat turns) d.dat.Files) i) (cutAt cuts i)).toNat ≤ (gat encFileR r.Files.xs i).Body.n := by omega
  refine WC.skip (hK55 _ _ (WC.seq (fun K57 hK57 => WC.block (WC.r1 hs54 [] rfl (WC.sr (WL.r 3 hs54 [0] rfl ?_))))))
  refine WL.val rfl rfl rfl (Run.idxK (i) Tryz.runUnderlying30 Tryz.sizeOf123 rfl rfl rfl ?_ ?_ ?_) ?_
  · exact SlF.some_ (ownDiskR.ok (B := 549755813888) ho51 (hs54.ow L50) hsmr).Files.sl
  · first | omega | (simp only [List.length_set]; omega)
  · first | omega | (simp only [List.length_set]; omega)
  refine WL.r 2 hs54 [] rfl (WL.nil (WC.seq (fun K58 hK58 => WC.r1 hs54 [] rfl ?_)))
  refine WC.mergeK [(2, _), (6, _), (7, _), (8, _), (9, _), (10, _), (14, _), (36, _), (37, _), (38, _), (46, _)] 11 (i64 (cutAt cuts i)) hs54 ⟨rfl, rfl, rfl, rfl, rfl, rfl, rfl, rfl, rfl, rfl, rfl, trivial⟩ (fun f whs60 hF61 hs60 => ?_) (fun hJ59 => ?_)
  ·refine hK58 _ _ (WC.sub _ hF61 ?_)
   clear hF61
   refine WC.seq (fun K62 hK62 => WC.rG 20 (((hs60.rm L50).rm L28).rm L29) hs60 hs60 (fun _ hs63 => ?_))
   refine WG.rn [0, 1] hs63 [] rfl rfl ?_
   refine WG.tk 2 rfl (by kernel_rfl) rfl rfl rfl hs63 (fun w_ hs_ => (Run.fieldO Tryz.runUnderlying123 rfl rfl rfl Tryz.sizeOf3 rfl)) ?_
   refine WG.tk 3 rfl (by kernel_rfl) rfl rfl rfl hs63 (fun w_ hs_ => (Run.load Tryz.isAgg3 rfl rfl (SlF.fld (ownDiskR.ok (B := 549755813888) ho51 ((hs_ : St _ _ _ _).ow L50) hsmr).Files.sl ?_ rfl))) ?_
   · first | omega | (simp only [List.length_set]; omega)
   refine WG.rn [4, 5, 6] hs63 [] rfl rfl ?_
   refine WG.tk 7 rfl (by kernel_rfl) rfl rfl rfl hs63 (fun w_ hs_ => (Run.fieldO Tryz.runUnderlying123 rfl rfl rfl Tryz.sizeOf43 rfl)) ?_
   refine WG.tk 8 rfl (by kernel_rfl) rfl rfl rfl hs63 (fun w_ hs_ => (Run.load Tryz.isAgg43 rfl rfl (SlF.fld (v := .slice (gat encFileR r.Files.xs i).Body.A (gat encFileR r.Files.xs i).Body.n (gat encFileR r.Files.xs i).Body.c) (ownDiskR.ok (B := 549755813888) ho51 ((hs_ : St _ _ _ _).ow L50) hsmr).Files.sl ?_ ?_))) ?_
   · first | omega | (simp only [List.length_set]; omega)
   · first | rfl | (rw [gat_set (by omega) rfl]; rfl)
   refine WG.rn [9, 10, 11] hs63 [] rfl rfl ?_
   refine WG.tk 12 rfl (by kernel_rfl) rfl rfl rfl hs63 (fun w_ hs_ => (Run.fieldO Tryz.runUnderlying123 rfl rfl rfl Tryz.sizeOf3 rfl)) ?_
   refine WG.tk 13 rfl (by kernel_rfl) rfl rfl rfl hs63 (fun w_ hs_ => (Run.load Tryz.isAgg3 rfl rfl (SlF.fld (ownDiskR.ok (B := 549755813888) ho51 ((hs_ : St _ _ _ _).ow L50) hsmr).Files.sl ?_ rfl))) ?_
   · first | omega | (simp only [List.length_set]; omega)
   refine WG.rn [14, 15, 16, 17, 18] hs63 [] rfl rfl ?_
   refine WG.tk 19 rfl (by kernel_rfl) rfl rfl rfl hs63 (fun w_ hs_ => (Run.fieldO Tryz.runUnderlying123 rfl rfl rfl Tryz.sizeOf3 rfl)) ?_
   refine WG.oK rfl ?_
   obtain ⟨L64, L65, L66, hs70, ho67, ho68, ho69⟩ := ownDiskR.op hs63 ho51
   have hs71 := (((hs70.fb b2).fb b4).fb b14)
   obtain ⟨L72, L73, hs76, ho74, ho75⟩ := OwnN.open_ (hs71.fr L64) ho67
   have hs77 := (((hs76.fb b2).fb b4).fb b14)
   refine WL.storeF (x' := ({ (gat encFileR r.Files.xs i) with Safe := (cutN (fAt (onlyL (crashL d.dat turns) d.dat.Files) i) (cutAt cuts i)) } : FileR)) (hs77.fr L72) ho74 Tryz.sizeOf3 rfl rfl rfl rfl rfl rfl rfl rfl rfl ?_ (by first | rfl | (rw [hcd2]; rfl) | (rw [gat_set (by omega) rfl]; rfl)) (fun L78 whs79 hs79 ho80 _ => ?_)
   · first | omega | (simp only [List.length_set]; omega)
   replace hs79 := St.back [_, _, _] hs79
   have hb81 := Bag.same (i := i) (x := ({ (gat encFileR r.Files.xs i) with Safe := (cutN (fAt (onlyL (crashL d.dat turns) d.dat.Files) i) (cutAt cuts i)) } : FileR)) ho75 (fun y_ L_ e_ h_ => by cases (e_.symm.trans (gat_get (F := encFileR) (by (try simp only [List.length_set]); omega))); first | exact h_ | (rw [gat_set (by (try simp only [List.length_set]); omega) rfl] at h_; exact h_) | exact OwnF.take h_ hcy | (rw [gat_set (by (try simp only [List.length_set]); omega) rfl] at h_; exact OwnF.take h_ hcy))
   refine WL.nil ⟨((((((hs79.rm L78).rm L73).rm L65).rm L66).rm L28).rm L29), WH.dn (hK62 _ _ (WC.rG 12 ((((((hs79.rm L78).rm L73).rm L65).rm L66).rm L28).rm L29) hs79 hs79 (fun _ hs82 => ?_)))⟩
   refine WG.rn [0] hs82 [] rfl rfl ?_
   have hsv : (gat encFileR (r.Files.xs.set i ({ (gat encFileR r.Files.xs i) with Safe := (cutN (fAt (onlyL (crashL d.dat turns) d.dat.Files) i) (cutAt cuts i)) } : FileR)) i).Safe = (cutN (fAt (onlyL (crashL d.dat turns) d.dat.Files) i) (cutAt cuts i)) := by rw [gat_set hfn2 rfl]
   have hnx0 : ((r.Files.xs.set i ({ (gat encFileR r.Files.xs i) with Safe := (cutN (fAt (onlyL (crashL d.dat turns) d.dat.Files) i) (cutAt cuts i)) } : FileR)).set i ({ (gat encFileR r.Files.xs i) with Safe := (cutN (fAt (onlyL (crashL d.dat turns) d.dat.Files) i) (cutAt cuts i)), Body := ⟨(gat encFileR r.Files.xs i).Body.A, (cutN (fAt (onlyL (crashL d.dat turns) d.dat.Files) i) (cutAt cuts i)).toNat, (gat encFileR r.Files.xs i).Body.c, (gat encFileR r.Files.xs i).Body.xs.take (cutN (fAt (onlyL (crashL d.dat turns) d.dat.Files) i) (cutAt cuts i)).toNat⟩ } : FileR)).map FileR.dat = ctI (cutAt cuts) (onlyL (crashL d.dat turns) d.dat.Files) (i + 1) := by rw [List.set_set, List.map_set, show r.Files.xs.map FileR.dat = ctI (cutAt cuts) (onlyL (crashL d.dat turns) d.dat.Files) i from congrArg DiskD.Files p1, ← ctI_step hi]; congr 1; exact FileD.ext' (by exact hyi) (by show List.take _ (gat encFileR r.Files.xs i).Body.xs = _; rw [hy2]; rfl) rfl
   refine WG.rn [1, 2] hs82 [] rfl rfl ?_
   refine WG.tk 3 rfl (by kernel_rfl) rfl rfl rfl hs82 (fun w_ hs_ => (Run.fieldO Tryz.runUnderlying123 rfl rfl rfl Tryz.sizeOf43 rfl)) ?_
   refine WG.tk 4 rfl (by kernel_rfl) rfl rfl rfl hs82 (fun w_ hs_ => (Run.load Tryz.isAgg43 rfl rfl (SlF.fld (v := .slice (gat encFileR r.Files.xs i).Body.A (gat encFileR r.Files.xs i).Body.n (gat encFileR r.Files.xs i).Body.c) (SlF.ofOwn ho80 ((hs_ : St _ _ _ _).ow L78)) ?_ ?_))) ?_
   · first | omega | (simp only [List.length_set]; omega)
   · first | rfl | (rw [gat_set (by omega) rfl]; rfl)
   refine WG.rn [5, 6] hs82 [] rfl rfl ?_
   refine WG.tk 7 rfl (by kernel_rfl) rfl rfl rfl hs82 (fun w_ hs_ => (Run.fieldO Tryz.runUnderlying123 rfl rfl rfl Tryz.sizeOf3 rfl)) ?_
   refine WG.tk 8 rfl (by kernel_rfl) rfl rfl rfl hs82 (fun w_ hs_ => (Run.load Tryz.isAgg3 rfl rfl (SlF.fld (SlF.ofOwn ho80 ((hs_ : St _ _ _ _).ow L78)) ?_ rfl))) ?_
   · first | omega | (simp only [List.length_set]; omega)
   refine WG.tk 9 rfl (by kernel_rfl) rfl rfl rfl hs82 (fun w_ hs_ => (Run.sliceH0 ((cutN (fAt (onlyL (crashL d.dat turns) d.dat.Files) i) (cutAt cuts i)).toNat) Tryz.runUnderlying43 Tryz.sizeOf5 rfl rfl rfl ?_ ?_)) ?_
   · first | rfl | (omega)
   · first | (exact Nat.zero_le _) | (omega)
   refine WG.rn [10] hs82 [] rfl rfl ?_
   refine WG.tk 11 rfl (by kernel_rfl) rfl rfl rfl hs82 (fun w_ hs_ => (Run.fieldO Tryz.runUnderlying123 rfl rfl rfl Tryz.sizeOf43 rfl)) ?_
   refine WG.oK rfl ?_
   refine WL.storeF (x' := ({ (gat encFileR r.Files.xs i) with Safe := (cutN (fAt (onlyL (crashL d.dat turns) d.dat.Files) i) (cutAt cuts i)), Body := ⟨(gat encFileR r.Files.xs i).Body.A, (cutN (fAt (onlyL (crashL d.dat turns) d.dat.Files) i) (cutAt cuts i)).toNat, (gat encFileR r.Files.xs i).Body.c, (gat encFileR r.Files.xs i).Body.xs.take (cutN (fAt (onlyL (crashL d.dat turns) d.dat.Files) i) (cutAt cuts i)).toNat⟩ } : FileR)) (hs82.fr L78) ho80 Tryz.sizeOf43 rfl rfl rfl rfl rfl rfl rfl rfl rfl ?_ (by first | rfl | (rw [hcd2]; rfl) | (rw [gat_set (by omega) rfl]; rfl)) (fun L83 whs84 hs84 ho85 _ => ?_)
   · first | omega | (simp only [List.length_set]; omega)
   replace hs84 := St.back [_, _, _] hs84
   have hb86 := Bag.same (i := i) (x := ({ (gat encFileR r.Files.xs i) with Safe := (cutN (fAt (onlyL (crashL d.dat turns) d.dat.Files) i) (cutAt cuts i)), Body := ⟨(gat encFileR r.Files.xs i).Body.A, (cutN (fAt (onlyL (crashL d.dat turns) d.dat.Files) i) (cutAt cuts i)).toNat, (gat encFileR r.Files.xs i).Body.c, (gat encFileR r.Files.xs i).Body.xs.take (cutN (fAt (onlyL (crashL d.dat turns) d.dat.Files) i) (cutAt cuts i)).toNat⟩ } : FileR)) hb81 (fun y_ L_ e_ h_ => by cases (e_.symm.trans (gat_get (F := encFileR) (by (try simp only [List.length_set]); omega))); first | exact h_ | (rw [gat_set (by (try simp only [List.length_set]); omega) rfl] at h_; exact h_) | exact OwnF.take h_ hcy | (rw [gat_set (by (try simp only [List.length_set]); omega) rfl] at h_; exact OwnF.take h_ hcy))
   refine WL.nil ⟨((((((hs84.rm L83).rm L73).rm L65).rm L66).rm L28).rm L29), WH.dn (hK57 _ _ (WC.region (WL.r 2 hs84 [] rfl (WL.nil (tkN ?_)))))⟩
   obtain ⟨L88, hs87, ho89⟩ := OwnN.fold ((hs84.fr L73).fr L83) ho85 hb86
   have hs90 := (((hs87.fb b2).fb b4).fb b14)
   obtain ⟨L92, hs91, ho93⟩ := ownDiskR.fl hs90 ho89 ho68 ho69
   have hs94 := (((hs91.fb b2).fb b4).fb b14)
   have hF95 := (St.grp1 (L1 := L92) [_] ((((((hs94.fr L29).fr L28).fb b2).fb b4).fr L92).fb b14))
   refine ⟨sbF rfl, _, hF95, _, ?_, i + 1, ⟨r.Room, r.Fuse, r.Next, SlD.ofN ho89, SlD.of ho68, SlD.of ho69⟩, L92, rfl, rfl, ?_, ?_, (by exact ho93), ⟨rfl, trivial⟩⟩
   · omega
   · omega
   · exact DiskD.ext' (show r.Room = d.dat.Room from congrArg DiskD.Room p1) (show r.Fuse = -1 from congrArg DiskD.Fuse p1) (show r.Next = d.dat.Next from congrArg DiskD.Next p1) hnx0 (show r.Kept.xs = _ from congrArg DiskD.Kept p1) (show r.Turns.xs = [] from congrArg DiskD.Turns p1)
  refine WC.cq rfl (fun h96 qh96 => ?_) (fun h96 qh96 => ?_)
  ·have hcz : 0 < cuts.length := by have h9 := h96; simp at h9; omega
   have hcv : cutAt cuts i = gat encI cuts (i % cuts.length) := if_pos hcz
   have hmod := Nat.mod_lt i hcz
   have hmd : ((i : Int) % (n_cuts : Int)) = ((i % cuts.length : Nat) : Int) := by rw [← hcc]; rfl
   refine WC.region (WL.r 4 hs54 [] rfl (WL.val rfl rfl rfl (Run.rem rfl rfl rfl ?_ ?_) ?_))
   · omega
   · omega
   refine WL.val rfl rfl rfl (Run.idxK ((i % cuts.length)) Tryz.runUnderlying64 Tryz.sizeOf3 rfl rfl rfl ?_ ?_ ?_) ?_
   · exact SlF.some_ (SlF.st0 f_cuts hs54)
   · first | omega | (simp only [List.length_set]; omega)
   · first | omega | (simp only [List.length_set]; omega)
   refine WL.val rfl rfl rfl (Run.load Tryz.isAgg3 rfl rfl (SlF.one1 (SlF.st0 f_cuts hs54) ?_ rfl)) ?_
   · first | omega | (simp only [List.length_set]; omega)
   refine WL.r 1 hs54 [] rfl (WL.nil ?_)
   exact hJ59 _ _ ⟨(by rw [hcv]; rfl), rfl, rfl, rfl, rfl, rfl, rfl, rfl, rfl, rfl, rfl, rfl, trivial⟩ hs54
  have hcv : cutAt cuts i = 0 := if_neg (by have h9 := h96; simp at h9; omega)
  refine WC.skip ?_
  exact hJ59 _ _ ⟨(by rw [hcv]; rfl), rfl, rfl, rfl, rfl, rfl, rfl, rfl, rfl, rfl, rfl, rfl, trivial⟩ hs54
 refine WC.exit (hK47 _ _ (WC.sr (WL.r 1 hs54 [0] rfl (WL.st tbk hs54 1 rfl rfl (fun _ hs97 => WL.r 1 hs97 [] rfl (WL.nil (WC.ret ?_)))))))
 refine retV2 rfl (resV.cellA tbk hs97 1 rfl rfl rfl rfl) (resV.tmp rfl) (⟨r, _, rfl, (St.keep1 (hs97.fr L50)), ?_, ?_⟩)
 · exact ho51
 · rw [← crashI_full (i := i) (by omega)]; exact p1
end Go.Proofs.YtcpnlodkmkfplaaGreatDoor
