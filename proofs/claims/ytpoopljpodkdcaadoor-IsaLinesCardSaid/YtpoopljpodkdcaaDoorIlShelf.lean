/- The kit's shelf contract of strconv.Itoa, laid at this program (the text printed by tools/ShText). -/
import Derived.Shelf.Strconv.Itoa3
import Derived.Test.YtpoopljpodkdcaaDoorProg
import Derived.Test.YtpoopljpodkdcaaDoorSxStill
import Derived.KernelRfl
import Derived.Shelf.Strings.Split
import Derived.Shelf.Strconv.AtoiAll
import Derived.Shelf.Strconv.ErrVarAll
import Derived.Test.YtpoopljpodkdcaaDoorIsaSpec
set_option linter.unusedSimpArgs false
set_option linter.unusedVariables false
set_option linter.unnecessarySimpa false
namespace Go.Proofs.YtpoopljpodkdcaaDoor
open Go Go.Sx Go.Shelf
set_option maxRecDepth 100000

def lays171_ren : Go.Shelf.Ren := ⟨fun | 129 => 78 | 171 => 41 | 243 => 48 | 246 => 59 | 283 => 67 | 284 => 68 | 285 => 69 | 286 => 70 | 317 => 77 | 318 => 79 | 319 => 80 | 320 => 81 | 337 => 83 | 338 => 84 | n => n, fun | 37 => 52 | 46 => 91 | 51 => 90 | 53 => 24 | 171 => 114 | 173 => 117 | 212 => 127 | 213 => 128 | 232 => 137 | 233 => 138 | n => n, fun | 17 => 4 | 18 => 7 | 19 => 8 | n => n⟩
theorem lays171 : LaysM.n171 Tryd.prog lays171_ren := {
  mixed := by kernel_rfl,
  f129 := Tryd.func78.trans (congrArg some (by kernel_rfl)),
  f171 := Tryd.func41.trans (congrArg some (by kernel_rfl)),
  f243 := Tryd.func48.trans (congrArg some (by kernel_rfl)),
  f246 := Tryd.func59.trans (congrArg some (by kernel_rfl)),
  f283 := Tryd.func67.trans (congrArg some (by kernel_rfl)),
  f284 := Tryd.func68.trans (congrArg some (by kernel_rfl)),
  f285 := Tryd.func69.trans (congrArg some (by kernel_rfl)),
  f286 := Tryd.func70.trans (congrArg some (by kernel_rfl)),
  f317 := Tryd.func77.trans (congrArg some (by kernel_rfl)),
  f318 := Tryd.func79.trans (congrArg some (by kernel_rfl)),
  f319 := Tryd.func80.trans (congrArg some (by kernel_rfl)),
  f320 := Tryd.func81.trans (congrArg some (by kernel_rfl)),
  f337 := Tryd.func83.trans (congrArg some (by kernel_rfl)),
  f338 := Tryd.func84.trans (congrArg some (by kernel_rfl)),
  t0 := Tryd.underlying0,
  a0 := Tryd.isAgg0,
  z0 := Tryd.sizeOf0,
  v0 := Tryd.zeroValue0,
  t2 := Tryd.underlying2,
  a2 := Tryd.isAgg2,
  z2 := Tryd.sizeOf2,
  v2 := Tryd.zeroValue2,
  t3 := Tryd.underlying3,
  a3 := Tryd.isAgg3,
  z3 := Tryd.sizeOf3,
  v3 := Tryd.zeroValue3,
  t4 := Tryd.underlying4,
  a4 := Tryd.isAgg4,
  z4 := Tryd.sizeOf4,
  v4 := Tryd.zeroValue4,
  t5 := Tryd.underlying5,
  a5 := Tryd.isAgg5,
  z5 := Tryd.sizeOf5,
  v5 := Tryd.zeroValue5,
  t9 := Tryd.underlying9,
  a9 := Tryd.isAgg9,
  z9 := Tryd.sizeOf9,
  v9 := Tryd.zeroValue9,
  t20 := Tryd.underlying20,
  a20 := Tryd.isAgg20,
  z20 := Tryd.sizeOf20,
  v20 := Tryd.zeroValue20,
  t37 := Tryd.underlying52,
  a37 := Tryd.isAgg52,
  z37 := Tryd.sizeOf52,
  v37 := Tryd.zeroValue52,
  t46 := Tryd.underlying91,
  a46 := Tryd.isAgg91,
  z46 := Tryd.sizeOf91,
  v46 := Tryd.zeroValue91,
  t51 := Tryd.underlying90,
  a51 := Tryd.isAgg90,
  z51 := Tryd.sizeOf90,
  v51 := Tryd.zeroValue90,
  t53 := Tryd.underlying24,
  a53 := Tryd.isAgg24,
  z53 := Tryd.sizeOf24,
  v53 := Tryd.zeroValue24,
  t171 := Tryd.underlying114,
  a171 := Tryd.isAgg114,
  z171 := Tryd.sizeOf114,
  v171 := Tryd.zeroValue114,
  t173 := Tryd.underlying117,
  a173 := Tryd.isAgg117,
  z173 := Tryd.sizeOf117,
  v173 := Tryd.zeroValue117,
  t212 := Tryd.underlying127,
  a212 := Tryd.isAgg127,
  z212 := Tryd.sizeOf127,
  v212 := Tryd.zeroValue127,
  t213 := Tryd.underlying128,
  a213 := Tryd.isAgg128,
  z213 := Tryd.sizeOf128,
  t232 := Tryd.underlying137,
  a232 := Tryd.isAgg137,
  z232 := Tryd.sizeOf137,
  v232 := Tryd.zeroValue137,
  t233 := Tryd.underlying138,
  a233 := Tryd.isAgg138,
  z233 := Tryd.sizeOf138,
  v233 := Tryd.zeroValue138,
  g17 := by kernel_rfl,
  g18 := by kernel_rfl,
  g19 := by kernel_rfl,
  i0 := by kernel_rfl,
  i2 := by kernel_rfl,
  i3 := by kernel_rfl,
  i4 := by kernel_rfl,
  i5 := by kernel_rfl,
  i9 := by kernel_rfl,
  i20 := by kernel_rfl,
  i37 := by kernel_rfl,
  i46 := by kernel_rfl,
  i51 := by kernel_rfl,
  i53 := by kernel_rfl,
  i171 := by kernel_rfl,
  i173 := by kernel_rfl,
  i212 := by kernel_rfl,
  i232 := by kernel_rfl,
  i233 := by kernel_rfl,
  m17 := by kernel_rfl,
  m18 := by kernel_rfl,
  m19 := by kernel_rfl }

def TabAt (w : World) : Prop := Lib.TabIs Tryd.prog w "internal/strconv.uint64pow10" .u64 Lib.pow10Tab
theorem gTab : Tryd.prog.globalNamed "internal/strconv.uint64pow10" = some 4 := by kernel_rfl
theorem TabAt.keep {w w' : World} (h : TabAt w) (k : Fresh w w') : TabAt w' := by
  unfold TabAt Lib.TabIs World.var? at *
  rw [gTab] at h ⊢
  simp only [Option.bind_some] at h ⊢
  have hlt : 4 < w.heap.size := by
    by_cases hl : 4 < w.heap.size
    · exact hl
    · rw [Array.getElem?_eq_none (by omega)] at h; cases h
  rw [k.block 4 hlt]; exact h
theorem fresh_grow (w : World) (k : Nat) (os : Array Obj) : Fresh w (Sort.grow (w.drewN k) os) :=
  ⟨rfl, rfl, rfl, by simp [Sort.grow, World.drewN], fun j hj => by
    show (w.heap ++ os)[j]? = w.heap[j]?
    rw [Array.getElem?_append_left hj]⟩
theorem itoa41 (n : Int) (w : World) (h0 : -9223372036854775808 ≤ n) (h1 : n ≤ 9223372036854775807) (hT : TabAt w) : CallsV Tryd.prog 41 [.int .i64 n] w fun v w' => v = .string ⟨⟨Lib.itoa n⟩⟩ ∧ Fresh w w' := by
  refine Calls.mono (Any.strconv_Itoa lays171 n h0 h1 w hT) fun e w' he => ?_
  obtain ⟨rfl, k, os, rfl⟩ := he
  exact ⟨rfl, fresh_grow w k os⟩
end Go.Proofs.YtpoopljpodkdcaaDoor

namespace Go.Proofs.YtpoopljpodkdcaaDoor
open Go Go.Sx Go.Shelf Go.Isa
set_option maxRecDepth 100000

def lays146_ren : Go.Shelf.Ren := ⟨fun | 138 => 52 | 143 => 53 | 146 => 34 | 195 => 60 | 197 => 61 | 217 => 44 | 218 => 62 | 219 => 63 | 221 => 45 | 224 => 73 | 225 => 72 | 260 => 71 | 266 => 50 | 267 => 74 | 268 => 51 | 314 => 82 | n => n, fun | 31 => 49 | 46 => 91 | 51 => 90 | 105 => 106 | 119 => 130 | 138 => 132 | 139 => 133 | 146 => 134 | n => n, fun | 3 => 5 | 4 => 6 | n => n⟩
theorem lays146 : Lays.n146 Tryd.prog lays146_ren := {
  mixed := by kernel_rfl,
  f138 := Tryd.func52.trans (congrArg some (by kernel_rfl)),
  f143 := Tryd.func53.trans (congrArg some (by kernel_rfl)),
  f146 := Tryd.func34.trans (congrArg some (by kernel_rfl)),
  f195 := Tryd.func60.trans (congrArg some (by kernel_rfl)),
  f197 := Tryd.func61.trans (congrArg some (by kernel_rfl)),
  f217 := Tryd.func44.trans (congrArg some (by kernel_rfl)),
  f218 := Tryd.func62.trans (congrArg some (by kernel_rfl)),
  f219 := Tryd.func63.trans (congrArg some (by kernel_rfl)),
  f221 := Tryd.func45.trans (congrArg some (by kernel_rfl)),
  f224 := Tryd.func73.trans (congrArg some (by kernel_rfl)),
  f225 := Tryd.func72.trans (congrArg some (by kernel_rfl)),
  f260 := Tryd.func71.trans (congrArg some (by kernel_rfl)),
  f266 := Tryd.func50.trans (congrArg some (by kernel_rfl)),
  f267 := Tryd.func74.trans (congrArg some (by kernel_rfl)),
  f268 := Tryd.func51.trans (congrArg some (by kernel_rfl)),
  f314 := Tryd.func82.trans (congrArg some (by kernel_rfl)),
  t0 := Tryd.underlying0,
  a0 := Tryd.isAgg0,
  z0 := Tryd.sizeOf0,
  v0 := Tryd.zeroValue0,
  t3 := Tryd.underlying3,
  a3 := Tryd.isAgg3,
  z3 := Tryd.sizeOf3,
  v3 := Tryd.zeroValue3,
  t4 := Tryd.underlying4,
  a4 := Tryd.isAgg4,
  z4 := Tryd.sizeOf4,
  v4 := Tryd.zeroValue4,
  t5 := Tryd.underlying5,
  a5 := Tryd.isAgg5,
  z5 := Tryd.sizeOf5,
  v5 := Tryd.zeroValue5,
  t9 := Tryd.underlying9,
  a9 := Tryd.isAgg9,
  z9 := Tryd.sizeOf9,
  v9 := Tryd.zeroValue9,
  t21 := Tryd.underlying21,
  a21 := Tryd.isAgg21,
  z21 := Tryd.sizeOf21,
  v21 := Tryd.zeroValue21,
  t31 := Tryd.underlying49,
  a31 := Tryd.isAgg49,
  z31 := Tryd.sizeOf49,
  v31 := Tryd.zeroValue49,
  t46 := Tryd.underlying91,
  a46 := Tryd.isAgg91,
  z46 := Tryd.sizeOf91,
  v46 := Tryd.zeroValue91,
  t51 := Tryd.underlying90,
  a51 := Tryd.isAgg90,
  z51 := Tryd.sizeOf90,
  v51 := Tryd.zeroValue90,
  t105 := Tryd.underlying106,
  a105 := Tryd.isAgg106,
  z105 := Tryd.sizeOf106,
  v105 := Tryd.zeroValue106,
  t119 := Tryd.underlying130,
  a119 := Tryd.isAgg130,
  z119 := Tryd.sizeOf130,
  t138 := Tryd.underlying132,
  a138 := Tryd.isAgg132,
  z138 := Tryd.sizeOf132,
  v138 := Tryd.zeroValue132,
  t139 := Tryd.underlying133,
  a139 := Tryd.isAgg133,
  z139 := Tryd.sizeOf133,
  v139 := Tryd.zeroValue133,
  t146 := Tryd.underlying134,
  a146 := Tryd.isAgg134,
  z146 := Tryd.sizeOf134,
  v146 := Tryd.zeroValue134,
  g1 := by kernel_rfl,
  g3 := by kernel_rfl,
  g4 := by kernel_rfl }
def lays172_ren : Go.Shelf.Ren := ⟨fun | 129 => 78 | 171 => 41 | 172 => 36 | 205 => 66 | 243 => 48 | 244 => 46 | 245 => 47 | 246 => 59 | 247 => 54 | 279 => 55 | 280 => 56 | 281 => 57 | 282 => 58 | 283 => 67 | 284 => 68 | 285 => 69 | 286 => 70 | 287 => 64 | 316 => 65 | 317 => 77 | 318 => 79 | 319 => 80 | 320 => 81 | 321 => 75 | 322 => 76 | 337 => 83 | 338 => 84 | n => n, fun | 37 => 52 | 46 => 91 | 51 => 90 | 53 => 24 | 75 => 71 | 76 => 72 | 80 => 139 | 85 => 99 | 127 => 122 | 143 => 123 | 145 => 125 | 167 => 98 | 168 => 101 | 171 => 114 | 173 => 117 | 175 => 108 | 210 => 112 | 212 => 127 | 213 => 128 | 232 => 137 | 233 => 138 | n => n, fun | 15 => 2 | 16 => 3 | 17 => 4 | 18 => 7 | 19 => 8 | n => n⟩
theorem lays172 : LaysC.n172 Tryd.prog lays172_ren := {
  mixed := by kernel_rfl,
  f129 := Tryd.func78.trans (congrArg some (by kernel_rfl)),
  f171 := Tryd.func41.trans (congrArg some (by kernel_rfl)),
  f172 := Tryd.func36.trans (congrArg some (by kernel_rfl)),
  f205 := Tryd.func66.trans (congrArg some (by kernel_rfl)),
  f243 := Tryd.func48.trans (congrArg some (by kernel_rfl)),
  f244 := Tryd.func46.trans (congrArg some (by kernel_rfl)),
  f245 := Tryd.func47.trans (congrArg some (by kernel_rfl)),
  f246 := Tryd.func59.trans (congrArg some (by kernel_rfl)),
  f247 := Tryd.func54.trans (congrArg some (by kernel_rfl)),
  f279 := Tryd.func55.trans (congrArg some (by kernel_rfl)),
  f280 := Tryd.func56.trans (congrArg some (by kernel_rfl)),
  f281 := Tryd.func57.trans (congrArg some (by kernel_rfl)),
  f282 := Tryd.func58.trans (congrArg some (by kernel_rfl)),
  f283 := Tryd.func67.trans (congrArg some (by kernel_rfl)),
  f284 := Tryd.func68.trans (congrArg some (by kernel_rfl)),
  f285 := Tryd.func69.trans (congrArg some (by kernel_rfl)),
  f286 := Tryd.func70.trans (congrArg some (by kernel_rfl)),
  f287 := Tryd.func64.trans (congrArg some (by kernel_rfl)),
  f316 := Tryd.func65.trans (congrArg some (by kernel_rfl)),
  f317 := Tryd.func77.trans (congrArg some (by kernel_rfl)),
  f318 := Tryd.func79.trans (congrArg some (by kernel_rfl)),
  f319 := Tryd.func80.trans (congrArg some (by kernel_rfl)),
  f320 := Tryd.func81.trans (congrArg some (by kernel_rfl)),
  f321 := Tryd.func75.trans (congrArg some (by kernel_rfl)),
  f322 := Tryd.func76.trans (congrArg some (by kernel_rfl)),
  f337 := Tryd.func83.trans (congrArg some (by kernel_rfl)),
  f338 := Tryd.func84.trans (congrArg some (by kernel_rfl)),
  t0 := Tryd.underlying0,
  a0 := Tryd.isAgg0,
  z0 := Tryd.sizeOf0,
  v0 := Tryd.zeroValue0,
  t2 := Tryd.underlying2,
  a2 := Tryd.isAgg2,
  z2 := Tryd.sizeOf2,
  v2 := Tryd.zeroValue2,
  t3 := Tryd.underlying3,
  a3 := Tryd.isAgg3,
  z3 := Tryd.sizeOf3,
  v3 := Tryd.zeroValue3,
  t4 := Tryd.underlying4,
  a4 := Tryd.isAgg4,
  z4 := Tryd.sizeOf4,
  v4 := Tryd.zeroValue4,
  t5 := Tryd.underlying5,
  a5 := Tryd.isAgg5,
  z5 := Tryd.sizeOf5,
  v5 := Tryd.zeroValue5,
  t9 := Tryd.underlying9,
  a9 := Tryd.isAgg9,
  z9 := Tryd.sizeOf9,
  v9 := Tryd.zeroValue9,
  t20 := Tryd.underlying20,
  a20 := Tryd.isAgg20,
  z20 := Tryd.sizeOf20,
  v20 := Tryd.zeroValue20,
  t21 := Tryd.underlying21,
  a21 := Tryd.isAgg21,
  z21 := Tryd.sizeOf21,
  v21 := Tryd.zeroValue21,
  t37 := Tryd.underlying52,
  a37 := Tryd.isAgg52,
  z37 := Tryd.sizeOf52,
  v37 := Tryd.zeroValue52,
  t46 := Tryd.underlying91,
  a46 := Tryd.isAgg91,
  z46 := Tryd.sizeOf91,
  v46 := Tryd.zeroValue91,
  t51 := Tryd.underlying90,
  a51 := Tryd.isAgg90,
  z51 := Tryd.sizeOf90,
  v51 := Tryd.zeroValue90,
  t53 := Tryd.underlying24,
  a53 := Tryd.isAgg24,
  z53 := Tryd.sizeOf24,
  v53 := Tryd.zeroValue24,
  t75 := Tryd.underlying71,
  a75 := Tryd.isAgg71,
  z75 := Tryd.sizeOf71,
  v75 := Tryd.zeroValue71,
  t76 := Tryd.underlying72,
  a76 := Tryd.isAgg72,
  z76 := Tryd.sizeOf72,
  v76 := Tryd.zeroValue72,
  t85 := Tryd.underlying99,
  a85 := Tryd.isAgg99,
  z85 := Tryd.sizeOf99,
  v85 := Tryd.zeroValue99,
  t127 := Tryd.underlying122,
  a127 := Tryd.isAgg122,
  z127 := Tryd.sizeOf122,
  v127 := Tryd.zeroValue122,
  t143 := Tryd.underlying123,
  a143 := Tryd.isAgg123,
  z143 := Tryd.sizeOf123,
  v143 := Tryd.zeroValue123,
  t145 := Tryd.underlying125,
  a145 := Tryd.isAgg125,
  z145 := Tryd.sizeOf125,
  v145 := Tryd.zeroValue125,
  t167 := Tryd.underlying98,
  a167 := Tryd.isAgg98,
  z167 := Tryd.sizeOf98,
  v167 := Tryd.zeroValue98,
  t168 := Tryd.underlying101,
  a168 := Tryd.isAgg101,
  z168 := Tryd.sizeOf101,
  v168 := Tryd.zeroValue101,
  t171 := Tryd.underlying114,
  a171 := Tryd.isAgg114,
  z171 := Tryd.sizeOf114,
  v171 := Tryd.zeroValue114,
  t173 := Tryd.underlying117,
  a173 := Tryd.isAgg117,
  z173 := Tryd.sizeOf117,
  v173 := Tryd.zeroValue117,
  t175 := Tryd.underlying108,
  a175 := Tryd.isAgg108,
  z175 := Tryd.sizeOf108,
  v175 := Tryd.zeroValue108,
  t210 := Tryd.underlying112,
  a210 := Tryd.isAgg112,
  z210 := Tryd.sizeOf112,
  v210 := Tryd.zeroValue112,
  t212 := Tryd.underlying127,
  a212 := Tryd.isAgg127,
  z212 := Tryd.sizeOf127,
  v212 := Tryd.zeroValue127,
  t213 := Tryd.underlying128,
  a213 := Tryd.isAgg128,
  z213 := Tryd.sizeOf128,
  t232 := Tryd.underlying137,
  a232 := Tryd.isAgg137,
  z232 := Tryd.sizeOf137,
  v232 := Tryd.zeroValue137,
  t233 := Tryd.underlying138,
  a233 := Tryd.isAgg138,
  z233 := Tryd.sizeOf138,
  v233 := Tryd.zeroValue138,
  g15 := by kernel_rfl,
  g16 := by kernel_rfl,
  g17 := by kernel_rfl,
  g18 := by kernel_rfl,
  g19 := by kernel_rfl,
  t80 := Tryd.underlying139,
  a80 := Tryd.isAgg139,
  z80 := Tryd.sizeOf139,
  v80 := Tryd.zeroValue139,
  i0 := by kernel_rfl,
  i2 := by kernel_rfl,
  i3 := by kernel_rfl,
  i4 := by kernel_rfl,
  i5 := by kernel_rfl,
  i9 := by kernel_rfl,
  i20 := by kernel_rfl,
  i21 := by kernel_rfl,
  i37 := by kernel_rfl,
  i46 := by kernel_rfl,
  i51 := by kernel_rfl,
  i53 := by kernel_rfl,
  i75 := by kernel_rfl,
  i76 := by kernel_rfl,
  i80 := by kernel_rfl,
  i85 := by kernel_rfl,
  i127 := by kernel_rfl,
  i143 := by kernel_rfl,
  i145 := by kernel_rfl,
  i167 := by kernel_rfl,
  i168 := by kernel_rfl,
  i171 := by kernel_rfl,
  i173 := by kernel_rfl,
  i175 := by kernel_rfl,
  i210 := by kernel_rfl,
  i212 := by kernel_rfl,
  i232 := by kernel_rfl,
  i233 := by kernel_rfl,
  m15 := by kernel_rfl,
  m16 := by kernel_rfl,
  m17 := by kernel_rfl,
  m18 := by kernel_rfl,
  m19 := by kernel_rfl,
  c0 := by kernel_rfl,
  c2 := by kernel_rfl,
  c3 := by kernel_rfl,
  c4 := by kernel_rfl,
  c5 := by kernel_rfl,
  c9 := by kernel_rfl,
  c20 := by kernel_rfl,
  c21 := by kernel_rfl,
  c37 := by kernel_rfl,
  c46 := by kernel_rfl,
  c51 := by kernel_rfl,
  c53 := by kernel_rfl,
  c75 := by kernel_rfl,
  c76 := by kernel_rfl,
  c80 := by kernel_rfl,
  c85 := by kernel_rfl,
  c127 := by kernel_rfl,
  c143 := by kernel_rfl,
  c145 := by kernel_rfl,
  c167 := by kernel_rfl,
  c168 := by kernel_rfl,
  c171 := by kernel_rfl,
  c173 := by kernel_rfl,
  c175 := by kernel_rfl,
  c210 := by kernel_rfl,
  c212 := by kernel_rfl,
  c213 := by kernel_rfl,
  c232 := by kernel_rfl,
  c233 := by kernel_rfl }

theorem cell0_keep {w w' : World} {g : Nat} {v : Value} (h : w.cell? ⟨g, 0, none⟩ = some v) (k : Fresh w w') : w'.cell? ⟨g, 0, none⟩ = some v := by
  refine (cell_keep k ?_).trans h
  unfold World.cell? at h
  split at h
  · rename_i e; exact (Array.getElem?_eq_some_iff.1 e).1
  · cases h
structure LibAt (w : World) : Prop where
  max : ∃ m, w.cell? ⟨1, 0, none⟩ = some (.int .i64 m)
  syn : ∃ t p, w.cell? ⟨2, 0, none⟩ = some (.iface t p)
  rng : ∃ t p, w.cell? ⟨3, 0, none⟩ = some (.iface t p)
theorem LibAt.keep {w w' : World} (h : LibAt w) (k : Fresh w w') : LibAt w' := by
  obtain ⟨⟨m, h1⟩, ⟨t, p, h2⟩, ⟨t', p', h3⟩⟩ := h
  exact ⟨⟨m, cell0_keep h1 k⟩, ⟨t, p, cell0_keep h2 k⟩, ⟨t', p', cell0_keep h3 k⟩⟩
theorem fresh_below {w w' : World} (h : RowKit.Below w.heap.size w w') : Fresh w w' := ⟨h.1, h.2, h.3, h.4, h.5⟩
theorem atoi36 (s : ByteArray) (w : World) (hs : s.size ≤ 100000) (hL : LibAt w) : CallsV Tryd.prog 36 [.string s] w fun v w' =>
    (∃ n t p, v = .tuple #[.int .i64 n, .iface t p] ∧ (∀ z, Lib.atoiAll s.data.toList ≠ .ok z)) ∧ Fresh w w' ∨ (∃ n, v = .tuple #[.int .i64 n, .nilIface] ∧ Lib.atoiAll s.data.toList = .ok n) ∧ Fresh w w' := by
  obtain ⟨_, ⟨t, p, h2⟩, ⟨t', p', h3⟩⟩ := hL
  cases h : Lib.atoiAll s.data.toList
  · rename_i n
    refine Calls.mono (Any.strconv_Atoi_ok lays172 s (by omega) n h w) fun e w' he => ?_
    obtain ⟨rfl, he⟩ := he
    refine .inr ⟨⟨n, rfl, rfl⟩, ?_⟩
    rcases he with rfl | ⟨x, rfl⟩
    · exact Fresh.refl _
    · refine ⟨rfl, rfl, rfl, ?_, fun j hj => ?_⟩
      · unfold Lib.bytesWorld World.freeze
        rw [if_neg (by decide)]; simp
      · unfold Lib.bytesWorld World.freeze
        rw [if_neg (by decide)]
        simp only [Array.getElem?_modify]
        rw [if_neg (by show ¬ w.heap.size = j; omega)]
        exact Go.RowKit.Below.heap_alloc w.drew _ j hj
  · refine Calls.mono (Any.strconv_Atoi_syntax lays172 s (by omega) h _ w h2 (.inr ⟨t, p, rfl⟩)) fun e w' he => ?_
    obtain ⟨N, rfl, _, _, hb⟩ := he
    exact .inl ⟨⟨_, _, _, rfl, by simp⟩, fresh_below hb⟩
  · refine Calls.mono (Any.strconv_Atoi_range lays172 s (by omega) h _ w h3 (.inr ⟨t', p', rfl⟩)) fun e w' he => ?_
    obtain ⟨N, rfl, _, _, hb⟩ := he
    exact .inl ⟨⟨_, _, _, rfl, by simp⟩, fresh_below hb⟩
theorem split34 (s : ByteArray) (w : World) (hs : s.size ≤ 100000) (hL : LibAt w) : CallsV Tryd.prog 34 [.string s, .string ⟨⟨[32]⟩⟩] w fun v w' =>
    w'.ownsRow w.heap.size 9 1 v (Lib.countB s ⟨⟨[32]⟩⟩ + 1) ((Lib.splitB ⟨⟨[32]⟩⟩ 0 (Lib.countB s ⟨⟨[32]⟩⟩) s).map Value.string) ∧ Fresh w w' := by
  obtain ⟨⟨m, h1⟩, _, _⟩ := hL
  refine Calls.mono (Any.strings_Split lays146 (by kernel_rfl) s ⟨⟨[32]⟩⟩ m w (by omega) h1 (by decide)) fun e w' he => ?_
  obtain ⟨rfl, rfl⟩ := he
  have hlen := Lib.splitB_all ⟨⟨[32]⟩⟩ (by decide) 0 _ s rfl
  refine ⟨⟨by rw [List.length_map, hlen]; omega, .inr ⟨w.heap.size, Lib.countB s ⟨⟨[32]⟩⟩ + 1, ((Lib.splitB ⟨⟨[32]⟩⟩ 0 (Lib.countB s ⟨⟨[32]⟩⟩) s).map Value.string).toArray, rfl, Nat.le_refl _, heap_alloc_new w _, Nat.le_refl _, ?_, ?_, ?_⟩⟩, ⟨rfl, rfl, rfl, by simp, fun j hj => Go.RowKit.Below.heap_alloc w _ j hj⟩⟩
  · have := Lib.countB_le ⟨⟨[32]⟩⟩ (by decide) s.size s (Nat.le_refl _)
    simp [maxLen]; omega
  · simp [hlen]
  · rw [List.take_of_length_le (by simp [hlen])]
end Go.Proofs.YtpoopljpodkdcaaDoor
