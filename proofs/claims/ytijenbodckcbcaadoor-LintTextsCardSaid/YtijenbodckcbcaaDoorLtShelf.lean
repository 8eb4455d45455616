/- The kit's shelf contract of strconv.Itoa, laid at this program (the text printed by tools/ShText). -/
import Derived.Shelf.Strconv.Itoa3
import Derived.Test.YtijenbodckcbcaaDoorProg
import Derived.Test.YtijenbodckcbcaaDoorSxStill
import Derived.KernelRfl
set_option linter.unusedSimpArgs false
set_option linter.unusedVariables false
set_option linter.unnecessarySimpa false
namespace Go.Proofs.YtijenbodckcbcaaDoor
open Go Go.Sx Go.Shelf
set_option maxRecDepth 100000

def lays171_ren : Go.Shelf.Ren := ⟨fun | 129 => 19 | 171 => 7 | 243 => 11 | 246 => 13 | 283 => 14 | 284 => 15 | 285 => 16 | 286 => 17 | 317 => 18 | 318 => 20 | 319 => 21 | 320 => 22 | 337 => 23 | 338 => 24 | n => n, fun | 37 => 32 | 46 => 47 | 51 => 44 | 53 => 36 | 171 => 35 | 173 => 39 | 212 => 43 | 213 => 45 | 232 => 50 | 233 => 51 | n => n, fun | 17 => 1 | 18 => 2 | 19 => 3 | n => n⟩
theorem lays171 : LaysM.n171 Tryd.prog lays171_ren := {
  mixed := by kernel_rfl,
  f129 := Tryd.func19.trans (congrArg some (by kernel_rfl)),
  f171 := Tryd.func7.trans (congrArg some (by kernel_rfl)),
  f243 := Tryd.func11.trans (congrArg some (by kernel_rfl)),
  f246 := Tryd.func13.trans (congrArg some (by kernel_rfl)),
  f283 := Tryd.func14.trans (congrArg some (by kernel_rfl)),
  f284 := Tryd.func15.trans (congrArg some (by kernel_rfl)),
  f285 := Tryd.func16.trans (congrArg some (by kernel_rfl)),
  f286 := Tryd.func17.trans (congrArg some (by kernel_rfl)),
  f317 := Tryd.func18.trans (congrArg some (by kernel_rfl)),
  f318 := Tryd.func20.trans (congrArg some (by kernel_rfl)),
  f319 := Tryd.func21.trans (congrArg some (by kernel_rfl)),
  f320 := Tryd.func22.trans (congrArg some (by kernel_rfl)),
  f337 := Tryd.func23.trans (congrArg some (by kernel_rfl)),
  f338 := Tryd.func24.trans (congrArg some (by kernel_rfl)),
  t0 := Tryd.underlying0,
  a0 := Tryd.isAgg0,
  z0 := Tryd.sizeOf0,
  v0 := Tryd.zeroValue0,
  t2 := Tryd.underlying2,
  a2 := Tryd.isAgg2,
  z2 := Tryd.sizeOf2,
  v2 := Tryd.zeroValue2,
  t3 := Tryd.underlying3,
  a3 := Tryd.isAgg3,
  z3 := Tryd.sizeOf3,
  v3 := Tryd.zeroValue3,
  t4 := Tryd.underlying4,
  a4 := Tryd.isAgg4,
  z4 := Tryd.sizeOf4,
  v4 := Tryd.zeroValue4,
  t5 := Tryd.underlying5,
  a5 := Tryd.isAgg5,
  z5 := Tryd.sizeOf5,
  v5 := Tryd.zeroValue5,
  t9 := Tryd.underlying9,
  a9 := Tryd.isAgg9,
  z9 := Tryd.sizeOf9,
  v9 := Tryd.zeroValue9,
  t20 := Tryd.underlying20,
  a20 := Tryd.isAgg20,
  z20 := Tryd.sizeOf20,
  v20 := Tryd.zeroValue20,
  t37 := Tryd.underlying32,
  a37 := Tryd.isAgg32,
  z37 := Tryd.sizeOf32,
  v37 := Tryd.zeroValue32,
  t46 := Tryd.underlying47,
  a46 := Tryd.isAgg47,
  z46 := Tryd.sizeOf47,
  v46 := Tryd.zeroValue47,
  t51 := Tryd.underlying44,
  a51 := Tryd.isAgg44,
  z51 := Tryd.sizeOf44,
  v51 := Tryd.zeroValue44,
  t53 := Tryd.underlying36,
  a53 := Tryd.isAgg36,
  z53 := Tryd.sizeOf36,
  v53 := Tryd.zeroValue36,
  t171 := Tryd.underlying35,
  a171 := Tryd.isAgg35,
  z171 := Tryd.sizeOf35,
  v171 := Tryd.zeroValue35,
  t173 := Tryd.underlying39,
  a173 := Tryd.isAgg39,
  z173 := Tryd.sizeOf39,
  v173 := Tryd.zeroValue39,
  t212 := Tryd.underlying43,
  a212 := Tryd.isAgg43,
  z212 := Tryd.sizeOf43,
  v212 := Tryd.zeroValue43,
  t213 := Tryd.underlying45,
  a213 := Tryd.isAgg45,
  z213 := Tryd.sizeOf45,
  t232 := Tryd.underlying50,
  a232 := Tryd.isAgg50,
  z232 := Tryd.sizeOf50,
  v232 := Tryd.zeroValue50,
  t233 := Tryd.underlying51,
  a233 := Tryd.isAgg51,
  z233 := Tryd.sizeOf51,
  v233 := Tryd.zeroValue51,
  g17 := by kernel_rfl,
  g18 := by kernel_rfl,
  g19 := by kernel_rfl,
  i0 := by kernel_rfl,
  i2 := by kernel_rfl,
  i3 := by kernel_rfl,
  i4 := by kernel_rfl,
  i5 := by kernel_rfl,
  i9 := by kernel_rfl,
  i20 := by kernel_rfl,
  i37 := by kernel_rfl,
  i46 := by kernel_rfl,
  i51 := by kernel_rfl,
  i53 := by kernel_rfl,
  i171 := by kernel_rfl,
  i173 := by kernel_rfl,
  i212 := by kernel_rfl,
  i232 := by kernel_rfl,
  i233 := by kernel_rfl,
  m17 := by kernel_rfl,
  m18 := by kernel_rfl,
  m19 := by kernel_rfl }

def TabAt (w : World) : Prop := Lib.TabIs Tryd.prog w "internal/strconv.uint64pow10" .u64 Lib.pow10Tab
theorem gTab : Tryd.prog.globalNamed "internal/strconv.uint64pow10" = some 1 := by kernel_rfl
theorem TabAt.keep {w w' : World} (h : TabAt w) (k : Fresh w w') : TabAt w' := by
  unfold TabAt Lib.TabIs World.var? at *
  rw [gTab] at h ⊢
  simp only [Option.bind_some] at h ⊢
  have hlt : 1 < w.heap.size := by
    by_cases hl : 1 < w.heap.size
    · exact hl
    · rw [Array.getElem?_eq_none (by omega)] at h; cases h
  rw [k.block 1 hlt]; exact h
theorem fresh_grow (w : World) (k : Nat) (os : Array Obj) : Fresh w (Sort.grow (w.drewN k) os) :=
  ⟨rfl, rfl, rfl, by simp [Sort.grow, World.drewN], fun j hj => by
    show (w.heap ++ os)[j]? = w.heap[j]?
    rw [Array.getElem?_append_left hj]⟩
theorem itoa7 (n : Int) (w : World) (h0 : -9223372036854775808 ≤ n) (h1 : n ≤ 9223372036854775807) (hT : TabAt w) : CallsV Tryd.prog 7 [.int .i64 n] w fun v w' => v = .string ⟨⟨Lib.itoa n⟩⟩ ∧ Fresh w w' := by
  refine Calls.mono (Any.strconv_Itoa lays171 n h0 h1 w hT) fun e w' he => ?_
  obtain ⟨rfl, k, os, rfl⟩ := he
  exact ⟨rfl, fresh_grow w k os⟩
end Go.Proofs.YtijenbodckcbcaaDoor
