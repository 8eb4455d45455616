/- strings.Builder's WriteString and String, at this program: what the runner asks of them. -/
import Derived.Test.YtfgdmcnlbgbleaaDoorBldKept
import Derived.Test.YtfgdmcnlbgbleaaDoorKxBld
import Derived.Test.YtfgdmcnlbgbleaaDoorProg
import Derived.KernelRfl
set_option linter.unusedSimpArgs false
set_option linter.unusedVariables false
set_option linter.unnecessarySimpa false
namespace Go.Proofs.YtfgdmcnlbgbleaaDoor
open Go Go.Shelf Go.Kx
set_option maxRecDepth 100000
def lays166_ren : Go.Shelf.Ren := ⟨fun | 166 => 12 | 240 => 25 | 276 => 40 | n => n, fun | 37 => 47 | 70 => 46 | 72 => 49 | 75 => 51 | 80 => 58 | 164 => 88 | n => n, fun | n => n⟩
theorem lays166 : Go.Proofs.Lays.n166 Tryd.prog lays166_ren := { mixed := by kernel_rfl, f166 := Tryd.func12.trans (congrArg some (by kernel_rfl)), f240 := Tryd.func25.trans (congrArg some (by kernel_rfl)), f276 := Tryd.func40.trans (congrArg some (by kernel_rfl)), t0 := Tryd.underlying0, a0 := Tryd.isAgg0, z0 := Tryd.sizeOf0, v0 := Tryd.zeroValue0, t3 := Tryd.underlying3, a3 := Tryd.isAgg3, z3 := Tryd.sizeOf3, v3 := Tryd.zeroValue3, t4 := Tryd.underlying4, a4 := Tryd.isAgg4, z4 := Tryd.sizeOf4, v4 := Tryd.zeroValue4, t9 := Tryd.underlying9, a9 := Tryd.isAgg9, z9 := Tryd.sizeOf9, v9 := Tryd.zeroValue9, t20 := Tryd.underlying20, a20 := Tryd.isAgg20, z20 := Tryd.sizeOf20, v20 := Tryd.zeroValue20, t37 := Tryd.underlying47, a37 := Tryd.isAgg47, z37 := Tryd.sizeOf47, v37 := Tryd.zeroValue47, t70 := Tryd.underlying46, a70 := Tryd.isAgg46, z70 := Tryd.sizeOf46, v70 := Tryd.zeroValue46, t72 := Tryd.underlying49, a72 := Tryd.isAgg49, z72 := Tryd.sizeOf49, v72 := Tryd.zeroValue49, t75 := Tryd.underlying51, a75 := Tryd.isAgg51, z75 := Tryd.sizeOf51, v75 := Tryd.zeroValue51, t164 := Tryd.underlying88, a164 := Tryd.isAgg88, z164 := Tryd.sizeOf88, v164 := Tryd.zeroValue88 }
theorem x166 : Go.Proofs.Builder.Extra Tryd.prog lays166_ren := { sizeBuilder := by kernel_rfl, liesBuilder := by kernel_rfl, t5 := Tryd.underlying5, a5 := Tryd.isAgg5, z5 := Tryd.sizeOf5, v5 := Tryd.zeroValue5, infoByte := by kernel_rfl, cellsByte := by kernel_rfl, sizeByte := by kernel_rfl, neB5 := by decide }
def lays169_ren : Go.Shelf.Ren := ⟨fun | 169 => 16 | n => n, fun | 37 => 47 | 70 => 46 | 72 => 49 | 127 => 77 | n => n, fun | n => n⟩
theorem lays169 : Go.Proofs.Lays.n169 Tryd.prog lays169_ren := {
  mixed := by kernel_rfl,
  f169 := Tryd.func16.trans (congrArg some (by kernel_rfl)),
  t0 := Tryd.underlying0,
  a0 := Tryd.isAgg0,
  z0 := Tryd.sizeOf0,
  v0 := Tryd.zeroValue0,
  t3 := Tryd.underlying3,
  a3 := Tryd.isAgg3,
  z3 := Tryd.sizeOf3,
  v3 := Tryd.zeroValue3,
  t9 := Tryd.underlying9,
  a9 := Tryd.isAgg9,
  z9 := Tryd.sizeOf9,
  v9 := Tryd.zeroValue9,
  t37 := Tryd.underlying47,
  a37 := Tryd.isAgg47,
  z37 := Tryd.sizeOf47,
  v37 := Tryd.zeroValue47,
  t70 := Tryd.underlying46,
  a70 := Tryd.isAgg46,
  z70 := Tryd.sizeOf46,
  v70 := Tryd.zeroValue46,
  t72 := Tryd.underlying49,
  a72 := Tryd.isAgg49,
  z72 := Tryd.sizeOf49,
  v72 := Tryd.zeroValue49,
  t127 := Tryd.underlying77,
  a127 := Tryd.isAgg77,
  z127 := Tryd.sizeOf77,
  v127 := Tryd.zeroValue77 }

theorem x169 : Go.Proofs.Builder.Extra Tryd.prog lays169_ren := { sizeBuilder := by kernel_rfl, liesBuilder := by kernel_rfl, t5 := Tryd.underlying5, a5 := Tryd.isAgg5, z5 := Tryd.sizeOf5, v5 := Tryd.zeroValue5, infoByte := by kernel_rfl, cellsByte := by kernel_rfl, sizeByte := by kernel_rfl, neB5 := by decide }
def bld : Bld := ⟨12, 16, 49, 5⟩
theorem bldOk : BldOk Tryd.prog bld where
  wok := by show Sx.fnOk Tryd.prog 12 = true; kernel_rfl
  sok := by show Sx.fnOk Tryd.prog 16 = true; kernel_rfl
  write b p v bs s w hp h hl := by
    refine Calls.mono (Go.Bld.writeString lays166 x166 b p v hp bs s w ⟨h.blk, h.own, h.ne⟩ hl) fun e w' he => ?_
    obtain ⟨rfl, v', h1, h2, h3⟩ := he
    exact ⟨rfl, v', ⟨h1.blk, h1.own, h1.ne⟩, h2, h3⟩
  str b g p cap l w h hl := by
    refine Calls.mono (Go.Bld.string lays169 x169 b g p cap l w ⟨h.blk, h.own, h.ne⟩ hl) fun e w' he => ?_
    obtain ⟨rfl, h1⟩ := he
    exact ⟨rfl, h1⟩
end Go.Proofs.YtfgdmcnlbgbleaaDoor
