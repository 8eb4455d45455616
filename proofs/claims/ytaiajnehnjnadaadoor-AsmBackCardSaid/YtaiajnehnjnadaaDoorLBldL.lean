/- The kit's contracts of strings.Builder's WriteString and String, laid at this program. -/
import Derived.Shelf.Strings.BuilderK
import Derived.Test.YtaiajnehnjnadaaDoorProg
import Derived.Test.YtaiajnehnjnadaaDoorSxJoin
import Derived.KernelRfl
set_option linter.unusedSimpArgs false
set_option linter.unusedVariables false
set_option linter.unnecessarySimpa false
namespace Go.Proofs.YtaiajnehnjnadaaDoor
open Go Go.Sx Go.Shelf Go.RowKit
set_option maxRecDepth 1000000
def layW_ren:Go.Shelf.Ren:=⟨fun | 166=>15 | 240=>28 | 276=>44 | n=>n,fun | 37=>31 | 70=>46 | 72=>48 | 75=>50 | 80=>57 | 164=>89 | n=>n,fun | n=>n⟩
theorem layW:Go.Proofs.Lays.n166 Tryd.prog layW_ren:={
 mixed:=by kernel_rfl,
 f166:=by first | exact Tryd.func15.trans (congrArg some (by kernel_rfl)) | exact⟨Tryd.f15.name,by kernel_rfl,Tryd.func15.trans (congrArg some (by kernel_rfl))⟩,
 f240:=by first | exact Tryd.func28.trans (congrArg some (by kernel_rfl)) | exact⟨Tryd.f28.name,by kernel_rfl,Tryd.func28.trans (congrArg some (by kernel_rfl))⟩,
 f276:=by first | exact Tryd.func44.trans (congrArg some (by kernel_rfl)) | exact⟨Tryd.f44.name,by kernel_rfl,Tryd.func44.trans (congrArg some (by kernel_rfl))⟩,
 t0:=Tryd.underlying0,
 a0:=Tryd.isAgg0,
 z0:=Tryd.sizeOf0,
 v0:=Tryd.zeroValue0,
 t3:=Tryd.underlying3,
 a3:=Tryd.isAgg3,
 z3:=Tryd.sizeOf3,
 v3:=Tryd.zeroValue3,
 t4:=Tryd.underlying4,
 a4:=Tryd.isAgg4,
 z4:=Tryd.sizeOf4,
 v4:=Tryd.zeroValue4,
 t9:=Tryd.underlying9,
 a9:=Tryd.isAgg9,
 z9:=Tryd.sizeOf9,
 v9:=Tryd.zeroValue9,
 t20:=Tryd.underlying20,
 a20:=Tryd.isAgg20,
 z20:=Tryd.sizeOf20,
 v20:=Tryd.zeroValue20,
 t37:=Tryd.underlying31,
 a37:=Tryd.isAgg31,
 z37:=Tryd.sizeOf31,
 v37:=Tryd.zeroValue31,
 t70:=Tryd.underlying46,
 a70:=Tryd.isAgg46,
 z70:=Tryd.sizeOf46,
 v70:=Tryd.zeroValue46,
 t72:=Tryd.underlying48,
 a72:=Tryd.isAgg48,
 z72:=Tryd.sizeOf48,
 v72:=Tryd.zeroValue48,
 t75:=Tryd.underlying50,
 a75:=Tryd.isAgg50,
 z75:=Tryd.sizeOf50,
 v75:=Tryd.zeroValue50,
 t164:=Tryd.underlying89,
 a164:=Tryd.isAgg89,
 z164:=Tryd.sizeOf89,
 v164:=Tryd.zeroValue89 }
def layS_ren:Go.Shelf.Ren:=⟨fun | 169=>19 | n=>n,fun | 37=>31 | 70=>46 | 72=>48 | 127=>74 | n=>n,fun | n=>n⟩
theorem layS:Go.Proofs.Lays.n169 Tryd.prog layS_ren:={
 mixed:=by kernel_rfl,
 f169:=by first | exact Tryd.func19.trans (congrArg some (by kernel_rfl)) | exact⟨Tryd.f19.name,by kernel_rfl,Tryd.func19.trans (congrArg some (by kernel_rfl))⟩,
 t0:=Tryd.underlying0,
 a0:=Tryd.isAgg0,
 z0:=Tryd.sizeOf0,
 v0:=Tryd.zeroValue0,
 t3:=Tryd.underlying3,
 a3:=Tryd.isAgg3,
 z3:=Tryd.sizeOf3,
 v3:=Tryd.zeroValue3,
 t9:=Tryd.underlying9,
 a9:=Tryd.isAgg9,
 z9:=Tryd.sizeOf9,
 v9:=Tryd.zeroValue9,
 t37:=Tryd.underlying31,
 a37:=Tryd.isAgg31,
 z37:=Tryd.sizeOf31,
 v37:=Tryd.zeroValue31,
 t70:=Tryd.underlying46,
 a70:=Tryd.isAgg46,
 z70:=Tryd.sizeOf46,
 v70:=Tryd.zeroValue46,
 t72:=Tryd.underlying48,
 a72:=Tryd.isAgg48,
 z72:=Tryd.sizeOf48,
 v72:=Tryd.zeroValue48,
 t127:=Tryd.underlying74,
 a127:=Tryd.isAgg74,
 z127:=Tryd.sizeOf74,
 v127:=Tryd.zeroValue74 }
theorem extraW:Builder.Extra Tryd.prog layW_ren where
 sizeBuilder:=by kernel_rfl
 liesBuilder:=by kernel_rfl
 t5:=Tryd.underlying5
 a5:=Tryd.isAgg5
 z5:=Tryd.sizeOf5
 v5:=Tryd.zeroValue5
 infoByte:=by kernel_rfl
 cellsByte:=by kernel_rfl
 sizeByte:=by kernel_rfl
 neB5:=by decide
theorem extraS:Builder.Extra Tryd.prog layS_ren where
 sizeBuilder:=by kernel_rfl
 liesBuilder:=by kernel_rfl
 t5:=Tryd.underlying5
 a5:=Tryd.isAgg5
 z5:=Tryd.sizeOf5
 v5:=Tryd.zeroValue5
 infoByte:=by kernel_rfl
 cellsByte:=by kernel_rfl
 sizeByte:=by kernel_rfl
 neB5:=by decide
theorem writeC (B gb:Nat) (bs:List Value) (s:ByteArray) (w:World) (h:Lib.IsBuilderF 48 5 B gb bs w) (hlen:bs.length+s.size≤140737488355328) (hB:B≤w.heap.size) :
  CallsV Tryd.prog 15 [.pointer (some ⟨gb,0,none⟩),.string s] w fun u w'=>u=.tuple #[.int .i64 s.size,.nilIface]∧Lib.IsBuilderF 48 5 B gb (bs++Lib.strCells s) w'∧Below B w w'∧Lib.OthersKept 5 (some gb) w w':=by
 refine Calls.mono (Any.Builder_WriteString_k layW extraW B gb bs s w h hlen hB) fun e w' he=>?_
 obtain⟨rfl,h1,h2,h3⟩:=he
 exact⟨rfl,.inr h1,h2,h3⟩
theorem stringC (B gb:Nat) (l:List UInt8) (w:World) (h:Lib.IsBuilderF 48 5 B gb (Lib.byteCells l) w) (hB:B≤w.heap.size) :
  CallsV Tryd.prog 19 [.pointer (some ⟨gb,0,none⟩)] w fun u w'=>u=.string ⟨⟨l⟩⟩∧Below B w w':=by
 refine Calls.mono (Any.Builder_String_any_k layS extraS B gb l w h hB) fun e w' he=>?_
 obtain⟨rfl,_,h2,_⟩:=he
 exact⟨rfl,h2⟩
end Go.Proofs.YtaiajnehnjnadaaDoor
