/- The kit's shelf contracts of strconv.Itoa, Atoi, strings.Split, Cut, Trim, CutSuffix, HasPrefix, LastIndexByte, laid at this program (the texts printed by tools/ShText). -/
import Derived.Shelf.Strconv.Itoa3
import Derived.Shelf.Strconv.AtoiAll
import Derived.Shelf.Strings.Split
import Derived.Shelf.Strings.Cut
import Derived.Shelf.Strings.SlTrimAscii
import Derived.Shelf.Small.Wraps
import Derived.Shelf.Strings.Prefix
import Derived.Shelf.Strings.LastIndex
import Derived.Shelf.Strconv.ErrVarAll
import Derived.Test.YtaiajnehnjnadaaGreatDoorProg
import Derived.Test.YtaiajnehnjnadaaGreatDoorSxStill
import Derived.Test.YtaiajnehnjnadaaGreatDoorIsaSpec
import Derived.KernelRfl
set_option linter.unusedSimpArgs false
set_option linter.unusedVariables false
set_option linter.unnecessarySimpa false
namespace Go.Proofs.YtaiajnehnjnadaaGreatDoor
open Go Go.Sx Go.Shelf Go.Isa Go.Asm
set_option maxRecDepth 1000000
def layItoa_ren:Go.Shelf.Ren:=⟨fun | 129=>101 | 171=>69 | 243=>81 | 246=>90 | 283=>94 | 284=>95 | 285=>96 | 286=>97 | 317=>100 | 318=>102 | 319=>103 | 320=>104 | 337=>105 | 338=>106 | n=>n,fun | 37=>113 | 46=>117 | 51=>125 | 53=>134 | 171=>141 | 173=>144 | 212=>152 | 213=>153 | 232=>156 | 233=>157 | n=>n,fun | 17=>6 | 18=>7 | 19=>8 | n=>n⟩
theorem layItoa:Go.Proofs.LaysM.n171 Tryz.prog layItoa_ren:={
 mixed:=by kernel_rfl,
 f129:=by first | exact Tryz.func101.trans (congrArg some (by kernel_rfl)) | exact⟨Tryz.f101.name,by kernel_rfl,Tryz.func101.trans (congrArg some (by kernel_rfl))⟩,
 f171:=by first | exact Tryz.func69.trans (congrArg some (by kernel_rfl)) | exact⟨Tryz.f69.name,by kernel_rfl,Tryz.func69.trans (congrArg some (by kernel_rfl))⟩,
 f243:=by first | exact Tryz.func81.trans (congrArg some (by kernel_rfl)) | exact⟨Tryz.f81.name,by kernel_rfl,Tryz.func81.trans (congrArg some (by kernel_rfl))⟩,
 f246:=by first | exact Tryz.func90.trans (congrArg some (by kernel_rfl)) | exact⟨Tryz.f90.name,by kernel_rfl,Tryz.func90.trans (congrArg some (by kernel_rfl))⟩,
 f283:=by first | exact Tryz.func94.trans (congrArg some (by kernel_rfl)) | exact⟨Tryz.f94.name,by kernel_rfl,Tryz.func94.trans (congrArg some (by kernel_rfl))⟩,
 f284:=by first | exact Tryz.func95.trans (congrArg some (by kernel_rfl)) | exact⟨Tryz.f95.name,by kernel_rfl,Tryz.func95.trans (congrArg some (by kernel_rfl))⟩,
 f285:=by first | exact Tryz.func96.trans (congrArg some (by kernel_rfl)) | exact⟨Tryz.f96.name,by kernel_rfl,Tryz.func96.trans (congrArg some (by kernel_rfl))⟩,
 f286:=by first | exact Tryz.func97.trans (congrArg some (by kernel_rfl)) | exact⟨Tryz.f97.name,by kernel_rfl,Tryz.func97.trans (congrArg some (by kernel_rfl))⟩,
 f317:=by first | exact Tryz.func100.trans (congrArg some (by kernel_rfl)) | exact⟨Tryz.f100.name,by kernel_rfl,Tryz.func100.trans (congrArg some (by kernel_rfl))⟩,
 f318:=by first | exact Tryz.func102.trans (congrArg some (by kernel_rfl)) | exact⟨Tryz.f102.name,by kernel_rfl,Tryz.func102.trans (congrArg some (by kernel_rfl))⟩,
 f319:=by first | exact Tryz.func103.trans (congrArg some (by kernel_rfl)) | exact⟨Tryz.f103.name,by kernel_rfl,Tryz.func103.trans (congrArg some (by kernel_rfl))⟩,
 f320:=by first | exact Tryz.func104.trans (congrArg some (by kernel_rfl)) | exact⟨Tryz.f104.name,by kernel_rfl,Tryz.func104.trans (congrArg some (by kernel_rfl))⟩,
 f337:=by first | exact Tryz.func105.trans (congrArg some (by kernel_rfl)) | exact⟨Tryz.f105.name,by kernel_rfl,Tryz.func105.trans (congrArg some (by kernel_rfl))⟩,
 f338:=by first | exact Tryz.func106.trans (congrArg some (by kernel_rfl)) | exact⟨Tryz.f106.name,by kernel_rfl,Tryz.func106.trans (congrArg some (by kernel_rfl))⟩,
 t0:=Tryz.underlying0,
 a0:=Tryz.isAgg0,
 z0:=Tryz.sizeOf0,
 v0:=Tryz.zeroValue0,
 t2:=Tryz.underlying2,
 a2:=Tryz.isAgg2,
 z2:=Tryz.sizeOf2,
 v2:=Tryz.zeroValue2,
 t3:=Tryz.underlying3,
 a3:=Tryz.isAgg3,
 z3:=Tryz.sizeOf3,
 v3:=Tryz.zeroValue3,
 t4:=Tryz.underlying4,
 a4:=Tryz.isAgg4,
 z4:=Tryz.sizeOf4,
 v4:=Tryz.zeroValue4,
 t5:=Tryz.underlying5,
 a5:=Tryz.isAgg5,
 z5:=Tryz.sizeOf5,
 v5:=Tryz.zeroValue5,
 t9:=Tryz.underlying9,
 a9:=Tryz.isAgg9,
 z9:=Tryz.sizeOf9,
 v9:=Tryz.zeroValue9,
 t20:=Tryz.underlying20,
 a20:=Tryz.isAgg20,
 z20:=Tryz.sizeOf20,
 v20:=Tryz.zeroValue20,
 t37:=Tryz.underlying113,
 a37:=Tryz.isAgg113,
 z37:=Tryz.sizeOf113,
 v37:=Tryz.zeroValue113,
 t46:=Tryz.underlying117,
 a46:=Tryz.isAgg117,
 z46:=Tryz.sizeOf117,
 v46:=Tryz.zeroValue117,
 t51:=Tryz.underlying125,
 a51:=Tryz.isAgg125,
 z51:=Tryz.sizeOf125,
 v51:=Tryz.zeroValue125,
 t53:=Tryz.underlying134,
 a53:=Tryz.isAgg134,
 z53:=Tryz.sizeOf134,
 v53:=Tryz.zeroValue134,
 t171:=Tryz.underlying141,
 a171:=Tryz.isAgg141,
 z171:=Tryz.sizeOf141,
 v171:=Tryz.zeroValue141,
 t173:=Tryz.underlying144,
 a173:=Tryz.isAgg144,
 z173:=Tryz.sizeOf144,
 v173:=Tryz.zeroValue144,
 t212:=Tryz.underlying152,
 a212:=Tryz.isAgg152,
 z212:=Tryz.sizeOf152,
 v212:=Tryz.zeroValue152,
 t213:=Tryz.underlying153,
 a213:=Tryz.isAgg153,
 z213:=Tryz.sizeOf153,
 t232:=Tryz.underlying156,
 a232:=Tryz.isAgg156,
 z232:=Tryz.sizeOf156,
 v232:=Tryz.zeroValue156,
 t233:=Tryz.underlying157,
 a233:=Tryz.isAgg157,
 z233:=Tryz.sizeOf157,
 v233:=Tryz.zeroValue157,
 g17:=by kernel_rfl,
 g18:=by kernel_rfl,
 g19:=by kernel_rfl,
 i0:=by kernel_rfl,
 i2:=by kernel_rfl,
 i3:=by kernel_rfl,
 i4:=by kernel_rfl,
 i5:=by kernel_rfl,
 i9:=by kernel_rfl,
 i20:=by kernel_rfl,
 i37:=by kernel_rfl,
 i46:=by kernel_rfl,
 i51:=by kernel_rfl,
 i53:=by kernel_rfl,
 i171:=by kernel_rfl,
 i173:=by kernel_rfl,
 i212:=by kernel_rfl,
 i232:=by kernel_rfl,
 i233:=by kernel_rfl,
 m17:=by kernel_rfl,
 m18:=by kernel_rfl,
 m19:=by kernel_rfl }
def layAtoi_ren:Go.Shelf.Ren:=⟨fun | 129=>101 | 171=>69 | 172=>53 | 205=>93 | 243=>81 | 244=>70 | 245=>71 | 246=>90 | 247=>82 | 279=>83 | 280=>84 | 281=>85 | 282=>86 | 283=>94 | 284=>95 | 285=>96 | 286=>97 | 287=>91 | 316=>92 | 317=>100 | 318=>102 | 319=>103 | 320=>104 | 321=>98 | 322=>99 | 337=>105 | 338=>106 | n=>n,fun | 37=>113 | 46=>117 | 51=>125 | 53=>134 | 75=>93 | 76=>94 | 80=>158 | 85=>120 | 127=>147 | 143=>148 | 145=>150 | 167=>119 | 168=>122 | 171=>141 | 173=>144 | 175=>135 | 210=>139 | 212=>152 | 213=>153 | 232=>156 | 233=>157 | n=>n,fun | 15=>4 | 16=>5 | 17=>6 | 18=>7 | 19=>8 | n=>n⟩
theorem layAtoi:Go.Proofs.LaysC.n172 Tryz.prog layAtoi_ren:={
 mixed:=by kernel_rfl,
 f129:=by first | exact Tryz.func101.trans (congrArg some (by kernel_rfl)) | exact⟨Tryz.f101.name,by kernel_rfl,Tryz.func101.trans (congrArg some (by kernel_rfl))⟩,
 f171:=by first | exact Tryz.func69.trans (congrArg some (by kernel_rfl)) | exact⟨Tryz.f69.name,by kernel_rfl,Tryz.func69.trans (congrArg some (by kernel_rfl))⟩,
 f172:=by first | exact Tryz.func53.trans (congrArg some (by kernel_rfl)) | exact⟨Tryz.f53.name,by kernel_rfl,Tryz.func53.trans (congrArg some (by kernel_rfl))⟩,
 f205:=by first | exact Tryz.func93.trans (congrArg some (by kernel_rfl)) | exact⟨Tryz.f93.name,by kernel_rfl,Tryz.func93.trans (congrArg some (by kernel_rfl))⟩,
 f243:=by first | exact Tryz.func81.trans (congrArg some (by kernel_rfl)) | exact⟨Tryz.f81.name,by kernel_rfl,Tryz.func81.trans (congrArg some (by kernel_rfl))⟩,
 f244:=by first | exact Tryz.func70.trans (congrArg some (by kernel_rfl)) | exact⟨Tryz.f70.name,by kernel_rfl,Tryz.func70.trans (congrArg some (by kernel_rfl))⟩,
 f245:=by first | exact Tryz.func71.trans (congrArg some (by kernel_rfl)) | exact⟨Tryz.f71.name,by kernel_rfl,Tryz.func71.trans (congrArg some (by kernel_rfl))⟩,
 f246:=by first | exact Tryz.func90.trans (congrArg some (by kernel_rfl)) | exact⟨Tryz.f90.name,by kernel_rfl,Tryz.func90.trans (congrArg some (by kernel_rfl))⟩,
 f247:=by first | exact Tryz.func82.trans (congrArg some (by kernel_rfl)) | exact⟨Tryz.f82.name,by kernel_rfl,Tryz.func82.trans (congrArg some (by kernel_rfl))⟩,
 f279:=by first | exact Tryz.func83.trans (congrArg some (by kernel_rfl)) | exact⟨Tryz.f83.name,by kernel_rfl,Tryz.func83.trans (congrArg some (by kernel_rfl))⟩,
 f280:=by first | exact Tryz.func84.trans (congrArg some (by kernel_rfl)) | exact⟨Tryz.f84.name,by kernel_rfl,Tryz.func84.trans (congrArg some (by kernel_rfl))⟩,
 f281:=by first | exact Tryz.func85.trans (congrArg some (by kernel_rfl)) | exact⟨Tryz.f85.name,by kernel_rfl,Tryz.func85.trans (congrArg some (by kernel_rfl))⟩,
 f282:=by first | exact Tryz.func86.trans (congrArg some (by kernel_rfl)) | exact⟨Tryz.f86.name,by kernel_rfl,Tryz.func86.trans (congrArg some (by kernel_rfl))⟩,
 f283:=by first | exact Tryz.func94.trans (congrArg some (by kernel_rfl)) | exact⟨Tryz.f94.name,by kernel_rfl,Tryz.func94.trans (congrArg some (by kernel_rfl))⟩,
 f284:=by first | exact Tryz.func95.trans (congrArg some (by kernel_rfl)) | exact⟨Tryz.f95.name,by kernel_rfl,Tryz.func95.trans (congrArg some (by kernel_rfl))⟩,
 f285:=by first | exact Tryz.func96.trans (congrArg some (by kernel_rfl)) | exact⟨Tryz.f96.name,by kernel_rfl,Tryz.func96.trans (congrArg some (by kernel_rfl))⟩,
 f286:=by first | exact Tryz.func97.trans (congrArg some (by kernel_rfl)) | exact⟨Tryz.f97.name,by kernel_rfl,Tryz.func97.trans (congrArg some (by kernel_rfl))⟩,
 f287:=by first | exact Tryz.func91.trans (congrArg some (by kernel_rfl)) | exact⟨Tryz.f91.name,by kernel_rfl,Tryz.func91.trans (congrArg some (by kernel_rfl))⟩,
 f316:=by first | exact Tryz.func92.trans (congrArg some (by kernel_rfl)) | exact⟨Tryz.f92.name,by kernel_rfl,Tryz.func92.trans (congrArg some (by kernel_rfl))⟩,
 f317:=by first | exact Tryz.func100.trans (congrArg some (by kernel_rfl)) | exact⟨Tryz.f100.name,by kernel_rfl,Tryz.func100.trans (congrArg some (by kernel_rfl))⟩,
 f318:=by first | exact Tryz.func102.trans (congrArg some (by kernel_rfl)) | exact⟨Tryz.f102.name,by kernel_rfl,Tryz.func102.trans (congrArg some (by kernel_rfl))⟩,
 f319:=by first | exact Tryz.func103.trans (congrArg some (by kernel_rfl)) | exact⟨Tryz.f103.name,by kernel_rfl,Tryz.func103.trans (congrArg some (by kernel_rfl))⟩,
 f320:=by first | exact Tryz.func104.trans (congrArg some (by kernel_rfl)) | exact⟨Tryz.f104.name,by kernel_rfl,Tryz.func104.trans (congrArg some (by kernel_rfl))⟩,
 f321:=by first | exact Tryz.func98.trans (congrArg some (by kernel_rfl)) | exact⟨Tryz.f98.name,by kernel_rfl,Tryz.func98.trans (congrArg some (by kernel_rfl))⟩,
 f322:=by first | exact Tryz.func99.trans (congrArg some (by kernel_rfl)) | exact⟨Tryz.f99.name,by kernel_rfl,Tryz.func99.trans (congrArg some (by kernel_rfl))⟩,
 f337:=by first | exact Tryz.func105.trans (congrArg some (by kernel_rfl)) | exact⟨Tryz.f105.name,by kernel_rfl,Tryz.func105.trans (congrArg some (by kernel_rfl))⟩,
 f338:=by first | exact Tryz.func106.trans (congrArg some (by kernel_rfl)) | exact⟨Tryz.f106.name,by kernel_rfl,Tryz.func106.trans (congrArg some (by kernel_rfl))⟩,
 t0:=Tryz.underlying0,
 a0:=Tryz.isAgg0,
 z0:=Tryz.sizeOf0,
 v0:=Tryz.zeroValue0,
 t2:=Tryz.underlying2,
 a2:=Tryz.isAgg2,
 z2:=Tryz.sizeOf2,
 v2:=Tryz.zeroValue2,
 t3:=Tryz.underlying3,
 a3:=Tryz.isAgg3,
 z3:=Tryz.sizeOf3,
 v3:=Tryz.zeroValue3,
 t4:=Tryz.underlying4,
 a4:=Tryz.isAgg4,
 z4:=Tryz.sizeOf4,
 v4:=Tryz.zeroValue4,
 t5:=Tryz.underlying5,
 a5:=Tryz.isAgg5,
 z5:=Tryz.sizeOf5,
 v5:=Tryz.zeroValue5,
 t9:=Tryz.underlying9,
 a9:=Tryz.isAgg9,
 z9:=Tryz.sizeOf9,
 v9:=Tryz.zeroValue9,
 t20:=Tryz.underlying20,
 a20:=Tryz.isAgg20,
 z20:=Tryz.sizeOf20,
 v20:=Tryz.zeroValue20,
 t21:=Tryz.underlying21,
 a21:=Tryz.isAgg21,
 z21:=Tryz.sizeOf21,
 v21:=Tryz.zeroValue21,
 t37:=Tryz.underlying113,
 a37:=Tryz.isAgg113,
 z37:=Tryz.sizeOf113,
 v37:=Tryz.zeroValue113,
 t46:=Tryz.underlying117,
 a46:=Tryz.isAgg117,
 z46:=Tryz.sizeOf117,
 v46:=Tryz.zeroValue117,
 t51:=Tryz.underlying125,
 a51:=Tryz.isAgg125,
 z51:=Tryz.sizeOf125,
 v51:=Tryz.zeroValue125,
 t53:=Tryz.underlying134,
 a53:=Tryz.isAgg134,
 z53:=Tryz.sizeOf134,
 v53:=Tryz.zeroValue134,
 t75:=Tryz.underlying93,
 a75:=Tryz.isAgg93,
 z75:=Tryz.sizeOf93,
 v75:=Tryz.zeroValue93,
 t76:=Tryz.underlying94,
 a76:=Tryz.isAgg94,
 z76:=Tryz.sizeOf94,
 v76:=Tryz.zeroValue94,
 t85:=Tryz.underlying120,
 a85:=Tryz.isAgg120,
 z85:=Tryz.sizeOf120,
 v85:=Tryz.zeroValue120,
 t127:=Tryz.underlying147,
 a127:=Tryz.isAgg147,
 z127:=Tryz.sizeOf147,
 v127:=Tryz.zeroValue147,
 t143:=Tryz.underlying148,
 a143:=Tryz.isAgg148,
 z143:=Tryz.sizeOf148,
 v143:=Tryz.zeroValue148,
 t145:=Tryz.underlying150,
 a145:=Tryz.isAgg150,
 z145:=Tryz.sizeOf150,
 v145:=Tryz.zeroValue150,
 t167:=Tryz.underlying119,
 a167:=Tryz.isAgg119,
 z167:=Tryz.sizeOf119,
 v167:=Tryz.zeroValue119,
 t168:=Tryz.underlying122,
 a168:=Tryz.isAgg122,
 z168:=Tryz.sizeOf122,
 v168:=Tryz.zeroValue122,
 t171:=Tryz.underlying141,
 a171:=Tryz.isAgg141,
 z171:=Tryz.sizeOf141,
 v171:=Tryz.zeroValue141,
 t173:=Tryz.underlying144,
 a173:=Tryz.isAgg144,
 z173:=Tryz.sizeOf144,
 v173:=Tryz.zeroValue144,
 t175:=Tryz.underlying135,
 a175:=Tryz.isAgg135,
 z175:=Tryz.sizeOf135,
 v175:=Tryz.zeroValue135,
 t210:=Tryz.underlying139,
 a210:=Tryz.isAgg139,
 z210:=Tryz.sizeOf139,
 v210:=Tryz.zeroValue139,
 t212:=Tryz.underlying152,
 a212:=Tryz.isAgg152,
 z212:=Tryz.sizeOf152,
 v212:=Tryz.zeroValue152,
 t213:=Tryz.underlying153,
 a213:=Tryz.isAgg153,
 z213:=Tryz.sizeOf153,
 t232:=Tryz.underlying156,
 a232:=Tryz.isAgg156,
 z232:=Tryz.sizeOf156,
 v232:=Tryz.zeroValue156,
 t233:=Tryz.underlying157,
 a233:=Tryz.isAgg157,
 z233:=Tryz.sizeOf157,
 v233:=Tryz.zeroValue157,
 g15:=by kernel_rfl,
 g16:=by kernel_rfl,
 g17:=by kernel_rfl,
 g18:=by kernel_rfl,
 g19:=by kernel_rfl,
 t80:=Tryz.underlying158,
 a80:=Tryz.isAgg158,
 z80:=Tryz.sizeOf158,
 v80:=Tryz.zeroValue158,
 i0:=by kernel_rfl,
 i2:=by kernel_rfl,
 i3:=by kernel_rfl,
 i4:=by kernel_rfl,
 i5:=by kernel_rfl,
 i9:=by kernel_rfl,
 i20:=by kernel_rfl,
 i21:=by kernel_rfl,
 i37:=by kernel_rfl,
 i46:=by kernel_rfl,
 i51:=by kernel_rfl,
 i53:=by kernel_rfl,
 i75:=by kernel_rfl,
 i76:=by kernel_rfl,
 i80:=by kernel_rfl,
 i85:=by kernel_rfl,
 i127:=by kernel_rfl,
 i143:=by kernel_rfl,
 i145:=by kernel_rfl,
 i167:=by kernel_rfl,
 i168:=by kernel_rfl,
 i171:=by kernel_rfl,
 i173:=by kernel_rfl,
 i175:=by kernel_rfl,
 i210:=by kernel_rfl,
 i212:=by kernel_rfl,
 i232:=by kernel_rfl,
 i233:=by kernel_rfl,
 m15:=by kernel_rfl,
 m16:=by kernel_rfl,
 m17:=by kernel_rfl,
 m18:=by kernel_rfl,
 m19:=by kernel_rfl,
 c0:=by kernel_rfl,
 c2:=by kernel_rfl,
 c3:=by kernel_rfl,
 c4:=by kernel_rfl,
 c5:=by kernel_rfl,
 c9:=by kernel_rfl,
 c20:=by kernel_rfl,
 c21:=by kernel_rfl,
 c37:=by kernel_rfl,
 c46:=by kernel_rfl,
 c51:=by kernel_rfl,
 c53:=by kernel_rfl,
 c75:=by kernel_rfl,
 c76:=by kernel_rfl,
 c80:=by kernel_rfl,
 c85:=by kernel_rfl,
 c127:=by kernel_rfl,
 c143:=by kernel_rfl,
 c145:=by kernel_rfl,
 c167:=by kernel_rfl,
 c168:=by kernel_rfl,
 c171:=by kernel_rfl,
 c173:=by kernel_rfl,
 c175:=by kernel_rfl,
 c210:=by kernel_rfl,
 c212:=by kernel_rfl,
 c213:=by kernel_rfl,
 c232:=by kernel_rfl,
 c233:=by kernel_rfl }
def zj50:Go.Shelf.Ren:=⟨fun | 138=>61 | 143=>62 | 146=>25 | 195=>73 | 197=>65 | 217=>72 | 218=>74 | 219=>63 | 221=>41 | 224=>76 | 225=>75 | 260=>78 | 266=>87 | 267=>77 | 268=>60 | 314=>88 | n=>n,fun | 31=>48 | 46=>117 | 51=>125 | 105=>110 | 119=>128 | 138=>130 | 139=>131 | 146=>126 | n=>n,fun | 3=>2 | 4=>3 | n=>n⟩
theorem laySplit:Go.Proofs.Lays.n146 Tryz.prog zj50:={
 mixed:=by kernel_rfl,
 f138:=by first | exact Tryz.func61.trans (congrArg some (by kernel_rfl)) | exact⟨Tryz.f61.name,by kernel_rfl,Tryz.func61.trans (congrArg some (by kernel_rfl))⟩,
 f143:=by first | exact Tryz.func62.trans (congrArg some (by kernel_rfl)) | exact⟨Tryz.f62.name,by kernel_rfl,Tryz.func62.trans (congrArg some (by kernel_rfl))⟩,
 f146:=by first | exact Tryz.func25.trans (congrArg some (by kernel_rfl)) | exact⟨Tryz.f25.name,by kernel_rfl,Tryz.func25.trans (congrArg some (by kernel_rfl))⟩,
 f195:=by first | exact Tryz.func73.trans (congrArg some (by kernel_rfl)) | exact⟨Tryz.f73.name,by kernel_rfl,Tryz.func73.trans (congrArg some (by kernel_rfl))⟩,
 f197:=by first | exact Tryz.func65.trans (congrArg some (by kernel_rfl)) | exact⟨Tryz.f65.name,by kernel_rfl,Tryz.func65.trans (congrArg some (by kernel_rfl))⟩,
 f217:=by first | exact Tryz.func72.trans (congrArg some (by kernel_rfl)) | exact⟨Tryz.f72.name,by kernel_rfl,Tryz.func72.trans (congrArg some (by kernel_rfl))⟩,
 f218:=by first | exact Tryz.func74.trans (congrArg some (by kernel_rfl)) | exact⟨Tryz.f74.name,by kernel_rfl,Tryz.func74.trans (congrArg some (by kernel_rfl))⟩,
 f219:=by first | exact Tryz.func63.trans (congrArg some (by kernel_rfl)) | exact⟨Tryz.f63.name,by kernel_rfl,Tryz.func63.trans (congrArg some (by kernel_rfl))⟩,
 f221:=by first | exact Tryz.func41.trans (congrArg some (by kernel_rfl)) | exact⟨Tryz.f41.name,by kernel_rfl,Tryz.func41.trans (congrArg some (by kernel_rfl))⟩,
 f224:=by first | exact Tryz.func76.trans (congrArg some (by kernel_rfl)) | exact⟨Tryz.f76.name,by kernel_rfl,Tryz.func76.trans (congrArg some (by kernel_rfl))⟩,
 f225:=by first | exact Tryz.func75.trans (congrArg some (by kernel_rfl)) | exact⟨Tryz.f75.name,by kernel_rfl,Tryz.func75.trans (congrArg some (by kernel_rfl))⟩,
 f260:=by first | exact Tryz.func78.trans (congrArg some (by kernel_rfl)) | exact⟨Tryz.f78.name,by kernel_rfl,Tryz.func78.trans (congrArg some (by kernel_rfl))⟩,
 f266:=by first | exact Tryz.func87.trans (congrArg some (by kernel_rfl)) | exact⟨Tryz.f87.name,by kernel_rfl,Tryz.func87.trans (congrArg some (by kernel_rfl))⟩,
 f267:=by first | exact Tryz.func77.trans (congrArg some (by kernel_rfl)) | exact⟨Tryz.f77.name,by kernel_rfl,Tryz.func77.trans (congrArg some (by kernel_rfl))⟩,
 f268:=by first | exact Tryz.func60.trans (congrArg some (by kernel_rfl)) | exact⟨Tryz.f60.name,by kernel_rfl,Tryz.func60.trans (congrArg some (by kernel_rfl))⟩,
 f314:=by first | exact Tryz.func88.trans (congrArg some (by kernel_rfl)) | exact⟨Tryz.f88.name,by kernel_rfl,Tryz.func88.trans (congrArg some (by kernel_rfl))⟩,
 t0:=Tryz.underlying0,
 a0:=Tryz.isAgg0,
 z0:=Tryz.sizeOf0,
 v0:=Tryz.zeroValue0,
 t3:=Tryz.underlying3,
 a3:=Tryz.isAgg3,
 z3:=Tryz.sizeOf3,
 v3:=Tryz.zeroValue3,
 t4:=Tryz.underlying4,
 a4:=Tryz.isAgg4,
 z4:=Tryz.sizeOf4,
 v4:=Tryz.zeroValue4,
 t5:=Tryz.underlying5,
 a5:=Tryz.isAgg5,
 z5:=Tryz.sizeOf5,
 v5:=Tryz.zeroValue5,
 t9:=Tryz.underlying9,
 a9:=Tryz.isAgg9,
 z9:=Tryz.sizeOf9,
 v9:=Tryz.zeroValue9,
 t21:=Tryz.underlying21,
 a21:=Tryz.isAgg21,
 z21:=Tryz.sizeOf21,
 v21:=Tryz.zeroValue21,
 t31:=Tryz.underlying48,
 a31:=Tryz.isAgg48,
 z31:=Tryz.sizeOf48,
 v31:=Tryz.zeroValue48,
 t46:=Tryz.underlying117,
 a46:=Tryz.isAgg117,
 z46:=Tryz.sizeOf117,
 v46:=Tryz.zeroValue117,
 t51:=Tryz.underlying125,
 a51:=Tryz.isAgg125,
 z51:=Tryz.sizeOf125,
 v51:=Tryz.zeroValue125,
 t105:=Tryz.underlying110,
 a105:=Tryz.isAgg110,
 z105:=Tryz.sizeOf110,
 v105:=Tryz.zeroValue110,
 t119:=Tryz.underlying128,
 a119:=Tryz.isAgg128,
 z119:=Tryz.sizeOf128,
 t138:=Tryz.underlying130,
 a138:=Tryz.isAgg130,
 z138:=Tryz.sizeOf130,
 v138:=Tryz.zeroValue130,
 t139:=Tryz.underlying131,
 a139:=Tryz.isAgg131,
 z139:=Tryz.sizeOf131,
 v139:=Tryz.zeroValue131,
 t146:=Tryz.underlying126,
 a146:=Tryz.isAgg126,
 z146:=Tryz.sizeOf126,
 v146:=Tryz.zeroValue126,
 g1:=by kernel_rfl,
 g3:=by kernel_rfl,
 g4:=by kernel_rfl }
def layCut_ren:Go.Shelf.Ren:=⟨fun | 145=>26 | 217=>72 | 219=>63 | 220=>42 | 224=>76 | 225=>75 | 266=>87 | 267=>77 | 314=>88 | n=>n,fun | 46=>117 | 51=>125 | 59=>69 | 146=>126 | n=>n,fun | n=>n⟩
theorem layCut:Go.Proofs.Lays.n145 Tryz.prog layCut_ren:={
 mixed:=by kernel_rfl,
 f145:=by first | exact Tryz.func26.trans (congrArg some (by kernel_rfl)) | exact⟨Tryz.f26.name,by kernel_rfl,Tryz.func26.trans (congrArg some (by kernel_rfl))⟩,
 f217:=by first | exact Tryz.func72.trans (congrArg some (by kernel_rfl)) | exact⟨Tryz.f72.name,by kernel_rfl,Tryz.func72.trans (congrArg some (by kernel_rfl))⟩,
 f219:=by first | exact Tryz.func63.trans (congrArg some (by kernel_rfl)) | exact⟨Tryz.f63.name,by kernel_rfl,Tryz.func63.trans (congrArg some (by kernel_rfl))⟩,
 f220:=by first | exact Tryz.func42.trans (congrArg some (by kernel_rfl)) | exact⟨Tryz.f42.name,by kernel_rfl,Tryz.func42.trans (congrArg some (by kernel_rfl))⟩,
 f224:=by first | exact Tryz.func76.trans (congrArg some (by kernel_rfl)) | exact⟨Tryz.f76.name,by kernel_rfl,Tryz.func76.trans (congrArg some (by kernel_rfl))⟩,
 f225:=by first | exact Tryz.func75.trans (congrArg some (by kernel_rfl)) | exact⟨Tryz.f75.name,by kernel_rfl,Tryz.func75.trans (congrArg some (by kernel_rfl))⟩,
 f266:=by first | exact Tryz.func87.trans (congrArg some (by kernel_rfl)) | exact⟨Tryz.f87.name,by kernel_rfl,Tryz.func87.trans (congrArg some (by kernel_rfl))⟩,
 f267:=by first | exact Tryz.func77.trans (congrArg some (by kernel_rfl)) | exact⟨Tryz.f77.name,by kernel_rfl,Tryz.func77.trans (congrArg some (by kernel_rfl))⟩,
 f314:=by first | exact Tryz.func88.trans (congrArg some (by kernel_rfl)) | exact⟨Tryz.f88.name,by kernel_rfl,Tryz.func88.trans (congrArg some (by kernel_rfl))⟩,
 t3:=Tryz.underlying3,
 a3:=Tryz.isAgg3,
 z3:=Tryz.sizeOf3,
 v3:=Tryz.zeroValue3,
 t4:=Tryz.underlying4,
 a4:=Tryz.isAgg4,
 z4:=Tryz.sizeOf4,
 v4:=Tryz.zeroValue4,
 t5:=Tryz.underlying5,
 a5:=Tryz.isAgg5,
 z5:=Tryz.sizeOf5,
 v5:=Tryz.zeroValue5,
 t9:=Tryz.underlying9,
 a9:=Tryz.isAgg9,
 z9:=Tryz.sizeOf9,
 v9:=Tryz.zeroValue9,
 t46:=Tryz.underlying117,
 a46:=Tryz.isAgg117,
 z46:=Tryz.sizeOf117,
 v46:=Tryz.zeroValue117,
 t51:=Tryz.underlying125,
 a51:=Tryz.isAgg125,
 z51:=Tryz.sizeOf125,
 v51:=Tryz.zeroValue125,
 t59:=Tryz.underlying69,
 a59:=Tryz.isAgg69,
 z59:=Tryz.sizeOf69,
 v59:=Tryz.zeroValue69,
 t146:=Tryz.underlying126,
 a146:=Tryz.isAgg126,
 z146:=Tryz.sizeOf126,
 v146:=Tryz.zeroValue126,
 g1:=by kernel_rfl }
def layTrim_ren:Go.Shelf.Ren:=⟨fun | 119=>89 | 120=>80 | 137=>57 | 151=>66 | 152=>79 | 160=>27 | 197=>65 | 217=>72 | 224=>76 | 225=>75 | 227=>45 | 228=>64 | 231=>43 | 232=>44 | 233=>46 | 234=>47 | 235=>48 | 236=>49 | 260=>78 | 266=>87 | 271=>67 | n=>n,fun | 46=>117 | 105=>110 | 116=>87 | 117=>88 | 119=>128 | 124=>91 | 138=>130 | 139=>131 | n=>n,fun | 3=>2 | 4=>3 | n=>n⟩
theorem layTrim:Go.Proofs.Lays.n160 Tryz.prog layTrim_ren:={
 mixed:=by kernel_rfl,
 f119:=by first | exact Tryz.func89.trans (congrArg some (by kernel_rfl)) | exact⟨Tryz.f89.name,by kernel_rfl,Tryz.func89.trans (congrArg some (by kernel_rfl))⟩,
 f120:=by first | exact Tryz.func80.trans (congrArg some (by kernel_rfl)) | exact⟨Tryz.f80.name,by kernel_rfl,Tryz.func80.trans (congrArg some (by kernel_rfl))⟩,
 f137:=by first | exact Tryz.func57.trans (congrArg some (by kernel_rfl)) | exact⟨Tryz.f57.name,by kernel_rfl,Tryz.func57.trans (congrArg some (by kernel_rfl))⟩,
 f151:=by first | exact Tryz.func66.trans (congrArg some (by kernel_rfl)) | exact⟨Tryz.f66.name,by kernel_rfl,Tryz.func66.trans (congrArg some (by kernel_rfl))⟩,
 f152:=by first | exact Tryz.func79.trans (congrArg some (by kernel_rfl)) | exact⟨Tryz.f79.name,by kernel_rfl,Tryz.func79.trans (congrArg some (by kernel_rfl))⟩,
 f160:=by first | exact Tryz.func27.trans (congrArg some (by kernel_rfl)) | exact⟨Tryz.f27.name,by kernel_rfl,Tryz.func27.trans (congrArg some (by kernel_rfl))⟩,
 f197:=by first | exact Tryz.func65.trans (congrArg some (by kernel_rfl)) | exact⟨Tryz.f65.name,by kernel_rfl,Tryz.func65.trans (congrArg some (by kernel_rfl))⟩,
 f217:=by first | exact Tryz.func72.trans (congrArg some (by kernel_rfl)) | exact⟨Tryz.f72.name,by kernel_rfl,Tryz.func72.trans (congrArg some (by kernel_rfl))⟩,
 f224:=by first | exact Tryz.func76.trans (congrArg some (by kernel_rfl)) | exact⟨Tryz.f76.name,by kernel_rfl,Tryz.func76.trans (congrArg some (by kernel_rfl))⟩,
 f225:=by first | exact Tryz.func75.trans (congrArg some (by kernel_rfl)) | exact⟨Tryz.f75.name,by kernel_rfl,Tryz.func75.trans (congrArg some (by kernel_rfl))⟩,
 f227:=by first | exact Tryz.func45.trans (congrArg some (by kernel_rfl)) | exact⟨Tryz.f45.name,by kernel_rfl,Tryz.func45.trans (congrArg some (by kernel_rfl))⟩,
 f228:=by first | exact Tryz.func64.trans (congrArg some (by kernel_rfl)) | exact⟨Tryz.f64.name,by kernel_rfl,Tryz.func64.trans (congrArg some (by kernel_rfl))⟩,
 f231:=by first | exact Tryz.func43.trans (congrArg some (by kernel_rfl)) | exact⟨Tryz.f43.name,by kernel_rfl,Tryz.func43.trans (congrArg some (by kernel_rfl))⟩,
 f232:=by first | exact Tryz.func44.trans (congrArg some (by kernel_rfl)) | exact⟨Tryz.f44.name,by kernel_rfl,Tryz.func44.trans (congrArg some (by kernel_rfl))⟩,
 f233:=by first | exact Tryz.func46.trans (congrArg some (by kernel_rfl)) | exact⟨Tryz.f46.name,by kernel_rfl,Tryz.func46.trans (congrArg some (by kernel_rfl))⟩,
 f234:=by first | exact Tryz.func47.trans (congrArg some (by kernel_rfl)) | exact⟨Tryz.f47.name,by kernel_rfl,Tryz.func47.trans (congrArg some (by kernel_rfl))⟩,
 f235:=by first | exact Tryz.func48.trans (congrArg some (by kernel_rfl)) | exact⟨Tryz.f48.name,by kernel_rfl,Tryz.func48.trans (congrArg some (by kernel_rfl))⟩,
 f236:=by first | exact Tryz.func49.trans (congrArg some (by kernel_rfl)) | exact⟨Tryz.f49.name,by kernel_rfl,Tryz.func49.trans (congrArg some (by kernel_rfl))⟩,
 f260:=by first | exact Tryz.func78.trans (congrArg some (by kernel_rfl)) | exact⟨Tryz.f78.name,by kernel_rfl,Tryz.func78.trans (congrArg some (by kernel_rfl))⟩,
 f266:=by first | exact Tryz.func87.trans (congrArg some (by kernel_rfl)) | exact⟨Tryz.f87.name,by kernel_rfl,Tryz.func87.trans (congrArg some (by kernel_rfl))⟩,
 f271:=by first | exact Tryz.func67.trans (congrArg some (by kernel_rfl)) | exact⟨Tryz.f67.name,by kernel_rfl,Tryz.func67.trans (congrArg some (by kernel_rfl))⟩,
 t0:=Tryz.underlying0,
 a0:=Tryz.isAgg0,
 z0:=Tryz.sizeOf0,
 v0:=Tryz.zeroValue0,
 t3:=Tryz.underlying3,
 a3:=Tryz.isAgg3,
 z3:=Tryz.sizeOf3,
 v3:=Tryz.zeroValue3,
 t4:=Tryz.underlying4,
 a4:=Tryz.isAgg4,
 z4:=Tryz.sizeOf4,
 v4:=Tryz.zeroValue4,
 t5:=Tryz.underlying5,
 a5:=Tryz.isAgg5,
 z5:=Tryz.sizeOf5,
 v5:=Tryz.zeroValue5,
 t9:=Tryz.underlying9,
 a9:=Tryz.isAgg9,
 z9:=Tryz.sizeOf9,
 v9:=Tryz.zeroValue9,
 t21:=Tryz.underlying21,
 a21:=Tryz.isAgg21,
 z21:=Tryz.sizeOf21,
 v21:=Tryz.zeroValue21,
 t46:=Tryz.underlying117,
 a46:=Tryz.isAgg117,
 z46:=Tryz.sizeOf117,
 v46:=Tryz.zeroValue117,
 t105:=Tryz.underlying110,
 a105:=Tryz.isAgg110,
 z105:=Tryz.sizeOf110,
 v105:=Tryz.zeroValue110,
 t116:=Tryz.underlying87,
 a116:=Tryz.isAgg87,
 z116:=Tryz.sizeOf87,
 t117:=Tryz.underlying88,
 a117:=Tryz.isAgg88,
 z117:=Tryz.sizeOf88,
 v117:=Tryz.zeroValue88,
 t119:=Tryz.underlying128,
 a119:=Tryz.isAgg128,
 z119:=Tryz.sizeOf128,
 t124:=Tryz.underlying91,
 a124:=Tryz.isAgg91,
 z124:=Tryz.sizeOf91,
 v124:=Tryz.zeroValue91,
 t138:=Tryz.underlying130,
 a138:=Tryz.isAgg130,
 z138:=Tryz.sizeOf130,
 v138:=Tryz.zeroValue130,
 t139:=Tryz.underlying131,
 a139:=Tryz.isAgg131,
 z139:=Tryz.sizeOf131,
 v139:=Tryz.zeroValue131,
 g3:=by kernel_rfl,
 g4:=by kernel_rfl }
def laySuf_ren:Go.Shelf.Ren:=⟨fun | 104=>16 | 207=>50 | 211=>28 | n=>n,fun | 24=>50 | n=>n,fun | n=>n⟩
theorem laySuf:Go.Proofs.Lays.n104 Tryz.prog laySuf_ren:={
 mixed:=by kernel_rfl,
 f104:=by first | exact Tryz.func16.trans (congrArg some (by kernel_rfl)) | exact⟨Tryz.f16.name,by kernel_rfl,Tryz.func16.trans (congrArg some (by kernel_rfl))⟩,
 f207:=by first | exact Tryz.func50.trans (congrArg some (by kernel_rfl)) | exact⟨Tryz.f50.name,by kernel_rfl,Tryz.func50.trans (congrArg some (by kernel_rfl))⟩,
 f211:=by first | exact Tryz.func28.trans (congrArg some (by kernel_rfl)) | exact⟨Tryz.f28.name,by kernel_rfl,Tryz.func28.trans (congrArg some (by kernel_rfl))⟩,
 t3:=Tryz.underlying3,
 a3:=Tryz.isAgg3,
 z3:=Tryz.sizeOf3,
 v3:=Tryz.zeroValue3,
 t4:=Tryz.underlying4,
 a4:=Tryz.isAgg4,
 z4:=Tryz.sizeOf4,
 v4:=Tryz.zeroValue4,
 t9:=Tryz.underlying9,
 a9:=Tryz.isAgg9,
 z9:=Tryz.sizeOf9,
 v9:=Tryz.zeroValue9,
 t24:=Tryz.underlying50,
 a24:=Tryz.isAgg50,
 z24:=Tryz.sizeOf50,
 v24:=Tryz.zeroValue50 }
def layPre_ren:Go.Shelf.Ren:=⟨fun | 99=>34 | 206=>58 | n=>n,fun | n=>n,fun | n=>n⟩
theorem layPre:Go.Proofs.Lays.n99 Tryz.prog layPre_ren:={
 mixed:=by kernel_rfl,
 f99:=by first | exact Tryz.func34.trans (congrArg some (by kernel_rfl)) | exact⟨Tryz.f34.name,by kernel_rfl,Tryz.func34.trans (congrArg some (by kernel_rfl))⟩,
 f206:=by first | exact Tryz.func58.trans (congrArg some (by kernel_rfl)) | exact⟨Tryz.f58.name,by kernel_rfl,Tryz.func58.trans (congrArg some (by kernel_rfl))⟩,
 t3:=Tryz.underlying3,
 a3:=Tryz.isAgg3,
 z3:=Tryz.sizeOf3,
 v3:=Tryz.zeroValue3,
 t4:=Tryz.underlying4,
 a4:=Tryz.isAgg4,
 z4:=Tryz.sizeOf4,
 v4:=Tryz.zeroValue4,
 t9:=Tryz.underlying9,
 a9:=Tryz.isAgg9,
 z9:=Tryz.sizeOf9,
 v9:=Tryz.zeroValue9 }
def layLast_ren:Go.Shelf.Ren:=⟨fun | 149=>31 | 222=>55 | n=>n,fun | n=>n,fun | n=>n⟩
theorem layLast:Go.Proofs.Lays.n149 Tryz.prog layLast_ren:={
 mixed:=by kernel_rfl,
 f149:=by first | exact Tryz.func31.trans (congrArg some (by kernel_rfl)) | exact⟨Tryz.f31.name,by kernel_rfl,Tryz.func31.trans (congrArg some (by kernel_rfl))⟩,
 f222:=by first | exact Tryz.func55.trans (congrArg some (by kernel_rfl)) | exact⟨Tryz.f55.name,by kernel_rfl,Tryz.func55.trans (congrArg some (by kernel_rfl))⟩,
 t3:=Tryz.underlying3,
 a3:=Tryz.isAgg3,
 z3:=Tryz.sizeOf3,
 v3:=Tryz.zeroValue3,
 t4:=Tryz.underlying4,
 a4:=Tryz.isAgg4,
 z4:=Tryz.sizeOf4,
 v4:=Tryz.zeroValue4,
 t5:=Tryz.underlying5,
 a5:=Tryz.isAgg5,
 z5:=Tryz.sizeOf5,
 v5:=Tryz.zeroValue5,
 t9:=Tryz.underlying9,
 a9:=Tryz.isAgg9,
 z9:=Tryz.sizeOf9,
 v9:=Tryz.zeroValue9 }
def TabAt (w : World) : Prop := Lib.TabIs Tryz.prog w "internal/strconv.uint64pow10" .u64 Lib.pow10Tab
theorem gTab : Tryz.prog.globalNamed "internal/strconv.uint64pow10" = some 6 := by kernel_rfl
theorem TabAt.keep {w w':World} (h:TabAt w) (k:Fresh w w'):TabAt w':=by
 unfold TabAt Lib.TabIs World.var? at *
 rw[gTab] at h ⊢
 simp only[Option.bind_some] at h ⊢
 have hlt:6 < w.heap.size:=by
  by_cases hl:6 < w.heap.size
  ·exact hl
  ·rw[Array.getElem?_eq_none (by omega)] at h; cases h
 rw[k.block 6 hlt]; exact h
theorem fresh_grow (w:World) (k:Nat) (os:Array Obj):Fresh w (Sort.grow (w.drewN k) os) :=
 ⟨rfl,rfl,rfl,by simp[Sort.grow,World.drewN],fun j hj=>by
  show (w.heap++os)[j]? = w.heap[j]?
  rw[Array.getElem?_append_left hj]⟩
theorem itoa41 (n:Int) (w:World) (h0 : -9223372036854775808≤n) (h1:n≤9223372036854775807) (hT:TabAt w):CallsV Tryz.prog 69 [.int .i64 n] w fun v w'=>v=.string ⟨⟨Lib.itoa n⟩⟩∧Fresh w w':=by
 refine Calls.mono (Any.strconv_Itoa layItoa n h0 h1 w hT) fun e w' he=>?_
 obtain⟨rfl,k,os,rfl⟩:=he
 exact⟨rfl,fresh_grow w k os⟩
theorem zj2t {w w':World} {g:Nat} {v:Value} (h:w.cell? ⟨g,0,none⟩=some v) (k:Fresh w w'):w'.cell? ⟨g,0,none⟩=some v:=by
 refine (cell_keep k ?_).trans h
 unfold World.cell? at h
 split at h
 ·rename_i e; exact (Array.getElem?_eq_some_iff.1 e).1
 ·cases h
structure LibAt (w:World):Prop where
 max:∃ m,w.cell? ⟨1,0,none⟩=some (.int .i64 m)
 syn:∃ t p,w.cell? ⟨4,0,none⟩=some (.iface t p)
 rng:∃ t p,w.cell? ⟨5,0,none⟩=some (.iface t p)
theorem LibAt.keep {w w':World} (h:LibAt w) (k:Fresh w w'):LibAt w':=by
 obtain⟨⟨m,h1⟩,⟨t,p,h2⟩,⟨t',p',h3⟩⟩:=h
 exact⟨⟨m,zj2t h1 k⟩,⟨t,p,zj2t h2 k⟩,⟨t',p',zj2t h3 k⟩⟩
theorem zj1x {w w':World} (h:RowKit.Below w.heap.size w w'):Fresh w w':=⟨h.1,h.2,h.3,h.4,h.5⟩
theorem atoi36 (s:ByteArray) (w:World) (hs:s.size≤1000000) (hL:LibAt w):CallsV Tryz.prog 53 [.string s] w fun v w' =>
  (∃ n t p,v=.tuple #[.int .i64 n,.iface t p]∧(∀ z,Lib.atoiAll s.data.toList ≠ .ok z))∧Fresh w w'∨(∃ n,v=.tuple #[.int .i64 n,.nilIface]∧Lib.atoiAll s.data.toList=.ok n)∧Fresh w w':=by
 obtain⟨_,⟨t,p,h2⟩,⟨t',p',h3⟩⟩:=hL
 cases h:Lib.atoiAll s.data.toList
 ·rename_i n
  refine Calls.mono (Any.strconv_Atoi_ok layAtoi s (by omega) n h w) fun e w' he=>?_
  obtain⟨rfl,he⟩:=he
  refine .inr ⟨⟨n,rfl,rfl⟩,?_⟩
  rcases he with rfl | ⟨x,rfl⟩
  ·exact Fresh.refl _
  ·refine⟨rfl,rfl,rfl,?_,fun j hj=>?_⟩
   ·unfold Lib.bytesWorld World.freeze
    rw[if_neg (by decide)]; simp
   ·unfold Lib.bytesWorld World.freeze
    rw[if_neg (by decide)]
    simp only[Array.getElem?_modify]
    rw[if_neg (by show ¬ w.heap.size=j; omega)]
    exact Go.RowKit.Below.heap_alloc w.drew _ j hj
 ·refine Calls.mono (Any.strconv_Atoi_syntax layAtoi s (by omega) h _ w h2 (.inr ⟨t,p,rfl⟩)) fun e w' he=>?_
  obtain⟨N,rfl,_,_,hb⟩:=he
  exact .inl ⟨⟨_,_,_,rfl,by simp⟩,zj1x hb⟩
 ·refine Calls.mono (Any.strconv_Atoi_range layAtoi s (by omega) h _ w h3 (.inr ⟨t',p',rfl⟩)) fun e w' he=>?_
  obtain⟨N,rfl,_,_,hb⟩:=he
  exact .inl ⟨⟨_,_,_,rfl,by simp⟩,zj1x hb⟩
theorem split34 (s:ByteArray) (w:World) (hs:s.size≤1000000) (hL:LibAt w):CallsV Tryz.prog 25 [.string s,.string ⟨⟨[32]⟩⟩] w fun v w' =>
  World.ownsB w' w.heap.size 9 1 v (Lib.countB s ⟨⟨[32]⟩⟩+1) ((Lib.splitB ⟨⟨[32]⟩⟩ 0 (Lib.countB s ⟨⟨[32]⟩⟩) s).map Value.string)∧Fresh w w':=by
 obtain⟨⟨m,h1⟩,_,_⟩:=hL
 refine Calls.mono (Any.strings_Split laySplit (by kernel_rfl) s ⟨⟨[32]⟩⟩ m w (by omega) h1 (by decide)) fun e w' he=>?_
 obtain⟨rfl,rfl⟩:=he
 have hlen:=Lib.splitB_all ⟨⟨[32]⟩⟩ (by decide) 0 _ s rfl
 refine⟨ownsB_row ⟨by rw[List.length_map,hlen]; omega,.inr ⟨w.heap.size,Lib.countB s ⟨⟨[32]⟩⟩+1,((Lib.splitB ⟨⟨[32]⟩⟩ 0 (Lib.countB s ⟨⟨[32]⟩⟩) s).map Value.string).toArray,rfl,Nat.le_refl _,heap_alloc_new w _,Nat.le_refl _,?_,?_,?_⟩⟩,⟨rfl,rfl,rfl,by simp,fun j hj=>Go.RowKit.Below.heap_alloc w _ j hj⟩⟩
 ·have:=Lib.countB_le ⟨⟨[32]⟩⟩ (by decide) s.size s (Nat.le_refl _)
  simp[maxLen]; omega
 ·simp[hlen]
 ·rw[List.take_of_length_le (by simp[hlen])]
theorem splitN (s:ByteArray) (w:World) (hs:s.size≤1000000) (hL:LibAt w):CallsV Tryz.prog 25 [.string s,.string ⟨⟨[10]⟩⟩] w fun v w' =>
  World.ownsB w' w.heap.size 9 1 v (Lib.countB s ⟨⟨[10]⟩⟩+1) ((Lib.splitB ⟨⟨[10]⟩⟩ 0 (Lib.countB s ⟨⟨[10]⟩⟩) s).map Value.string)∧Fresh w w':=by
 obtain⟨⟨m,h1⟩,_,_⟩:=hL
 refine Calls.mono (Any.strings_Split laySplit (by kernel_rfl) s ⟨⟨[10]⟩⟩ m w (by omega) h1 (by decide)) fun e w' he=>?_
 obtain⟨rfl,rfl⟩:=he
 have hlen:=Lib.splitB_all ⟨⟨[10]⟩⟩ (by decide) 0 _ s rfl
 refine⟨ownsB_row ⟨by rw[List.length_map,hlen]; omega,.inr ⟨w.heap.size,Lib.countB s ⟨⟨[10]⟩⟩+1,((Lib.splitB ⟨⟨[10]⟩⟩ 0 (Lib.countB s ⟨⟨[10]⟩⟩) s).map Value.string).toArray,rfl,Nat.le_refl _,heap_alloc_new w _,Nat.le_refl _,?_,?_,?_⟩⟩,⟨rfl,rfl,rfl,by simp,fun j hj=>Go.RowKit.Below.heap_alloc w _ j hj⟩⟩
 ·have:=Lib.countB_le ⟨⟨[10]⟩⟩ (by decide) s.size s (Nat.le_refl _)
  simp[maxLen]; omega
 ·simp[hlen]
 ·rw[List.take_of_length_le (by simp[hlen])]
theorem fresh_drew (w:World) (k:Nat):Fresh w (w.drewN k):=⟨rfl,rfl,rfl,by simp[World.drewN],fun j hj=>rfl⟩
theorem cutC (s p:B) (w:World) (hs:s.length≤1000000) (hL:LibAt w):CallsV Tryz.prog 26 [.string ⟨⟨s⟩⟩,.string ⟨⟨p⟩⟩] w fun v w'=>v=.tuple #[.string ⟨⟨(Lib.cut s p).1⟩⟩,.string ⟨⟨(Lib.cut s p).2.1⟩⟩,.bool (Lib.cut s p).2.2]∧Fresh w w':=by
 obtain⟨⟨m,h1⟩,_,_⟩:=hL
 refine Calls.mono (Any.strings_Cut layCut ⟨⟨s⟩⟩ ⟨⟨p⟩⟩ m w (by show s.length < _; omega) h1) fun e w' he=>?_
 obtain⟨rfl,n,rfl⟩:=he
 exact⟨rfl,fresh_drew w n⟩
theorem trimC (s:B) (w:World) (hs:s.length≤1000000):CallsV Tryz.prog 27 [.string ⟨⟨s⟩⟩,.string ⟨⟨[32,9]⟩⟩] w fun v w'=>v=.string ⟨⟨trimBl s⟩⟩∧Fresh w w':=by
 refine Calls.mono (Any.strings_Trim_laid layTrim (by kernel_rfl) ⟨⟨s⟩⟩ ⟨⟨[32,9]⟩⟩ w (by show s.length≤_; omega) (by decide) (ascii_of_all (by decide))) fun e w' he=>?_
 obtain⟨rfl,hb⟩:=he
 refine⟨?_,zj1x hb⟩
 show Value.string ⟨(Lib.trimS s [32,9]).toArray⟩=_
 rw[trim_bl]
theorem sufC (s p:B) (w:World) (hs:s.length≤1000000):CallsV Tryz.prog 16 [.string ⟨⟨s⟩⟩,.string ⟨⟨p⟩⟩] w fun v w'=>v=.tuple #[.string ⟨⟨Lib.trimSuffix s p⟩⟩,.bool (Lib.hasSuffix s p)]∧Fresh w w':=by
 refine Calls.mono (Any.strings_CutSuffix laySuf ⟨⟨s⟩⟩ ⟨⟨p⟩⟩ w (by show s.length≤_; omega)) fun e w' he=>?_
 obtain⟨rfl,rfl⟩:=he
 exact⟨rfl,Fresh.refl _⟩
theorem preC (s p:B) (w:World):CallsV Tryz.prog 34 [.string ⟨⟨s⟩⟩,.string ⟨⟨p⟩⟩] w fun v w'=>v=.bool (Lib.hasPrefix s p)∧Fresh w w':=by
 refine Calls.mono (Any.strings_HasPrefix layPre ⟨⟨s⟩⟩ ⟨⟨p⟩⟩ w) fun e w' he=>?_
 obtain⟨rfl,rfl⟩:=he
 exact⟨rfl,Fresh.refl _⟩
theorem lastC (s:B) (c:Int) (w:World) (hs:s.length≤1000000):CallsV Tryz.prog 31 [.string ⟨⟨s⟩⟩,.int .u8 c] w fun v w'=>v=.int .i64 (Lib.lastIndexByte ⟨⟨s⟩⟩ c)∧Fresh w w':=by
 refine Calls.mono (Any.strings_LastIndexByte layLast ⟨⟨s⟩⟩ c (by show s.length < _; omega) w) fun e w' he=>?_
 obtain⟨rfl,rfl⟩:=he
 exact⟨rfl,Fresh.refl _⟩
end Go.Proofs.YtaiajnehnjnadaaGreatDoor
