/- The kit's shelf contracts of strconv.Itoa, Atoi, strings.Split, Cut, Trim, CutSuffix, HasPrefix, LastIndexByte, laid at this program (the texts printed by tools/ShText). -/
import Derived.Shelf.Strconv.Itoa3
import Derived.Shelf.Strconv.AtoiAll
import Derived.Shelf.Strings.Split
import Derived.Shelf.Strings.Cut
import Derived.Shelf.Strings.SlTrimAscii
import Derived.Shelf.Small.Wraps
import Derived.Shelf.Strings.Prefix
import Derived.Shelf.Strings.LastIndex
import Derived.Shelf.Strconv.ErrVarAll
import Derived.Test.YtaiajnehnjnadaaDoorProg
import Derived.Test.YtaiajnehnjnadaaDoorSxStill
import Derived.Test.YtaiajnehnjnadaaDoorIsaSpec
import Derived.KernelRfl
set_option linter.unusedSimpArgs false
set_option linter.unusedVariables false
set_option linter.unnecessarySimpa false
namespace Go.Proofs.YtaiajnehnjnadaaDoor
open Go Go.Sx Go.Shelf Go.Isa Go.Asm
set_option maxRecDepth 100000
def layItoa_ren:Go.Shelf.Ren:=⟨fun | 129=>73 | 171=>16 | 243=>29 | 246=>45 | 283=>55 | 284=>56 | 285=>57 | 286=>58 | 317=>72 | 318=>74 | 319=>75 | 320=>76 | 337=>87 | 338=>88 | n=>n,fun | 37=>31 | 46=>121 | 51=>119 | 53=>101 | 171=>100 | 173=>104 | 212=>118 | 213=>120 | 232=>139 | 233=>140 | n=>n,fun | 17=>2 | 18=>3 | 19=>4 | n=>n⟩
theorem layItoa:Go.Proofs.LaysM.n171 Tryd.prog layItoa_ren:={
 mixed:=by kernel_rfl,
 f129:=by first | exact Tryd.func73.trans (congrArg some (by kernel_rfl)) | exact⟨Tryd.f73.name,by kernel_rfl,Tryd.func73.trans (congrArg some (by kernel_rfl))⟩,
 f171:=by first | exact Tryd.func16.trans (congrArg some (by kernel_rfl)) | exact⟨Tryd.f16.name,by kernel_rfl,Tryd.func16.trans (congrArg some (by kernel_rfl))⟩,
 f243:=by first | exact Tryd.func29.trans (congrArg some (by kernel_rfl)) | exact⟨Tryd.f29.name,by kernel_rfl,Tryd.func29.trans (congrArg some (by kernel_rfl))⟩,
 f246:=by first | exact Tryd.func45.trans (congrArg some (by kernel_rfl)) | exact⟨Tryd.f45.name,by kernel_rfl,Tryd.func45.trans (congrArg some (by kernel_rfl))⟩,
 f283:=by first | exact Tryd.func55.trans (congrArg some (by kernel_rfl)) | exact⟨Tryd.f55.name,by kernel_rfl,Tryd.func55.trans (congrArg some (by kernel_rfl))⟩,
 f284:=by first | exact Tryd.func56.trans (congrArg some (by kernel_rfl)) | exact⟨Tryd.f56.name,by kernel_rfl,Tryd.func56.trans (congrArg some (by kernel_rfl))⟩,
 f285:=by first | exact Tryd.func57.trans (congrArg some (by kernel_rfl)) | exact⟨Tryd.f57.name,by kernel_rfl,Tryd.func57.trans (congrArg some (by kernel_rfl))⟩,
 f286:=by first | exact Tryd.func58.trans (congrArg some (by kernel_rfl)) | exact⟨Tryd.f58.name,by kernel_rfl,Tryd.func58.trans (congrArg some (by kernel_rfl))⟩,
 f317:=by first | exact Tryd.func72.trans (congrArg some (by kernel_rfl)) | exact⟨Tryd.f72.name,by kernel_rfl,Tryd.func72.trans (congrArg some (by kernel_rfl))⟩,
 f318:=by first | exact Tryd.func74.trans (congrArg some (by kernel_rfl)) | exact⟨Tryd.f74.name,by kernel_rfl,Tryd.func74.trans (congrArg some (by kernel_rfl))⟩,
 f319:=by first | exact Tryd.func75.trans (congrArg some (by kernel_rfl)) | exact⟨Tryd.f75.name,by kernel_rfl,Tryd.func75.trans (congrArg some (by kernel_rfl))⟩,
 f320:=by first | exact Tryd.func76.trans (congrArg some (by kernel_rfl)) | exact⟨Tryd.f76.name,by kernel_rfl,Tryd.func76.trans (congrArg some (by kernel_rfl))⟩,
 f337:=by first | exact Tryd.func87.trans (congrArg some (by kernel_rfl)) | exact⟨Tryd.f87.name,by kernel_rfl,Tryd.func87.trans (congrArg some (by kernel_rfl))⟩,
 f338:=by first | exact Tryd.func88.trans (congrArg some (by kernel_rfl)) | exact⟨Tryd.f88.name,by kernel_rfl,Tryd.func88.trans (congrArg some (by kernel_rfl))⟩,
 t0:=Tryd.underlying0,
 a0:=Tryd.isAgg0,
 z0:=Tryd.sizeOf0,
 v0:=Tryd.zeroValue0,
 t2:=Tryd.underlying2,
 a2:=Tryd.isAgg2,
 z2:=Tryd.sizeOf2,
 v2:=Tryd.zeroValue2,
 t3:=Tryd.underlying3,
 a3:=Tryd.isAgg3,
 z3:=Tryd.sizeOf3,
 v3:=Tryd.zeroValue3,
 t4:=Tryd.underlying4,
 a4:=Tryd.isAgg4,
 z4:=Tryd.sizeOf4,
 v4:=Tryd.zeroValue4,
 t5:=Tryd.underlying5,
 a5:=Tryd.isAgg5,
 z5:=Tryd.sizeOf5,
 v5:=Tryd.zeroValue5,
 t9:=Tryd.underlying9,
 a9:=Tryd.isAgg9,
 z9:=Tryd.sizeOf9,
 v9:=Tryd.zeroValue9,
 t20:=Tryd.underlying20,
 a20:=Tryd.isAgg20,
 z20:=Tryd.sizeOf20,
 v20:=Tryd.zeroValue20,
 t37:=Tryd.underlying31,
 a37:=Tryd.isAgg31,
 z37:=Tryd.sizeOf31,
 v37:=Tryd.zeroValue31,
 t46:=Tryd.underlying121,
 a46:=Tryd.isAgg121,
 z46:=Tryd.sizeOf121,
 v46:=Tryd.zeroValue121,
 t51:=Tryd.underlying119,
 a51:=Tryd.isAgg119,
 z51:=Tryd.sizeOf119,
 v51:=Tryd.zeroValue119,
 t53:=Tryd.underlying101,
 a53:=Tryd.isAgg101,
 z53:=Tryd.sizeOf101,
 v53:=Tryd.zeroValue101,
 t171:=Tryd.underlying100,
 a171:=Tryd.isAgg100,
 z171:=Tryd.sizeOf100,
 v171:=Tryd.zeroValue100,
 t173:=Tryd.underlying104,
 a173:=Tryd.isAgg104,
 z173:=Tryd.sizeOf104,
 v173:=Tryd.zeroValue104,
 t212:=Tryd.underlying118,
 a212:=Tryd.isAgg118,
 z212:=Tryd.sizeOf118,
 v212:=Tryd.zeroValue118,
 t213:=Tryd.underlying120,
 a213:=Tryd.isAgg120,
 z213:=Tryd.sizeOf120,
 t232:=Tryd.underlying139,
 a232:=Tryd.isAgg139,
 z232:=Tryd.sizeOf139,
 v232:=Tryd.zeroValue139,
 t233:=Tryd.underlying140,
 a233:=Tryd.isAgg140,
 z233:=Tryd.sizeOf140,
 v233:=Tryd.zeroValue140,
 g17:=by kernel_rfl,
 g18:=by kernel_rfl,
 g19:=by kernel_rfl,
 i0:=by kernel_rfl,
 i2:=by kernel_rfl,
 i3:=by kernel_rfl,
 i4:=by kernel_rfl,
 i5:=by kernel_rfl,
 i9:=by kernel_rfl,
 i20:=by kernel_rfl,
 i37:=by kernel_rfl,
 i46:=by kernel_rfl,
 i51:=by kernel_rfl,
 i53:=by kernel_rfl,
 i171:=by kernel_rfl,
 i173:=by kernel_rfl,
 i212:=by kernel_rfl,
 i232:=by kernel_rfl,
 i233:=by kernel_rfl,
 m17:=by kernel_rfl,
 m18:=by kernel_rfl,
 m19:=by kernel_rfl }
def layAtoi_ren:Go.Shelf.Ren:=⟨fun | 129=>73 | 171=>16 | 172=>70 | 205=>106 | 243=>29 | 244=>85 | 245=>86 | 246=>45 | 247=>97 | 279=>98 | 280=>99 | 281=>100 | 282=>101 | 283=>55 | 284=>56 | 285=>57 | 286=>58 | 287=>104 | 316=>105 | 317=>72 | 318=>74 | 319=>75 | 320=>76 | 321=>107 | 322=>108 | 337=>87 | 338=>88 | n=>n,fun | 37=>31 | 46=>121 | 51=>119 | 53=>101 | 75=>50 | 76=>51 | 80=>57 | 85=>134 | 127=>74 | 143=>155 | 145=>157 | 167=>133 | 168=>136 | 171=>100 | 173=>104 | 175=>148 | 210=>152 | 212=>118 | 213=>120 | 232=>139 | 233=>140 | n=>n,fun | 15=>7 | 16=>8 | 17=>2 | 18=>3 | 19=>4 | n=>n⟩
theorem layAtoi:Go.Proofs.LaysC.n172 Tryd.prog layAtoi_ren:={
 mixed:=by kernel_rfl,
 f129:=by first | exact Tryd.func73.trans (congrArg some (by kernel_rfl)) | exact⟨Tryd.f73.name,by kernel_rfl,Tryd.func73.trans (congrArg some (by kernel_rfl))⟩,
 f171:=by first | exact Tryd.func16.trans (congrArg some (by kernel_rfl)) | exact⟨Tryd.f16.name,by kernel_rfl,Tryd.func16.trans (congrArg some (by kernel_rfl))⟩,
 f172:=by first | exact Tryd.func70.trans (congrArg some (by kernel_rfl)) | exact⟨Tryd.f70.name,by kernel_rfl,Tryd.func70.trans (congrArg some (by kernel_rfl))⟩,
 f205:=by first | exact Tryd.func106.trans (congrArg some (by kernel_rfl)) | exact⟨Tryd.f106.name,by kernel_rfl,Tryd.func106.trans (congrArg some (by kernel_rfl))⟩,
 f243:=by first | exact Tryd.func29.trans (congrArg some (by kernel_rfl)) | exact⟨Tryd.f29.name,by kernel_rfl,Tryd.func29.trans (congrArg some (by kernel_rfl))⟩,
 f244:=by first | exact Tryd.func85.trans (congrArg some (by kernel_rfl)) | exact⟨Tryd.f85.name,by kernel_rfl,Tryd.func85.trans (congrArg some (by kernel_rfl))⟩,
 f245:=by first | exact Tryd.func86.trans (congrArg some (by kernel_rfl)) | exact⟨Tryd.f86.name,by kernel_rfl,Tryd.func86.trans (congrArg some (by kernel_rfl))⟩,
 f246:=by first | exact Tryd.func45.trans (congrArg some (by kernel_rfl)) | exact⟨Tryd.f45.name,by kernel_rfl,Tryd.func45.trans (congrArg some (by kernel_rfl))⟩,
 f247:=by first | exact Tryd.func97.trans (congrArg some (by kernel_rfl)) | exact⟨Tryd.f97.name,by kernel_rfl,Tryd.func97.trans (congrArg some (by kernel_rfl))⟩,
 f279:=by first | exact Tryd.func98.trans (congrArg some (by kernel_rfl)) | exact⟨Tryd.f98.name,by kernel_rfl,Tryd.func98.trans (congrArg some (by kernel_rfl))⟩,
 f280:=by first | exact Tryd.func99.trans (congrArg some (by kernel_rfl)) | exact⟨Tryd.f99.name,by kernel_rfl,Tryd.func99.trans (congrArg some (by kernel_rfl))⟩,
 f281:=by first | exact Tryd.func100.trans (congrArg some (by kernel_rfl)) | exact⟨Tryd.f100.name,by kernel_rfl,Tryd.func100.trans (congrArg some (by kernel_rfl))⟩,
 f282:=by first | exact Tryd.func101.trans (congrArg some (by kernel_rfl)) | exact⟨Tryd.f101.name,by kernel_rfl,Tryd.func101.trans (congrArg some (by kernel_rfl))⟩,
 f283:=by first | exact Tryd.func55.trans (congrArg some (by kernel_rfl)) | exact⟨Tryd.f55.name,by kernel_rfl,Tryd.func55.trans (congrArg some (by kernel_rfl))⟩,
 f284:=by first | exact Tryd.func56.trans (congrArg some (by kernel_rfl)) | exact⟨Tryd.f56.name,by kernel_rfl,Tryd.func56.trans (congrArg some (by kernel_rfl))⟩,
 f285:=by first | exact Tryd.func57.trans (congrArg some (by kernel_rfl)) | exact⟨Tryd.f57.name,by kernel_rfl,Tryd.func57.trans (congrArg some (by kernel_rfl))⟩,
 f286:=by first | exact Tryd.func58.trans (congrArg some (by kernel_rfl)) | exact⟨Tryd.f58.name,by kernel_rfl,Tryd.func58.trans (congrArg some (by kernel_rfl))⟩,
 f287:=by first | exact Tryd.func104.trans (congrArg some (by kernel_rfl)) | exact⟨Tryd.f104.name,by kernel_rfl,Tryd.func104.trans (congrArg some (by kernel_rfl))⟩,
 f316:=by first | exact Tryd.func105.trans (congrArg some (by kernel_rfl)) | exact⟨Tryd.f105.name,by kernel_rfl,Tryd.func105.trans (congrArg some (by kernel_rfl))⟩,
 f317:=by first | exact Tryd.func72.trans (congrArg some (by kernel_rfl)) | exact⟨Tryd.f72.name,by kernel_rfl,Tryd.func72.trans (congrArg some (by kernel_rfl))⟩,
 f318:=by first | exact Tryd.func74.trans (congrArg some (by kernel_rfl)) | exact⟨Tryd.f74.name,by kernel_rfl,Tryd.func74.trans (congrArg some (by kernel_rfl))⟩,
 f319:=by first | exact Tryd.func75.trans (congrArg some (by kernel_rfl)) | exact⟨Tryd.f75.name,by kernel_rfl,Tryd.func75.trans (congrArg some (by kernel_rfl))⟩,
 f320:=by first | exact Tryd.func76.trans (congrArg some (by kernel_rfl)) | exact⟨Tryd.f76.name,by kernel_rfl,Tryd.func76.trans (congrArg some (by kernel_rfl))⟩,
 f321:=by first | exact Tryd.func107.trans (congrArg some (by kernel_rfl)) | exact⟨Tryd.f107.name,by kernel_rfl,Tryd.func107.trans (congrArg some (by kernel_rfl))⟩,
 f322:=by first | exact Tryd.func108.trans (congrArg some (by kernel_rfl)) | exact⟨Tryd.f108.name,by kernel_rfl,Tryd.func108.trans (congrArg some (by kernel_rfl))⟩,
 f337:=by first | exact Tryd.func87.trans (congrArg some (by kernel_rfl)) | exact⟨Tryd.f87.name,by kernel_rfl,Tryd.func87.trans (congrArg some (by kernel_rfl))⟩,
 f338:=by first | exact Tryd.func88.trans (congrArg some (by kernel_rfl)) | exact⟨Tryd.f88.name,by kernel_rfl,Tryd.func88.trans (congrArg some (by kernel_rfl))⟩,
 t0:=Tryd.underlying0,
 a0:=Tryd.isAgg0,
 z0:=Tryd.sizeOf0,
 v0:=Tryd.zeroValue0,
 t2:=Tryd.underlying2,
 a2:=Tryd.isAgg2,
 z2:=Tryd.sizeOf2,
 v2:=Tryd.zeroValue2,
 t3:=Tryd.underlying3,
 a3:=Tryd.isAgg3,
 z3:=Tryd.sizeOf3,
 v3:=Tryd.zeroValue3,
 t4:=Tryd.underlying4,
 a4:=Tryd.isAgg4,
 z4:=Tryd.sizeOf4,
 v4:=Tryd.zeroValue4,
 t5:=Tryd.underlying5,
 a5:=Tryd.isAgg5,
 z5:=Tryd.sizeOf5,
 v5:=Tryd.zeroValue5,
 t9:=Tryd.underlying9,
 a9:=Tryd.isAgg9,
 z9:=Tryd.sizeOf9,
 v9:=Tryd.zeroValue9,
 t20:=Tryd.underlying20,
 a20:=Tryd.isAgg20,
 z20:=Tryd.sizeOf20,
 v20:=Tryd.zeroValue20,
 t21:=Tryd.underlying21,
 a21:=Tryd.isAgg21,
 z21:=Tryd.sizeOf21,
 v21:=Tryd.zeroValue21,
 t37:=Tryd.underlying31,
 a37:=Tryd.isAgg31,
 z37:=Tryd.sizeOf31,
 v37:=Tryd.zeroValue31,
 t46:=Tryd.underlying121,
 a46:=Tryd.isAgg121,
 z46:=Tryd.sizeOf121,
 v46:=Tryd.zeroValue121,
 t51:=Tryd.underlying119,
 a51:=Tryd.isAgg119,
 z51:=Tryd.sizeOf119,
 v51:=Tryd.zeroValue119,
 t53:=Tryd.underlying101,
 a53:=Tryd.isAgg101,
 z53:=Tryd.sizeOf101,
 v53:=Tryd.zeroValue101,
 t75:=Tryd.underlying50,
 a75:=Tryd.isAgg50,
 z75:=Tryd.sizeOf50,
 v75:=Tryd.zeroValue50,
 t76:=Tryd.underlying51,
 a76:=Tryd.isAgg51,
 z76:=Tryd.sizeOf51,
 v76:=Tryd.zeroValue51,
 t85:=Tryd.underlying134,
 a85:=Tryd.isAgg134,
 z85:=Tryd.sizeOf134,
 v85:=Tryd.zeroValue134,
 t127:=Tryd.underlying74,
 a127:=Tryd.isAgg74,
 z127:=Tryd.sizeOf74,
 v127:=Tryd.zeroValue74,
 t143:=Tryd.underlying155,
 a143:=Tryd.isAgg155,
 z143:=Tryd.sizeOf155,
 v143:=Tryd.zeroValue155,
 t145:=Tryd.underlying157,
 a145:=Tryd.isAgg157,
 z145:=Tryd.sizeOf157,
 v145:=Tryd.zeroValue157,
 t167:=Tryd.underlying133,
 a167:=Tryd.isAgg133,
 z167:=Tryd.sizeOf133,
 v167:=Tryd.zeroValue133,
 t168:=Tryd.underlying136,
 a168:=Tryd.isAgg136,
 z168:=Tryd.sizeOf136,
 v168:=Tryd.zeroValue136,
 t171:=Tryd.underlying100,
 a171:=Tryd.isAgg100,
 z171:=Tryd.sizeOf100,
 v171:=Tryd.zeroValue100,
 t173:=Tryd.underlying104,
 a173:=Tryd.isAgg104,
 z173:=Tryd.sizeOf104,
 v173:=Tryd.zeroValue104,
 t175:=Tryd.underlying148,
 a175:=Tryd.isAgg148,
 z175:=Tryd.sizeOf148,
 v175:=Tryd.zeroValue148,
 t210:=Tryd.underlying152,
 a210:=Tryd.isAgg152,
 z210:=Tryd.sizeOf152,
 v210:=Tryd.zeroValue152,
 t212:=Tryd.underlying118,
 a212:=Tryd.isAgg118,
 z212:=Tryd.sizeOf118,
 v212:=Tryd.zeroValue118,
 t213:=Tryd.underlying120,
 a213:=Tryd.isAgg120,
 z213:=Tryd.sizeOf120,
 t232:=Tryd.underlying139,
 a232:=Tryd.isAgg139,
 z232:=Tryd.sizeOf139,
 v232:=Tryd.zeroValue139,
 t233:=Tryd.underlying140,
 a233:=Tryd.isAgg140,
 z233:=Tryd.sizeOf140,
 v233:=Tryd.zeroValue140,
 g15:=by kernel_rfl,
 g16:=by kernel_rfl,
 g17:=by kernel_rfl,
 g18:=by kernel_rfl,
 g19:=by kernel_rfl,
 t80:=Tryd.underlying57,
 a80:=Tryd.isAgg57,
 z80:=Tryd.sizeOf57,
 v80:=Tryd.zeroValue57,
 i0:=by kernel_rfl,
 i2:=by kernel_rfl,
 i3:=by kernel_rfl,
 i4:=by kernel_rfl,
 i5:=by kernel_rfl,
 i9:=by kernel_rfl,
 i20:=by kernel_rfl,
 i21:=by kernel_rfl,
 i37:=by kernel_rfl,
 i46:=by kernel_rfl,
 i51:=by kernel_rfl,
 i53:=by kernel_rfl,
 i75:=by kernel_rfl,
 i76:=by kernel_rfl,
 i80:=by kernel_rfl,
 i85:=by kernel_rfl,
 i127:=by kernel_rfl,
 i143:=by kernel_rfl,
 i145:=by kernel_rfl,
 i167:=by kernel_rfl,
 i168:=by kernel_rfl,
 i171:=by kernel_rfl,
 i173:=by kernel_rfl,
 i175:=by kernel_rfl,
 i210:=by kernel_rfl,
 i212:=by kernel_rfl,
 i232:=by kernel_rfl,
 i233:=by kernel_rfl,
 m15:=by kernel_rfl,
 m16:=by kernel_rfl,
 m17:=by kernel_rfl,
 m18:=by kernel_rfl,
 m19:=by kernel_rfl,
 c0:=by kernel_rfl,
 c2:=by kernel_rfl,
 c3:=by kernel_rfl,
 c4:=by kernel_rfl,
 c5:=by kernel_rfl,
 c9:=by kernel_rfl,
 c20:=by kernel_rfl,
 c21:=by kernel_rfl,
 c37:=by kernel_rfl,
 c46:=by kernel_rfl,
 c51:=by kernel_rfl,
 c53:=by kernel_rfl,
 c75:=by kernel_rfl,
 c76:=by kernel_rfl,
 c80:=by kernel_rfl,
 c85:=by kernel_rfl,
 c127:=by kernel_rfl,
 c143:=by kernel_rfl,
 c145:=by kernel_rfl,
 c167:=by kernel_rfl,
 c168:=by kernel_rfl,
 c171:=by kernel_rfl,
 c173:=by kernel_rfl,
 c175:=by kernel_rfl,
 c210:=by kernel_rfl,
 c212:=by kernel_rfl,
 c213:=by kernel_rfl,
 c232:=by kernel_rfl,
 c233:=by kernel_rfl }
def zj5b:Go.Shelf.Ren:=⟨fun | 138=>78 | 143=>79 | 146=>48 | 195=>89 | 197=>82 | 217=>54 | 218=>90 | 219=>80 | 221=>59 | 224=>92 | 225=>91 | 260=>94 | 266=>71 | 267=>93 | 268=>77 | 314=>102 | n=>n,fun | 31=>92 | 46=>121 | 51=>119 | 105=>126 | 119=>143 | 138=>145 | 139=>146 | 146=>141 | n=>n,fun | 3=>5 | 4=>6 | n=>n⟩
theorem laySplit:Go.Proofs.Lays.n146 Tryd.prog zj5b:={
 mixed:=by kernel_rfl,
 f138:=by first | exact Tryd.func78.trans (congrArg some (by kernel_rfl)) | exact⟨Tryd.f78.name,by kernel_rfl,Tryd.func78.trans (congrArg some (by kernel_rfl))⟩,
 f143:=by first | exact Tryd.func79.trans (congrArg some (by kernel_rfl)) | exact⟨Tryd.f79.name,by kernel_rfl,Tryd.func79.trans (congrArg some (by kernel_rfl))⟩,
 f146:=by first | exact Tryd.func48.trans (congrArg some (by kernel_rfl)) | exact⟨Tryd.f48.name,by kernel_rfl,Tryd.func48.trans (congrArg some (by kernel_rfl))⟩,
 f195:=by first | exact Tryd.func89.trans (congrArg some (by kernel_rfl)) | exact⟨Tryd.f89.name,by kernel_rfl,Tryd.func89.trans (congrArg some (by kernel_rfl))⟩,
 f197:=by first | exact Tryd.func82.trans (congrArg some (by kernel_rfl)) | exact⟨Tryd.f82.name,by kernel_rfl,Tryd.func82.trans (congrArg some (by kernel_rfl))⟩,
 f217:=by first | exact Tryd.func54.trans (congrArg some (by kernel_rfl)) | exact⟨Tryd.f54.name,by kernel_rfl,Tryd.func54.trans (congrArg some (by kernel_rfl))⟩,
 f218:=by first | exact Tryd.func90.trans (congrArg some (by kernel_rfl)) | exact⟨Tryd.f90.name,by kernel_rfl,Tryd.func90.trans (congrArg some (by kernel_rfl))⟩,
 f219:=by first | exact Tryd.func80.trans (congrArg some (by kernel_rfl)) | exact⟨Tryd.f80.name,by kernel_rfl,Tryd.func80.trans (congrArg some (by kernel_rfl))⟩,
 f221:=by first | exact Tryd.func59.trans (congrArg some (by kernel_rfl)) | exact⟨Tryd.f59.name,by kernel_rfl,Tryd.func59.trans (congrArg some (by kernel_rfl))⟩,
 f224:=by first | exact Tryd.func92.trans (congrArg some (by kernel_rfl)) | exact⟨Tryd.f92.name,by kernel_rfl,Tryd.func92.trans (congrArg some (by kernel_rfl))⟩,
 f225:=by first | exact Tryd.func91.trans (congrArg some (by kernel_rfl)) | exact⟨Tryd.f91.name,by kernel_rfl,Tryd.func91.trans (congrArg some (by kernel_rfl))⟩,
 f260:=by first | exact Tryd.func94.trans (congrArg some (by kernel_rfl)) | exact⟨Tryd.f94.name,by kernel_rfl,Tryd.func94.trans (congrArg some (by kernel_rfl))⟩,
 f266:=by first | exact Tryd.func71.trans (congrArg some (by kernel_rfl)) | exact⟨Tryd.f71.name,by kernel_rfl,Tryd.func71.trans (congrArg some (by kernel_rfl))⟩,
 f267:=by first | exact Tryd.func93.trans (congrArg some (by kernel_rfl)) | exact⟨Tryd.f93.name,by kernel_rfl,Tryd.func93.trans (congrArg some (by kernel_rfl))⟩,
 f268:=by first | exact Tryd.func77.trans (congrArg some (by kernel_rfl)) | exact⟨Tryd.f77.name,by kernel_rfl,Tryd.func77.trans (congrArg some (by kernel_rfl))⟩,
 f314:=by first | exact Tryd.func102.trans (congrArg some (by kernel_rfl)) | exact⟨Tryd.f102.name,by kernel_rfl,Tryd.func102.trans (congrArg some (by kernel_rfl))⟩,
 t0:=Tryd.underlying0,
 a0:=Tryd.isAgg0,
 z0:=Tryd.sizeOf0,
 v0:=Tryd.zeroValue0,
 t3:=Tryd.underlying3,
 a3:=Tryd.isAgg3,
 z3:=Tryd.sizeOf3,
 v3:=Tryd.zeroValue3,
 t4:=Tryd.underlying4,
 a4:=Tryd.isAgg4,
 z4:=Tryd.sizeOf4,
 v4:=Tryd.zeroValue4,
 t5:=Tryd.underlying5,
 a5:=Tryd.isAgg5,
 z5:=Tryd.sizeOf5,
 v5:=Tryd.zeroValue5,
 t9:=Tryd.underlying9,
 a9:=Tryd.isAgg9,
 z9:=Tryd.sizeOf9,
 v9:=Tryd.zeroValue9,
 t21:=Tryd.underlying21,
 a21:=Tryd.isAgg21,
 z21:=Tryd.sizeOf21,
 v21:=Tryd.zeroValue21,
 t31:=Tryd.underlying92,
 a31:=Tryd.isAgg92,
 z31:=Tryd.sizeOf92,
 v31:=Tryd.zeroValue92,
 t46:=Tryd.underlying121,
 a46:=Tryd.isAgg121,
 z46:=Tryd.sizeOf121,
 v46:=Tryd.zeroValue121,
 t51:=Tryd.underlying119,
 a51:=Tryd.isAgg119,
 z51:=Tryd.sizeOf119,
 v51:=Tryd.zeroValue119,
 t105:=Tryd.underlying126,
 a105:=Tryd.isAgg126,
 z105:=Tryd.sizeOf126,
 v105:=Tryd.zeroValue126,
 t119:=Tryd.underlying143,
 a119:=Tryd.isAgg143,
 z119:=Tryd.sizeOf143,
 t138:=Tryd.underlying145,
 a138:=Tryd.isAgg145,
 z138:=Tryd.sizeOf145,
 v138:=Tryd.zeroValue145,
 t139:=Tryd.underlying146,
 a139:=Tryd.isAgg146,
 z139:=Tryd.sizeOf146,
 v139:=Tryd.zeroValue146,
 t146:=Tryd.underlying141,
 a146:=Tryd.isAgg141,
 z146:=Tryd.sizeOf141,
 v146:=Tryd.zeroValue141,
 g1:=by kernel_rfl,
 g3:=by kernel_rfl,
 g4:=by kernel_rfl }
def layCut_ren:Go.Shelf.Ren:=⟨fun | 145=>49 | 217=>54 | 219=>80 | 220=>60 | 224=>92 | 225=>91 | 266=>71 | 267=>93 | 314=>102 | n=>n,fun | 46=>121 | 51=>119 | 59=>95 | 146=>141 | n=>n,fun | n=>n⟩
theorem layCut:Go.Proofs.Lays.n145 Tryd.prog layCut_ren:={
 mixed:=by kernel_rfl,
 f145:=by first | exact Tryd.func49.trans (congrArg some (by kernel_rfl)) | exact⟨Tryd.f49.name,by kernel_rfl,Tryd.func49.trans (congrArg some (by kernel_rfl))⟩,
 f217:=by first | exact Tryd.func54.trans (congrArg some (by kernel_rfl)) | exact⟨Tryd.f54.name,by kernel_rfl,Tryd.func54.trans (congrArg some (by kernel_rfl))⟩,
 f219:=by first | exact Tryd.func80.trans (congrArg some (by kernel_rfl)) | exact⟨Tryd.f80.name,by kernel_rfl,Tryd.func80.trans (congrArg some (by kernel_rfl))⟩,
 f220:=by first | exact Tryd.func60.trans (congrArg some (by kernel_rfl)) | exact⟨Tryd.f60.name,by kernel_rfl,Tryd.func60.trans (congrArg some (by kernel_rfl))⟩,
 f224:=by first | exact Tryd.func92.trans (congrArg some (by kernel_rfl)) | exact⟨Tryd.f92.name,by kernel_rfl,Tryd.func92.trans (congrArg some (by kernel_rfl))⟩,
 f225:=by first | exact Tryd.func91.trans (congrArg some (by kernel_rfl)) | exact⟨Tryd.f91.name,by kernel_rfl,Tryd.func91.trans (congrArg some (by kernel_rfl))⟩,
 f266:=by first | exact Tryd.func71.trans (congrArg some (by kernel_rfl)) | exact⟨Tryd.f71.name,by kernel_rfl,Tryd.func71.trans (congrArg some (by kernel_rfl))⟩,
 f267:=by first | exact Tryd.func93.trans (congrArg some (by kernel_rfl)) | exact⟨Tryd.f93.name,by kernel_rfl,Tryd.func93.trans (congrArg some (by kernel_rfl))⟩,
 f314:=by first | exact Tryd.func102.trans (congrArg some (by kernel_rfl)) | exact⟨Tryd.f102.name,by kernel_rfl,Tryd.func102.trans (congrArg some (by kernel_rfl))⟩,
 t3:=Tryd.underlying3,
 a3:=Tryd.isAgg3,
 z3:=Tryd.sizeOf3,
 v3:=Tryd.zeroValue3,
 t4:=Tryd.underlying4,
 a4:=Tryd.isAgg4,
 z4:=Tryd.sizeOf4,
 v4:=Tryd.zeroValue4,
 t5:=Tryd.underlying5,
 a5:=Tryd.isAgg5,
 z5:=Tryd.sizeOf5,
 v5:=Tryd.zeroValue5,
 t9:=Tryd.underlying9,
 a9:=Tryd.isAgg9,
 z9:=Tryd.sizeOf9,
 v9:=Tryd.zeroValue9,
 t46:=Tryd.underlying121,
 a46:=Tryd.isAgg121,
 z46:=Tryd.sizeOf121,
 v46:=Tryd.zeroValue121,
 t51:=Tryd.underlying119,
 a51:=Tryd.isAgg119,
 z51:=Tryd.sizeOf119,
 v51:=Tryd.zeroValue119,
 t59:=Tryd.underlying95,
 a59:=Tryd.isAgg95,
 z59:=Tryd.sizeOf95,
 v59:=Tryd.zeroValue95,
 t146:=Tryd.underlying141,
 a146:=Tryd.isAgg141,
 z146:=Tryd.sizeOf141,
 v146:=Tryd.zeroValue141,
 g1:=by kernel_rfl }
def layTrim_ren:Go.Shelf.Ren:=⟨fun | 119=>103 | 120=>96 | 137=>42 | 151=>83 | 152=>95 | 160=>50 | 197=>82 | 217=>54 | 224=>92 | 225=>91 | 227=>63 | 228=>81 | 231=>61 | 232=>62 | 233=>64 | 234=>65 | 235=>66 | 236=>67 | 260=>94 | 266=>71 | 271=>84 | n=>n,fun | 46=>121 | 105=>126 | 116=>109 | 117=>110 | 119=>143 | 124=>113 | 138=>145 | 139=>146 | n=>n,fun | 3=>5 | 4=>6 | n=>n⟩
theorem layTrim:Go.Proofs.Lays.n160 Tryd.prog layTrim_ren:={
 mixed:=by kernel_rfl,
 f119:=by first | exact Tryd.func103.trans (congrArg some (by kernel_rfl)) | exact⟨Tryd.f103.name,by kernel_rfl,Tryd.func103.trans (congrArg some (by kernel_rfl))⟩,
 f120:=by first | exact Tryd.func96.trans (congrArg some (by kernel_rfl)) | exact⟨Tryd.f96.name,by kernel_rfl,Tryd.func96.trans (congrArg some (by kernel_rfl))⟩,
 f137:=by first | exact Tryd.func42.trans (congrArg some (by kernel_rfl)) | exact⟨Tryd.f42.name,by kernel_rfl,Tryd.func42.trans (congrArg some (by kernel_rfl))⟩,
 f151:=by first | exact Tryd.func83.trans (congrArg some (by kernel_rfl)) | exact⟨Tryd.f83.name,by kernel_rfl,Tryd.func83.trans (congrArg some (by kernel_rfl))⟩,
 f152:=by first | exact Tryd.func95.trans (congrArg some (by kernel_rfl)) | exact⟨Tryd.f95.name,by kernel_rfl,Tryd.func95.trans (congrArg some (by kernel_rfl))⟩,
 f160:=by first | exact Tryd.func50.trans (congrArg some (by kernel_rfl)) | exact⟨Tryd.f50.name,by kernel_rfl,Tryd.func50.trans (congrArg some (by kernel_rfl))⟩,
 f197:=by first | exact Tryd.func82.trans (congrArg some (by kernel_rfl)) | exact⟨Tryd.f82.name,by kernel_rfl,Tryd.func82.trans (congrArg some (by kernel_rfl))⟩,
 f217:=by first | exact Tryd.func54.trans (congrArg some (by kernel_rfl)) | exact⟨Tryd.f54.name,by kernel_rfl,Tryd.func54.trans (congrArg some (by kernel_rfl))⟩,
 f224:=by first | exact Tryd.func92.trans (congrArg some (by kernel_rfl)) | exact⟨Tryd.f92.name,by kernel_rfl,Tryd.func92.trans (congrArg some (by kernel_rfl))⟩,
 f225:=by first | exact Tryd.func91.trans (congrArg some (by kernel_rfl)) | exact⟨Tryd.f91.name,by kernel_rfl,Tryd.func91.trans (congrArg some (by kernel_rfl))⟩,
 f227:=by first | exact Tryd.func63.trans (congrArg some (by kernel_rfl)) | exact⟨Tryd.f63.name,by kernel_rfl,Tryd.func63.trans (congrArg some (by kernel_rfl))⟩,
 f228:=by first | exact Tryd.func81.trans (congrArg some (by kernel_rfl)) | exact⟨Tryd.f81.name,by kernel_rfl,Tryd.func81.trans (congrArg some (by kernel_rfl))⟩,
 f231:=by first | exact Tryd.func61.trans (congrArg some (by kernel_rfl)) | exact⟨Tryd.f61.name,by kernel_rfl,Tryd.func61.trans (congrArg some (by kernel_rfl))⟩,
 f232:=by first | exact Tryd.func62.trans (congrArg some (by kernel_rfl)) | exact⟨Tryd.f62.name,by kernel_rfl,Tryd.func62.trans (congrArg some (by kernel_rfl))⟩,
 f233:=by first | exact Tryd.func64.trans (congrArg some (by kernel_rfl)) | exact⟨Tryd.f64.name,by kernel_rfl,Tryd.func64.trans (congrArg some (by kernel_rfl))⟩,
 f234:=by first | exact Tryd.func65.trans (congrArg some (by kernel_rfl)) | exact⟨Tryd.f65.name,by kernel_rfl,Tryd.func65.trans (congrArg some (by kernel_rfl))⟩,
 f235:=by first | exact Tryd.func66.trans (congrArg some (by kernel_rfl)) | exact⟨Tryd.f66.name,by kernel_rfl,Tryd.func66.trans (congrArg some (by kernel_rfl))⟩,
 f236:=by first | exact Tryd.func67.trans (congrArg some (by kernel_rfl)) | exact⟨Tryd.f67.name,by kernel_rfl,Tryd.func67.trans (congrArg some (by kernel_rfl))⟩,
 f260:=by first | exact Tryd.func94.trans (congrArg some (by kernel_rfl)) | exact⟨Tryd.f94.name,by kernel_rfl,Tryd.func94.trans (congrArg some (by kernel_rfl))⟩,
 f266:=by first | exact Tryd.func71.trans (congrArg some (by kernel_rfl)) | exact⟨Tryd.f71.name,by kernel_rfl,Tryd.func71.trans (congrArg some (by kernel_rfl))⟩,
 f271:=by first | exact Tryd.func84.trans (congrArg some (by kernel_rfl)) | exact⟨Tryd.f84.name,by kernel_rfl,Tryd.func84.trans (congrArg some (by kernel_rfl))⟩,
 t0:=Tryd.underlying0,
 a0:=Tryd.isAgg0,
 z0:=Tryd.sizeOf0,
 v0:=Tryd.zeroValue0,
 t3:=Tryd.underlying3,
 a3:=Tryd.isAgg3,
 z3:=Tryd.sizeOf3,
 v3:=Tryd.zeroValue3,
 t4:=Tryd.underlying4,
 a4:=Tryd.isAgg4,
 z4:=Tryd.sizeOf4,
 v4:=Tryd.zeroValue4,
 t5:=Tryd.underlying5,
 a5:=Tryd.isAgg5,
 z5:=Tryd.sizeOf5,
 v5:=Tryd.zeroValue5,
 t9:=Tryd.underlying9,
 a9:=Tryd.isAgg9,
 z9:=Tryd.sizeOf9,
 v9:=Tryd.zeroValue9,
 t21:=Tryd.underlying21,
 a21:=Tryd.isAgg21,
 z21:=Tryd.sizeOf21,
 v21:=Tryd.zeroValue21,
 t46:=Tryd.underlying121,
 a46:=Tryd.isAgg121,
 z46:=Tryd.sizeOf121,
 v46:=Tryd.zeroValue121,
 t105:=Tryd.underlying126,
 a105:=Tryd.isAgg126,
 z105:=Tryd.sizeOf126,
 v105:=Tryd.zeroValue126,
 t116:=Tryd.underlying109,
 a116:=Tryd.isAgg109,
 z116:=Tryd.sizeOf109,
 t117:=Tryd.underlying110,
 a117:=Tryd.isAgg110,
 z117:=Tryd.sizeOf110,
 v117:=Tryd.zeroValue110,
 t119:=Tryd.underlying143,
 a119:=Tryd.isAgg143,
 z119:=Tryd.sizeOf143,
 t124:=Tryd.underlying113,
 a124:=Tryd.isAgg113,
 z124:=Tryd.sizeOf113,
 v124:=Tryd.zeroValue113,
 t138:=Tryd.underlying145,
 a138:=Tryd.isAgg145,
 z138:=Tryd.sizeOf145,
 v138:=Tryd.zeroValue145,
 t139:=Tryd.underlying146,
 a139:=Tryd.isAgg146,
 z139:=Tryd.sizeOf146,
 v139:=Tryd.zeroValue146,
 g3:=by kernel_rfl,
 g4:=by kernel_rfl }
def laySuf_ren:Go.Shelf.Ren:=⟨fun | 104=>37 | 207=>68 | 211=>51 | n=>n,fun | 24=>82 | n=>n,fun | n=>n⟩
theorem laySuf:Go.Proofs.Lays.n104 Tryd.prog laySuf_ren:={
 mixed:=by kernel_rfl,
 f104:=by first | exact Tryd.func37.trans (congrArg some (by kernel_rfl)) | exact⟨Tryd.f37.name,by kernel_rfl,Tryd.func37.trans (congrArg some (by kernel_rfl))⟩,
 f207:=by first | exact Tryd.func68.trans (congrArg some (by kernel_rfl)) | exact⟨Tryd.f68.name,by kernel_rfl,Tryd.func68.trans (congrArg some (by kernel_rfl))⟩,
 f211:=by first | exact Tryd.func51.trans (congrArg some (by kernel_rfl)) | exact⟨Tryd.f51.name,by kernel_rfl,Tryd.func51.trans (congrArg some (by kernel_rfl))⟩,
 t3:=Tryd.underlying3,
 a3:=Tryd.isAgg3,
 z3:=Tryd.sizeOf3,
 v3:=Tryd.zeroValue3,
 t4:=Tryd.underlying4,
 a4:=Tryd.isAgg4,
 z4:=Tryd.sizeOf4,
 v4:=Tryd.zeroValue4,
 t9:=Tryd.underlying9,
 a9:=Tryd.isAgg9,
 z9:=Tryd.sizeOf9,
 v9:=Tryd.zeroValue9,
 t24:=Tryd.underlying82,
 a24:=Tryd.isAgg82,
 z24:=Tryd.sizeOf82,
 v24:=Tryd.zeroValue82 }
def layPre_ren:Go.Shelf.Ren:=⟨fun | 99=>27 | 206=>43 | n=>n,fun | n=>n,fun | n=>n⟩
theorem layPre:Go.Proofs.Lays.n99 Tryd.prog layPre_ren:={
 mixed:=by kernel_rfl,
 f99:=by first | exact Tryd.func27.trans (congrArg some (by kernel_rfl)) | exact⟨Tryd.f27.name,by kernel_rfl,Tryd.func27.trans (congrArg some (by kernel_rfl))⟩,
 f206:=by first | exact Tryd.func43.trans (congrArg some (by kernel_rfl)) | exact⟨Tryd.f43.name,by kernel_rfl,Tryd.func43.trans (congrArg some (by kernel_rfl))⟩,
 t3:=Tryd.underlying3,
 a3:=Tryd.isAgg3,
 z3:=Tryd.sizeOf3,
 v3:=Tryd.zeroValue3,
 t4:=Tryd.underlying4,
 a4:=Tryd.isAgg4,
 z4:=Tryd.sizeOf4,
 v4:=Tryd.zeroValue4,
 t9:=Tryd.underlying9,
 a9:=Tryd.isAgg9,
 z9:=Tryd.sizeOf9,
 v9:=Tryd.zeroValue9 }
def layLast_ren:Go.Shelf.Ren:=⟨fun | 149=>18 | 222=>32 | n=>n,fun | n=>n,fun | n=>n⟩
theorem layLast:Go.Proofs.Lays.n149 Tryd.prog layLast_ren:={
 mixed:=by kernel_rfl,
 f149:=by first | exact Tryd.func18.trans (congrArg some (by kernel_rfl)) | exact⟨Tryd.f18.name,by kernel_rfl,Tryd.func18.trans (congrArg some (by kernel_rfl))⟩,
 f222:=by first | exact Tryd.func32.trans (congrArg some (by kernel_rfl)) | exact⟨Tryd.f32.name,by kernel_rfl,Tryd.func32.trans (congrArg some (by kernel_rfl))⟩,
 t3:=Tryd.underlying3,
 a3:=Tryd.isAgg3,
 z3:=Tryd.sizeOf3,
 v3:=Tryd.zeroValue3,
 t4:=Tryd.underlying4,
 a4:=Tryd.isAgg4,
 z4:=Tryd.sizeOf4,
 v4:=Tryd.zeroValue4,
 t5:=Tryd.underlying5,
 a5:=Tryd.isAgg5,
 z5:=Tryd.sizeOf5,
 v5:=Tryd.zeroValue5,
 t9:=Tryd.underlying9,
 a9:=Tryd.isAgg9,
 z9:=Tryd.sizeOf9,
 v9:=Tryd.zeroValue9 }
def TabAt (w : World) : Prop := Lib.TabIs Tryd.prog w "internal/strconv.uint64pow10" .u64 Lib.pow10Tab
theorem gTab : Tryd.prog.globalNamed "internal/strconv.uint64pow10" = some 2 := by kernel_rfl
theorem TabAt.keep {w w':World} (h:TabAt w) (k:Fresh w w'):TabAt w':=by
 unfold TabAt Lib.TabIs World.var? at *
 rw[gTab] at h ⊢
 simp only[Option.bind_some] at h ⊢
 have hlt:2 < w.heap.size:=by
  by_cases hl:2 < w.heap.size
  ·exact hl
  ·rw[Array.getElem?_eq_none (by omega)] at h; cases h
 rw[k.block 2 hlt]; exact h
theorem fresh_grow (w:World) (k:Nat) (os:Array Obj):Fresh w (Sort.grow (w.drewN k) os) :=
 ⟨rfl,rfl,rfl,by simp[Sort.grow,World.drewN],fun j hj=>by
  show (w.heap++os)[j]? = w.heap[j]?
  rw[Array.getElem?_append_left hj]⟩
theorem itoa41 (n:Int) (w:World) (h0 : -9223372036854775808≤n) (h1:n≤9223372036854775807) (hT:TabAt w):CallsV Tryd.prog 16 [.int .i64 n] w fun v w'=>v=.string ⟨⟨Lib.itoa n⟩⟩∧Fresh w w':=by
 refine Calls.mono (Any.strconv_Itoa layItoa n h0 h1 w hT) fun e w' he=>?_
 obtain⟨rfl,k,os,rfl⟩:=he
 exact⟨rfl,fresh_grow w k os⟩
theorem zj2n {w w':World} {g:Nat} {v:Value} (h:w.cell? ⟨g,0,none⟩=some v) (k:Fresh w w'):w'.cell? ⟨g,0,none⟩=some v:=by
 refine (cell_keep k ?_).trans h
 unfold World.cell? at h
 split at h
 ·rename_i e; exact (Array.getElem?_eq_some_iff.1 e).1
 ·cases h
structure LibAt (w:World):Prop where
 max:∃ m,w.cell? ⟨1,0,none⟩=some (.int .i64 m)
 syn:∃ t p,w.cell? ⟨7,0,none⟩=some (.iface t p)
 rng:∃ t p,w.cell? ⟨8,0,none⟩=some (.iface t p)
theorem LibAt.keep {w w':World} (h:LibAt w) (k:Fresh w w'):LibAt w':=by
 obtain⟨⟨m,h1⟩,⟨t,p,h2⟩,⟨t',p',h3⟩⟩:=h
 exact⟨⟨m,zj2n h1 k⟩,⟨t,p,zj2n h2 k⟩,⟨t',p',zj2n h3 k⟩⟩
theorem zj1u {w w':World} (h:RowKit.Below w.heap.size w w'):Fresh w w':=⟨h.1,h.2,h.3,h.4,h.5⟩
theorem atoi36 (s:ByteArray) (w:World) (hs:s.size≤1000000) (hL:LibAt w):CallsV Tryd.prog 70 [.string s] w fun v w' =>
  (∃ n t p,v=.tuple #[.int .i64 n,.iface t p]∧(∀ z,Lib.atoiAll s.data.toList ≠ .ok z))∧Fresh w w'∨(∃ n,v=.tuple #[.int .i64 n,.nilIface]∧Lib.atoiAll s.data.toList=.ok n)∧Fresh w w':=by
 obtain⟨_,⟨t,p,h2⟩,⟨t',p',h3⟩⟩:=hL
 cases h:Lib.atoiAll s.data.toList
 ·rename_i n
  refine Calls.mono (Any.strconv_Atoi_ok layAtoi s (by omega) n h w) fun e w' he=>?_
  obtain⟨rfl,he⟩:=he
  refine .inr ⟨⟨n,rfl,rfl⟩,?_⟩
  rcases he with rfl | ⟨x,rfl⟩
  ·exact Fresh.refl _
  ·refine⟨rfl,rfl,rfl,?_,fun j hj=>?_⟩
   ·unfold Lib.bytesWorld World.freeze
    rw[if_neg (by decide)]; simp
   ·unfold Lib.bytesWorld World.freeze
    rw[if_neg (by decide)]
    simp only[Array.getElem?_modify]
    rw[if_neg (by show ¬ w.heap.size=j; omega)]
    exact Go.RowKit.Below.heap_alloc w.drew _ j hj
 ·refine Calls.mono (Any.strconv_Atoi_syntax layAtoi s (by omega) h _ w h2 (.inr ⟨t,p,rfl⟩)) fun e w' he=>?_
  obtain⟨N,rfl,_,_,hb⟩:=he
  exact .inl ⟨⟨_,_,_,rfl,by simp⟩,zj1u hb⟩
 ·refine Calls.mono (Any.strconv_Atoi_range layAtoi s (by omega) h _ w h3 (.inr ⟨t',p',rfl⟩)) fun e w' he=>?_
  obtain⟨N,rfl,_,_,hb⟩:=he
  exact .inl ⟨⟨_,_,_,rfl,by simp⟩,zj1u hb⟩
theorem split34 (s:ByteArray) (w:World) (hs:s.size≤1000000) (hL:LibAt w):CallsV Tryd.prog 48 [.string s,.string ⟨⟨[32]⟩⟩] w fun v w' =>
  World.ownsB w' w.heap.size 9 1 v (Lib.countB s ⟨⟨[32]⟩⟩+1) ((Lib.splitB ⟨⟨[32]⟩⟩ 0 (Lib.countB s ⟨⟨[32]⟩⟩) s).map Value.string)∧Fresh w w':=by
 obtain⟨⟨m,h1⟩,_,_⟩:=hL
 refine Calls.mono (Any.strings_Split laySplit (by kernel_rfl) s ⟨⟨[32]⟩⟩ m w (by omega) h1 (by decide)) fun e w' he=>?_
 obtain⟨rfl,rfl⟩:=he
 have hlen:=Lib.splitB_all ⟨⟨[32]⟩⟩ (by decide) 0 _ s rfl
 refine⟨ownsB_row ⟨by rw[List.length_map,hlen]; omega,.inr ⟨w.heap.size,Lib.countB s ⟨⟨[32]⟩⟩+1,((Lib.splitB ⟨⟨[32]⟩⟩ 0 (Lib.countB s ⟨⟨[32]⟩⟩) s).map Value.string).toArray,rfl,Nat.le_refl _,heap_alloc_new w _,Nat.le_refl _,?_,?_,?_⟩⟩,⟨rfl,rfl,rfl,by simp,fun j hj=>Go.RowKit.Below.heap_alloc w _ j hj⟩⟩
 ·have:=Lib.countB_le ⟨⟨[32]⟩⟩ (by decide) s.size s (Nat.le_refl _)
  simp[maxLen]; omega
 ·simp[hlen]
 ·rw[List.take_of_length_le (by simp[hlen])]
theorem splitN (s:ByteArray) (w:World) (hs:s.size≤1000000) (hL:LibAt w):CallsV Tryd.prog 48 [.string s,.string ⟨⟨[10]⟩⟩] w fun v w' =>
  World.ownsB w' w.heap.size 9 1 v (Lib.countB s ⟨⟨[10]⟩⟩+1) ((Lib.splitB ⟨⟨[10]⟩⟩ 0 (Lib.countB s ⟨⟨[10]⟩⟩) s).map Value.string)∧Fresh w w':=by
 obtain⟨⟨m,h1⟩,_,_⟩:=hL
 refine Calls.mono (Any.strings_Split laySplit (by kernel_rfl) s ⟨⟨[10]⟩⟩ m w (by omega) h1 (by decide)) fun e w' he=>?_
 obtain⟨rfl,rfl⟩:=he
 have hlen:=Lib.splitB_all ⟨⟨[10]⟩⟩ (by decide) 0 _ s rfl
 refine⟨ownsB_row ⟨by rw[List.length_map,hlen]; omega,.inr ⟨w.heap.size,Lib.countB s ⟨⟨[10]⟩⟩+1,((Lib.splitB ⟨⟨[10]⟩⟩ 0 (Lib.countB s ⟨⟨[10]⟩⟩) s).map Value.string).toArray,rfl,Nat.le_refl _,heap_alloc_new w _,Nat.le_refl _,?_,?_,?_⟩⟩,⟨rfl,rfl,rfl,by simp,fun j hj=>Go.RowKit.Below.heap_alloc w _ j hj⟩⟩
 ·have:=Lib.countB_le ⟨⟨[10]⟩⟩ (by decide) s.size s (Nat.le_refl _)
  simp[maxLen]; omega
 ·simp[hlen]
 ·rw[List.take_of_length_le (by simp[hlen])]
theorem fresh_drew (w:World) (k:Nat):Fresh w (w.drewN k):=⟨rfl,rfl,rfl,by simp[World.drewN],fun j hj=>rfl⟩
theorem cutC (s p:B) (w:World) (hs:s.length≤1000000) (hL:LibAt w):CallsV Tryd.prog 49 [.string ⟨⟨s⟩⟩,.string ⟨⟨p⟩⟩] w fun v w'=>v=.tuple #[.string ⟨⟨(Lib.cut s p).1⟩⟩,.string ⟨⟨(Lib.cut s p).2.1⟩⟩,.bool (Lib.cut s p).2.2]∧Fresh w w':=by
 obtain⟨⟨m,h1⟩,_,_⟩:=hL
 refine Calls.mono (Any.strings_Cut layCut ⟨⟨s⟩⟩ ⟨⟨p⟩⟩ m w (by show s.length < _; omega) h1) fun e w' he=>?_
 obtain⟨rfl,n,rfl⟩:=he
 exact⟨rfl,fresh_drew w n⟩
theorem trimC (s:B) (w:World) (hs:s.length≤1000000):CallsV Tryd.prog 50 [.string ⟨⟨s⟩⟩,.string ⟨⟨[32,9]⟩⟩] w fun v w'=>v=.string ⟨⟨trimBl s⟩⟩∧Fresh w w':=by
 refine Calls.mono (Any.strings_Trim_laid layTrim (by kernel_rfl) ⟨⟨s⟩⟩ ⟨⟨[32,9]⟩⟩ w (by show s.length≤_; omega) (by decide) (ascii_of_all (by decide))) fun e w' he=>?_
 obtain⟨rfl,hb⟩:=he
 refine⟨?_,zj1u hb⟩
 show Value.string ⟨(Lib.trimS s [32,9]).toArray⟩=_
 rw[trim_bl]
theorem sufC (s p:B) (w:World) (hs:s.length≤1000000):CallsV Tryd.prog 37 [.string ⟨⟨s⟩⟩,.string ⟨⟨p⟩⟩] w fun v w'=>v=.tuple #[.string ⟨⟨Lib.trimSuffix s p⟩⟩,.bool (Lib.hasSuffix s p)]∧Fresh w w':=by
 refine Calls.mono (Any.strings_CutSuffix laySuf ⟨⟨s⟩⟩ ⟨⟨p⟩⟩ w (by show s.length≤_; omega)) fun e w' he=>?_
 obtain⟨rfl,rfl⟩:=he
 exact⟨rfl,Fresh.refl _⟩
theorem preC (s p:B) (w:World):CallsV Tryd.prog 27 [.string ⟨⟨s⟩⟩,.string ⟨⟨p⟩⟩] w fun v w'=>v=.bool (Lib.hasPrefix s p)∧Fresh w w':=by
 refine Calls.mono (Any.strings_HasPrefix layPre ⟨⟨s⟩⟩ ⟨⟨p⟩⟩ w) fun e w' he=>?_
 obtain⟨rfl,rfl⟩:=he
 exact⟨rfl,Fresh.refl _⟩
theorem lastC (s:B) (c:Int) (w:World) (hs:s.length≤1000000):CallsV Tryd.prog 18 [.string ⟨⟨s⟩⟩,.int .u8 c] w fun v w'=>v=.int .i64 (Lib.lastIndexByte ⟨⟨s⟩⟩ c)∧Fresh w w':=by
 refine Calls.mono (Any.strings_LastIndexByte layLast ⟨⟨s⟩⟩ c (by show s.length < _; omega) w) fun e w' he=>?_
 obtain⟨rfl,rfl⟩:=he
 exact⟨rfl,Fresh.refl _⟩
end Go.Proofs.YtaiajnehnjnadaaDoor
