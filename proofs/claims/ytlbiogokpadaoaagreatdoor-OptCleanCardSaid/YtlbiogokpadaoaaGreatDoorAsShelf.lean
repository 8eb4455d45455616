/- The kit's shelf contracts of strconv.Itoa, Atoi, strings.Split, Cut, Trim, CutSuffix, HasPrefix, LastIndexByte, laid at this program (the texts printed by tools/ShText). -/
import Derived.Shelf.Strconv.Itoa3
import Derived.Shelf.Strconv.AtoiAll
import Derived.Shelf.Strings.Split
import Derived.Shelf.Strings.Cut
import Derived.Shelf.Strings.SlTrimAscii
import Derived.Shelf.Small.Wraps
import Derived.Shelf.Strings.Prefix
import Derived.Shelf.Strings.LastIndex
import Derived.Shelf.Strconv.ErrVarAll
import Derived.Test.YtlbiogokpadaoaaGreatDoorProg
import Derived.Test.YtlbiogokpadaoaaGreatDoorIsaSpec
import Derived.KernelRfl
set_option linter.unusedSimpArgs false
set_option linter.unusedVariables false
set_option linter.unnecessarySimpa false
namespace Go.Proofs.YtlbiogokpadaoaaGreatDoor
open Go Go.Sx Go.Shelf Go.Isa Go.Asm
set_option maxRecDepth 100000
def layItoa_ren:Go.Shelf.Ren:=⟨fun | 129=>113 | 171=>101 | 243=>138 | 246=>160 | 283=>180 | 284=>181 | 285=>182 | 286=>183 | 317=>195 | 318=>196 | 319=>197 | 320=>198 | 337=>212 | 338=>213 | n=>n,fun | 37=>240 | 46=>116 | 51=>163 | 53=>49 | 171=>238 | 173=>241 | 212=>252 | 213=>253 | 232=>275 | 233=>276 | n=>n,fun | 17=>3 | 18=>8 | 19=>9 | n=>n⟩
theorem layItoa:Go.Proofs.LaysM.n171 Tryz.prog layItoa_ren:={
 mixed:=by kernel_rfl,
 f129:=by first | exact Tryz.func113.trans (congrArg some (by kernel_rfl)) | exact⟨Tryz.f113.name,by kernel_rfl,Tryz.func113.trans (congrArg some (by kernel_rfl))⟩,
 f171:=by first | exact Tryz.func101.trans (congrArg some (by kernel_rfl)) | exact⟨Tryz.f101.name,by kernel_rfl,Tryz.func101.trans (congrArg some (by kernel_rfl))⟩,
 f243:=by first | exact Tryz.func138.trans (congrArg some (by kernel_rfl)) | exact⟨Tryz.f138.name,by kernel_rfl,Tryz.func138.trans (congrArg some (by kernel_rfl))⟩,
 f246:=by first | exact Tryz.func160.trans (congrArg some (by kernel_rfl)) | exact⟨Tryz.f160.name,by kernel_rfl,Tryz.func160.trans (congrArg some (by kernel_rfl))⟩,
 f283:=by first | exact Tryz.func180.trans (congrArg some (by kernel_rfl)) | exact⟨Tryz.f180.name,by kernel_rfl,Tryz.func180.trans (congrArg some (by kernel_rfl))⟩,
 f284:=by first | exact Tryz.func181.trans (congrArg some (by kernel_rfl)) | exact⟨Tryz.f181.name,by kernel_rfl,Tryz.func181.trans (congrArg some (by kernel_rfl))⟩,
 f285:=by first | exact Tryz.func182.trans (congrArg some (by kernel_rfl)) | exact⟨Tryz.f182.name,by kernel_rfl,Tryz.func182.trans (congrArg some (by kernel_rfl))⟩,
 f286:=by first | exact Tryz.func183.trans (congrArg some (by kernel_rfl)) | exact⟨Tryz.f183.name,by kernel_rfl,Tryz.func183.trans (congrArg some (by kernel_rfl))⟩,
 f317:=by first | exact Tryz.func195.trans (congrArg some (by kernel_rfl)) | exact⟨Tryz.f195.name,by kernel_rfl,Tryz.func195.trans (congrArg some (by kernel_rfl))⟩,
 f318:=by first | exact Tryz.func196.trans (congrArg some (by kernel_rfl)) | exact⟨Tryz.f196.name,by kernel_rfl,Tryz.func196.trans (congrArg some (by kernel_rfl))⟩,
 f319:=by first | exact Tryz.func197.trans (congrArg some (by kernel_rfl)) | exact⟨Tryz.f197.name,by kernel_rfl,Tryz.func197.trans (congrArg some (by kernel_rfl))⟩,
 f320:=by first | exact Tryz.func198.trans (congrArg some (by kernel_rfl)) | exact⟨Tryz.f198.name,by kernel_rfl,Tryz.func198.trans (congrArg some (by kernel_rfl))⟩,
 f337:=by first | exact Tryz.func212.trans (congrArg some (by kernel_rfl)) | exact⟨Tryz.f212.name,by kernel_rfl,Tryz.func212.trans (congrArg some (by kernel_rfl))⟩,
 f338:=by first | exact Tryz.func213.trans (congrArg some (by kernel_rfl)) | exact⟨Tryz.f213.name,by kernel_rfl,Tryz.func213.trans (congrArg some (by kernel_rfl))⟩,
 t0:=Tryz.underlying0,
 a0:=Tryz.isAgg0,
 z0:=Tryz.sizeOf0,
 v0:=Tryz.zeroValue0,
 t2:=Tryz.underlying2,
 a2:=Tryz.isAgg2,
 z2:=Tryz.sizeOf2,
 v2:=Tryz.zeroValue2,
 t3:=Tryz.underlying3,
 a3:=Tryz.isAgg3,
 z3:=Tryz.sizeOf3,
 v3:=Tryz.zeroValue3,
 t4:=Tryz.underlying4,
 a4:=Tryz.isAgg4,
 z4:=Tryz.sizeOf4,
 v4:=Tryz.zeroValue4,
 t5:=Tryz.underlying5,
 a5:=Tryz.isAgg5,
 z5:=Tryz.sizeOf5,
 v5:=Tryz.zeroValue5,
 t9:=Tryz.underlying9,
 a9:=Tryz.isAgg9,
 z9:=Tryz.sizeOf9,
 v9:=Tryz.zeroValue9,
 t20:=Tryz.underlying20,
 a20:=Tryz.isAgg20,
 z20:=Tryz.sizeOf20,
 v20:=Tryz.zeroValue20,
 t37:=Tryz.underlying240,
 a37:=Tryz.isAgg240,
 z37:=Tryz.sizeOf240,
 v37:=Tryz.zeroValue240,
 t46:=Tryz.underlying116,
 a46:=Tryz.isAgg116,
 z46:=Tryz.sizeOf116,
 v46:=Tryz.zeroValue116,
 t51:=Tryz.underlying163,
 a51:=Tryz.isAgg163,
 z51:=Tryz.sizeOf163,
 v51:=Tryz.zeroValue163,
 t53:=Tryz.underlying49,
 a53:=Tryz.isAgg49,
 z53:=Tryz.sizeOf49,
 v53:=Tryz.zeroValue49,
 t171:=Tryz.underlying238,
 a171:=Tryz.isAgg238,
 z171:=Tryz.sizeOf238,
 v171:=Tryz.zeroValue238,
 t173:=Tryz.underlying241,
 a173:=Tryz.isAgg241,
 z173:=Tryz.sizeOf241,
 v173:=Tryz.zeroValue241,
 t212:=Tryz.underlying252,
 a212:=Tryz.isAgg252,
 z212:=Tryz.sizeOf252,
 v212:=Tryz.zeroValue252,
 t213:=Tryz.underlying253,
 a213:=Tryz.isAgg253,
 z213:=Tryz.sizeOf253,
 t232:=Tryz.underlying275,
 a232:=Tryz.isAgg275,
 z232:=Tryz.sizeOf275,
 v232:=Tryz.zeroValue275,
 t233:=Tryz.underlying276,
 a233:=Tryz.isAgg276,
 z233:=Tryz.sizeOf276,
 v233:=Tryz.zeroValue276,
 g17:=by kernel_rfl,
 g18:=by kernel_rfl,
 g19:=by kernel_rfl,
 i0:=by kernel_rfl,
 i2:=by kernel_rfl,
 i3:=by kernel_rfl,
 i4:=by kernel_rfl,
 i5:=by kernel_rfl,
 i9:=by kernel_rfl,
 i20:=by kernel_rfl,
 i37:=by kernel_rfl,
 i46:=by kernel_rfl,
 i51:=by kernel_rfl,
 i53:=by kernel_rfl,
 i171:=by kernel_rfl,
 i173:=by kernel_rfl,
 i212:=by kernel_rfl,
 i232:=by kernel_rfl,
 i233:=by kernel_rfl,
 m17:=by kernel_rfl,
 m18:=by kernel_rfl,
 m19:=by kernel_rfl }
def layAtoi_ren:Go.Shelf.Ren:=⟨fun | 129=>113 | 171=>101 | 172=>175 | 205=>218 | 243=>138 | 244=>193 | 245=>194 | 246=>160 | 247=>207 | 279=>208 | 280=>209 | 281=>210 | 282=>211 | 283=>180 | 284=>181 | 285=>182 | 286=>183 | 287=>216 | 316=>217 | 317=>195 | 318=>196 | 319=>197 | 320=>198 | 321=>219 | 322=>220 | 337=>212 | 338=>213 | n=>n,fun | 37=>240 | 46=>116 | 51=>163 | 53=>49 | 75=>230 | 76=>231 | 80=>282 | 85=>257 | 127=>278 | 143=>279 | 145=>281 | 167=>256 | 168=>259 | 171=>238 | 173=>241 | 175=>269 | 210=>273 | 212=>252 | 213=>253 | 232=>275 | 233=>276 | n=>n,fun | 15=>6 | 16=>7 | 17=>3 | 18=>8 | 19=>9 | n=>n⟩
theorem layAtoi:Go.Proofs.LaysC.n172 Tryz.prog layAtoi_ren:={
 mixed:=by kernel_rfl,
 f129:=by first | exact Tryz.func113.trans (congrArg some (by kernel_rfl)) | exact⟨Tryz.f113.name,by kernel_rfl,Tryz.func113.trans (congrArg some (by kernel_rfl))⟩,
 f171:=by first | exact Tryz.func101.trans (congrArg some (by kernel_rfl)) | exact⟨Tryz.f101.name,by kernel_rfl,Tryz.func101.trans (congrArg some (by kernel_rfl))⟩,
 f172:=by first | exact Tryz.func175.trans (congrArg some (by kernel_rfl)) | exact⟨Tryz.f175.name,by kernel_rfl,Tryz.func175.trans (congrArg some (by kernel_rfl))⟩,
 f205:=by first | exact Tryz.func218.trans (congrArg some (by kernel_rfl)) | exact⟨Tryz.f218.name,by kernel_rfl,Tryz.func218.trans (congrArg some (by kernel_rfl))⟩,
 f243:=by first | exact Tryz.func138.trans (congrArg some (by kernel_rfl)) | exact⟨Tryz.f138.name,by kernel_rfl,Tryz.func138.trans (congrArg some (by kernel_rfl))⟩,
 f244:=by first | exact Tryz.func193.trans (congrArg some (by kernel_rfl)) | exact⟨Tryz.f193.name,by kernel_rfl,Tryz.func193.trans (congrArg some (by kernel_rfl))⟩,
 f245:=by first | exact Tryz.func194.trans (congrArg some (by kernel_rfl)) | exact⟨Tryz.f194.name,by kernel_rfl,Tryz.func194.trans (congrArg some (by kernel_rfl))⟩,
 f246:=by first | exact Tryz.func160.trans (congrArg some (by kernel_rfl)) | exact⟨Tryz.f160.name,by kernel_rfl,Tryz.func160.trans (congrArg some (by kernel_rfl))⟩,
 f247:=by first | exact Tryz.func207.trans (congrArg some (by kernel_rfl)) | exact⟨Tryz.f207.name,by kernel_rfl,Tryz.func207.trans (congrArg some (by kernel_rfl))⟩,
 f279:=by first | exact Tryz.func208.trans (congrArg some (by kernel_rfl)) | exact⟨Tryz.f208.name,by kernel_rfl,Tryz.func208.trans (congrArg some (by kernel_rfl))⟩,
 f280:=by first | exact Tryz.func209.trans (congrArg some (by kernel_rfl)) | exact⟨Tryz.f209.name,by kernel_rfl,Tryz.func209.trans (congrArg some (by kernel_rfl))⟩,
 f281:=by first | exact Tryz.func210.trans (congrArg some (by kernel_rfl)) | exact⟨Tryz.f210.name,by kernel_rfl,Tryz.func210.trans (congrArg some (by kernel_rfl))⟩,
 f282:=by first | exact Tryz.func211.trans (congrArg some (by kernel_rfl)) | exact⟨Tryz.f211.name,by kernel_rfl,Tryz.func211.trans (congrArg some (by kernel_rfl))⟩,
 f283:=by first | exact Tryz.func180.trans (congrArg some (by kernel_rfl)) | exact⟨Tryz.f180.name,by kernel_rfl,Tryz.func180.trans (congrArg some (by kernel_rfl))⟩,
 f284:=by first | exact Tryz.func181.trans (congrArg some (by kernel_rfl)) | exact⟨Tryz.f181.name,by kernel_rfl,Tryz.func181.trans (congrArg some (by kernel_rfl))⟩,
 f285:=by first | exact Tryz.func182.trans (congrArg some (by kernel_rfl)) | exact⟨Tryz.f182.name,by kernel_rfl,Tryz.func182.trans (congrArg some (by kernel_rfl))⟩,
 f286:=by first | exact Tryz.func183.trans (congrArg some (by kernel_rfl)) | exact⟨Tryz.f183.name,by kernel_rfl,Tryz.func183.trans (congrArg some (by kernel_rfl))⟩,
 f287:=by first | exact Tryz.func216.trans (congrArg some (by kernel_rfl)) | exact⟨Tryz.f216.name,by kernel_rfl,Tryz.func216.trans (congrArg some (by kernel_rfl))⟩,
 f316:=by first | exact Tryz.func217.trans (congrArg some (by kernel_rfl)) | exact⟨Tryz.f217.name,by kernel_rfl,Tryz.func217.trans (congrArg some (by kernel_rfl))⟩,
 f317:=by first | exact Tryz.func195.trans (congrArg some (by kernel_rfl)) | exact⟨Tryz.f195.name,by kernel_rfl,Tryz.func195.trans (congrArg some (by kernel_rfl))⟩,
 f318:=by first | exact Tryz.func196.trans (congrArg some (by kernel_rfl)) | exact⟨Tryz.f196.name,by kernel_rfl,Tryz.func196.trans (congrArg some (by kernel_rfl))⟩,
 f319:=by first | exact Tryz.func197.trans (congrArg some (by kernel_rfl)) | exact⟨Tryz.f197.name,by kernel_rfl,Tryz.func197.trans (congrArg some (by kernel_rfl))⟩,
 f320:=by first | exact Tryz.func198.trans (congrArg some (by kernel_rfl)) | exact⟨Tryz.f198.name,by kernel_rfl,Tryz.func198.trans (congrArg some (by kernel_rfl))⟩,
 f321:=by first | exact Tryz.func219.trans (congrArg some (by kernel_rfl)) | exact⟨Tryz.f219.name,by kernel_rfl,Tryz.func219.trans (congrArg some (by kernel_rfl))⟩,
 f322:=by first | exact Tryz.func220.trans (congrArg some (by kernel_rfl)) | exact⟨Tryz.f220.name,by kernel_rfl,Tryz.func220.trans (congrArg some (by kernel_rfl))⟩,
 f337:=by first | exact Tryz.func212.trans (congrArg some (by kernel_rfl)) | exact⟨Tryz.f212.name,by kernel_rfl,Tryz.func212.trans (congrArg some (by kernel_rfl))⟩,
 f338:=by first | exact Tryz.func213.trans (congrArg some (by kernel_rfl)) | exact⟨Tryz.f213.name,by kernel_rfl,Tryz.func213.trans (congrArg some (by kernel_rfl))⟩,
 t0:=Tryz.underlying0,
 a0:=Tryz.isAgg0,
 z0:=Tryz.sizeOf0,
 v0:=Tryz.zeroValue0,
 t2:=Tryz.underlying2,
 a2:=Tryz.isAgg2,
 z2:=Tryz.sizeOf2,
 v2:=Tryz.zeroValue2,
 t3:=Tryz.underlying3,
 a3:=Tryz.isAgg3,
 z3:=Tryz.sizeOf3,
 v3:=Tryz.zeroValue3,
 t4:=Tryz.underlying4,
 a4:=Tryz.isAgg4,
 z4:=Tryz.sizeOf4,
 v4:=Tryz.zeroValue4,
 t5:=Tryz.underlying5,
 a5:=Tryz.isAgg5,
 z5:=Tryz.sizeOf5,
 v5:=Tryz.zeroValue5,
 t9:=Tryz.underlying9,
 a9:=Tryz.isAgg9,
 z9:=Tryz.sizeOf9,
 v9:=Tryz.zeroValue9,
 t20:=Tryz.underlying20,
 a20:=Tryz.isAgg20,
 z20:=Tryz.sizeOf20,
 v20:=Tryz.zeroValue20,
 t21:=Tryz.underlying21,
 a21:=Tryz.isAgg21,
 z21:=Tryz.sizeOf21,
 v21:=Tryz.zeroValue21,
 t37:=Tryz.underlying240,
 a37:=Tryz.isAgg240,
 z37:=Tryz.sizeOf240,
 v37:=Tryz.zeroValue240,
 t46:=Tryz.underlying116,
 a46:=Tryz.isAgg116,
 z46:=Tryz.sizeOf116,
 v46:=Tryz.zeroValue116,
 t51:=Tryz.underlying163,
 a51:=Tryz.isAgg163,
 z51:=Tryz.sizeOf163,
 v51:=Tryz.zeroValue163,
 t53:=Tryz.underlying49,
 a53:=Tryz.isAgg49,
 z53:=Tryz.sizeOf49,
 v53:=Tryz.zeroValue49,
 t75:=Tryz.underlying230,
 a75:=Tryz.isAgg230,
 z75:=Tryz.sizeOf230,
 v75:=Tryz.zeroValue230,
 t76:=Tryz.underlying231,
 a76:=Tryz.isAgg231,
 z76:=Tryz.sizeOf231,
 v76:=Tryz.zeroValue231,
 t85:=Tryz.underlying257,
 a85:=Tryz.isAgg257,
 z85:=Tryz.sizeOf257,
 v85:=Tryz.zeroValue257,
 t127:=Tryz.underlying278,
 a127:=Tryz.isAgg278,
 z127:=Tryz.sizeOf278,
 v127:=Tryz.zeroValue278,
 t143:=Tryz.underlying279,
 a143:=Tryz.isAgg279,
 z143:=Tryz.sizeOf279,
 v143:=Tryz.zeroValue279,
 t145:=Tryz.underlying281,
 a145:=Tryz.isAgg281,
 z145:=Tryz.sizeOf281,
 v145:=Tryz.zeroValue281,
 t167:=Tryz.underlying256,
 a167:=Tryz.isAgg256,
 z167:=Tryz.sizeOf256,
 v167:=Tryz.zeroValue256,
 t168:=Tryz.underlying259,
 a168:=Tryz.isAgg259,
 z168:=Tryz.sizeOf259,
 v168:=Tryz.zeroValue259,
 t171:=Tryz.underlying238,
 a171:=Tryz.isAgg238,
 z171:=Tryz.sizeOf238,
 v171:=Tryz.zeroValue238,
 t173:=Tryz.underlying241,
 a173:=Tryz.isAgg241,
 z173:=Tryz.sizeOf241,
 v173:=Tryz.zeroValue241,
 t175:=Tryz.underlying269,
 a175:=Tryz.isAgg269,
 z175:=Tryz.sizeOf269,
 v175:=Tryz.zeroValue269,
 t210:=Tryz.underlying273,
 a210:=Tryz.isAgg273,
 z210:=Tryz.sizeOf273,
 v210:=Tryz.zeroValue273,
 t212:=Tryz.underlying252,
 a212:=Tryz.isAgg252,
 z212:=Tryz.sizeOf252,
 v212:=Tryz.zeroValue252,
 t213:=Tryz.underlying253,
 a213:=Tryz.isAgg253,
 z213:=Tryz.sizeOf253,
 t232:=Tryz.underlying275,
 a232:=Tryz.isAgg275,
 z232:=Tryz.sizeOf275,
 v232:=Tryz.zeroValue275,
 t233:=Tryz.underlying276,
 a233:=Tryz.isAgg276,
 z233:=Tryz.sizeOf276,
 v233:=Tryz.zeroValue276,
 g15:=by kernel_rfl,
 g16:=by kernel_rfl,
 g17:=by kernel_rfl,
 g18:=by kernel_rfl,
 g19:=by kernel_rfl,
 t80:=Tryz.underlying282,
 a80:=Tryz.isAgg282,
 z80:=Tryz.sizeOf282,
 v80:=Tryz.zeroValue282,
 i0:=by kernel_rfl,
 i2:=by kernel_rfl,
 i3:=by kernel_rfl,
 i4:=by kernel_rfl,
 i5:=by kernel_rfl,
 i9:=by kernel_rfl,
 i20:=by kernel_rfl,
 i21:=by kernel_rfl,
 i37:=by kernel_rfl,
 i46:=by kernel_rfl,
 i51:=by kernel_rfl,
 i53:=by kernel_rfl,
 i75:=by kernel_rfl,
 i76:=by kernel_rfl,
 i80:=by kernel_rfl,
 i85:=by kernel_rfl,
 i127:=by kernel_rfl,
 i143:=by kernel_rfl,
 i145:=by kernel_rfl,
 i167:=by kernel_rfl,
 i168:=by kernel_rfl,
 i171:=by kernel_rfl,
 i173:=by kernel_rfl,
 i175:=by kernel_rfl,
 i210:=by kernel_rfl,
 i212:=by kernel_rfl,
 i232:=by kernel_rfl,
 i233:=by kernel_rfl,
 m15:=by kernel_rfl,
 m16:=by kernel_rfl,
 m17:=by kernel_rfl,
 m18:=by kernel_rfl,
 m19:=by kernel_rfl,
 c0:=by kernel_rfl,
 c2:=by kernel_rfl,
 c3:=by kernel_rfl,
 c4:=by kernel_rfl,
 c5:=by kernel_rfl,
 c9:=by kernel_rfl,
 c20:=by kernel_rfl,
 c21:=by kernel_rfl,
 c37:=by kernel_rfl,
 c46:=by kernel_rfl,
 c51:=by kernel_rfl,
 c53:=by kernel_rfl,
 c75:=by kernel_rfl,
 c76:=by kernel_rfl,
 c80:=by kernel_rfl,
 c85:=by kernel_rfl,
 c127:=by kernel_rfl,
 c143:=by kernel_rfl,
 c145:=by kernel_rfl,
 c167:=by kernel_rfl,
 c168:=by kernel_rfl,
 c171:=by kernel_rfl,
 c173:=by kernel_rfl,
 c175:=by kernel_rfl,
 c210:=by kernel_rfl,
 c212:=by kernel_rfl,
 c213:=by kernel_rfl,
 c232:=by kernel_rfl,
 c233:=by kernel_rfl }
def zj7f:Go.Shelf.Ren:=⟨fun | 138=>185 | 143=>186 | 146=>148 | 195=>199 | 197=>189 | 217=>71 | 218=>200 | 219=>187 | 221=>163 | 224=>202 | 225=>201 | 260=>204 | 266=>102 | 267=>203 | 268=>184 | 314=>214 | n=>n,fun | 31=>104 | 46=>116 | 51=>163 | 105=>246 | 119=>264 | 138=>266 | 139=>267 | 146=>262 | n=>n,fun | 1=>2 | 3=>4 | 4=>5 | n=>n⟩
theorem laySplit:Go.Proofs.Lays.n146 Tryz.prog zj7f:={
 mixed:=by kernel_rfl,
 f138:=by first | exact Tryz.func185.trans (congrArg some (by kernel_rfl)) | exact⟨Tryz.f185.name,by kernel_rfl,Tryz.func185.trans (congrArg some (by kernel_rfl))⟩,
 f143:=by first | exact Tryz.func186.trans (congrArg some (by kernel_rfl)) | exact⟨Tryz.f186.name,by kernel_rfl,Tryz.func186.trans (congrArg some (by kernel_rfl))⟩,
 f146:=by first | exact Tryz.func148.trans (congrArg some (by kernel_rfl)) | exact⟨Tryz.f148.name,by kernel_rfl,Tryz.func148.trans (congrArg some (by kernel_rfl))⟩,
 f195:=by first | exact Tryz.func199.trans (congrArg some (by kernel_rfl)) | exact⟨Tryz.f199.name,by kernel_rfl,Tryz.func199.trans (congrArg some (by kernel_rfl))⟩,
 f197:=by first | exact Tryz.func189.trans (congrArg some (by kernel_rfl)) | exact⟨Tryz.f189.name,by kernel_rfl,Tryz.func189.trans (congrArg some (by kernel_rfl))⟩,
 f217:=by first | exact Tryz.func71.trans (congrArg some (by kernel_rfl)) | exact⟨Tryz.f71.name,by kernel_rfl,Tryz.func71.trans (congrArg some (by kernel_rfl))⟩,
 f218:=by first | exact Tryz.func200.trans (congrArg some (by kernel_rfl)) | exact⟨Tryz.f200.name,by kernel_rfl,Tryz.func200.trans (congrArg some (by kernel_rfl))⟩,
 f219:=by first | exact Tryz.func187.trans (congrArg some (by kernel_rfl)) | exact⟨Tryz.f187.name,by kernel_rfl,Tryz.func187.trans (congrArg some (by kernel_rfl))⟩,
 f221:=by first | exact Tryz.func163.trans (congrArg some (by kernel_rfl)) | exact⟨Tryz.f163.name,by kernel_rfl,Tryz.func163.trans (congrArg some (by kernel_rfl))⟩,
 f224:=by first | exact Tryz.func202.trans (congrArg some (by kernel_rfl)) | exact⟨Tryz.f202.name,by kernel_rfl,Tryz.func202.trans (congrArg some (by kernel_rfl))⟩,
 f225:=by first | exact Tryz.func201.trans (congrArg some (by kernel_rfl)) | exact⟨Tryz.f201.name,by kernel_rfl,Tryz.func201.trans (congrArg some (by kernel_rfl))⟩,
 f260:=by first | exact Tryz.func204.trans (congrArg some (by kernel_rfl)) | exact⟨Tryz.f204.name,by kernel_rfl,Tryz.func204.trans (congrArg some (by kernel_rfl))⟩,
 f266:=by first | exact Tryz.func102.trans (congrArg some (by kernel_rfl)) | exact⟨Tryz.f102.name,by kernel_rfl,Tryz.func102.trans (congrArg some (by kernel_rfl))⟩,
 f267:=by first | exact Tryz.func203.trans (congrArg some (by kernel_rfl)) | exact⟨Tryz.f203.name,by kernel_rfl,Tryz.func203.trans (congrArg some (by kernel_rfl))⟩,
 f268:=by first | exact Tryz.func184.trans (congrArg some (by kernel_rfl)) | exact⟨Tryz.f184.name,by kernel_rfl,Tryz.func184.trans (congrArg some (by kernel_rfl))⟩,
 f314:=by first | exact Tryz.func214.trans (congrArg some (by kernel_rfl)) | exact⟨Tryz.f214.name,by kernel_rfl,Tryz.func214.trans (congrArg some (by kernel_rfl))⟩,
 t0:=Tryz.underlying0,
 a0:=Tryz.isAgg0,
 z0:=Tryz.sizeOf0,
 v0:=Tryz.zeroValue0,
 t3:=Tryz.underlying3,
 a3:=Tryz.isAgg3,
 z3:=Tryz.sizeOf3,
 v3:=Tryz.zeroValue3,
 t4:=Tryz.underlying4,
 a4:=Tryz.isAgg4,
 z4:=Tryz.sizeOf4,
 v4:=Tryz.zeroValue4,
 t5:=Tryz.underlying5,
 a5:=Tryz.isAgg5,
 z5:=Tryz.sizeOf5,
 v5:=Tryz.zeroValue5,
 t9:=Tryz.underlying9,
 a9:=Tryz.isAgg9,
 z9:=Tryz.sizeOf9,
 v9:=Tryz.zeroValue9,
 t21:=Tryz.underlying21,
 a21:=Tryz.isAgg21,
 z21:=Tryz.sizeOf21,
 v21:=Tryz.zeroValue21,
 t31:=Tryz.underlying104,
 a31:=Tryz.isAgg104,
 z31:=Tryz.sizeOf104,
 v31:=Tryz.zeroValue104,
 t46:=Tryz.underlying116,
 a46:=Tryz.isAgg116,
 z46:=Tryz.sizeOf116,
 v46:=Tryz.zeroValue116,
 t51:=Tryz.underlying163,
 a51:=Tryz.isAgg163,
 z51:=Tryz.sizeOf163,
 v51:=Tryz.zeroValue163,
 t105:=Tryz.underlying246,
 a105:=Tryz.isAgg246,
 z105:=Tryz.sizeOf246,
 v105:=Tryz.zeroValue246,
 t119:=Tryz.underlying264,
 a119:=Tryz.isAgg264,
 z119:=Tryz.sizeOf264,
 t138:=Tryz.underlying266,
 a138:=Tryz.isAgg266,
 z138:=Tryz.sizeOf266,
 v138:=Tryz.zeroValue266,
 t139:=Tryz.underlying267,
 a139:=Tryz.isAgg267,
 z139:=Tryz.sizeOf267,
 v139:=Tryz.zeroValue267,
 t146:=Tryz.underlying262,
 a146:=Tryz.isAgg262,
 z146:=Tryz.sizeOf262,
 v146:=Tryz.zeroValue262,
 g1:=by kernel_rfl,
 g3:=by kernel_rfl,
 g4:=by kernel_rfl }
def layCut_ren:Go.Shelf.Ren:=⟨fun | 145=>149 | 217=>71 | 219=>187 | 220=>164 | 224=>202 | 225=>201 | 266=>102 | 267=>203 | 314=>214 | n=>n,fun | 46=>116 | 51=>163 | 59=>208 | 146=>262 | n=>n,fun | 1=>2 | n=>n⟩
theorem layCut:Go.Proofs.Lays.n145 Tryz.prog layCut_ren:={
 mixed:=by kernel_rfl,
 f145:=by first | exact Tryz.func149.trans (congrArg some (by kernel_rfl)) | exact⟨Tryz.f149.name,by kernel_rfl,Tryz.func149.trans (congrArg some (by kernel_rfl))⟩,
 f217:=by first | exact Tryz.func71.trans (congrArg some (by kernel_rfl)) | exact⟨Tryz.f71.name,by kernel_rfl,Tryz.func71.trans (congrArg some (by kernel_rfl))⟩,
 f219:=by first | exact Tryz.func187.trans (congrArg some (by kernel_rfl)) | exact⟨Tryz.f187.name,by kernel_rfl,Tryz.func187.trans (congrArg some (by kernel_rfl))⟩,
 f220:=by first | exact Tryz.func164.trans (congrArg some (by kernel_rfl)) | exact⟨Tryz.f164.name,by kernel_rfl,Tryz.func164.trans (congrArg some (by kernel_rfl))⟩,
 f224:=by first | exact Tryz.func202.trans (congrArg some (by kernel_rfl)) | exact⟨Tryz.f202.name,by kernel_rfl,Tryz.func202.trans (congrArg some (by kernel_rfl))⟩,
 f225:=by first | exact Tryz.func201.trans (congrArg some (by kernel_rfl)) | exact⟨Tryz.f201.name,by kernel_rfl,Tryz.func201.trans (congrArg some (by kernel_rfl))⟩,
 f266:=by first | exact Tryz.func102.trans (congrArg some (by kernel_rfl)) | exact⟨Tryz.f102.name,by kernel_rfl,Tryz.func102.trans (congrArg some (by kernel_rfl))⟩,
 f267:=by first | exact Tryz.func203.trans (congrArg some (by kernel_rfl)) | exact⟨Tryz.f203.name,by kernel_rfl,Tryz.func203.trans (congrArg some (by kernel_rfl))⟩,
 f314:=by first | exact Tryz.func214.trans (congrArg some (by kernel_rfl)) | exact⟨Tryz.f214.name,by kernel_rfl,Tryz.func214.trans (congrArg some (by kernel_rfl))⟩,
 t3:=Tryz.underlying3,
 a3:=Tryz.isAgg3,
 z3:=Tryz.sizeOf3,
 v3:=Tryz.zeroValue3,
 t4:=Tryz.underlying4,
 a4:=Tryz.isAgg4,
 z4:=Tryz.sizeOf4,
 v4:=Tryz.zeroValue4,
 t5:=Tryz.underlying5,
 a5:=Tryz.isAgg5,
 z5:=Tryz.sizeOf5,
 v5:=Tryz.zeroValue5,
 t9:=Tryz.underlying9,
 a9:=Tryz.isAgg9,
 z9:=Tryz.sizeOf9,
 v9:=Tryz.zeroValue9,
 t46:=Tryz.underlying116,
 a46:=Tryz.isAgg116,
 z46:=Tryz.sizeOf116,
 v46:=Tryz.zeroValue116,
 t51:=Tryz.underlying163,
 a51:=Tryz.isAgg163,
 z51:=Tryz.sizeOf163,
 v51:=Tryz.zeroValue163,
 t59:=Tryz.underlying208,
 a59:=Tryz.isAgg208,
 z59:=Tryz.sizeOf208,
 v59:=Tryz.zeroValue208,
 t146:=Tryz.underlying262,
 a146:=Tryz.isAgg262,
 z146:=Tryz.sizeOf262,
 v146:=Tryz.zeroValue262,
 g1:=by kernel_rfl }
def layTrim_ren:Go.Shelf.Ren:=⟨fun | 119=>215 | 120=>206 | 137=>38 | 151=>190 | 152=>205 | 160=>150 | 197=>189 | 217=>71 | 224=>202 | 225=>201 | 227=>167 | 228=>188 | 231=>165 | 232=>166 | 233=>168 | 234=>169 | 235=>170 | 236=>171 | 260=>204 | 266=>102 | 271=>191 | n=>n,fun | 46=>116 | 105=>246 | 116=>223 | 117=>224 | 119=>264 | 124=>227 | 138=>266 | 139=>267 | n=>n,fun | 3=>4 | 4=>5 | n=>n⟩
theorem layTrim:Go.Proofs.Lays.n160 Tryz.prog layTrim_ren:={
 mixed:=by kernel_rfl,
 f119:=by first | exact Tryz.func215.trans (congrArg some (by kernel_rfl)) | exact⟨Tryz.f215.name,by kernel_rfl,Tryz.func215.trans (congrArg some (by kernel_rfl))⟩,
 f120:=by first | exact Tryz.func206.trans (congrArg some (by kernel_rfl)) | exact⟨Tryz.f206.name,by kernel_rfl,Tryz.func206.trans (congrArg some (by kernel_rfl))⟩,
 f137:=by first | exact Tryz.func38.trans (congrArg some (by kernel_rfl)) | exact⟨Tryz.f38.name,by kernel_rfl,Tryz.func38.trans (congrArg some (by kernel_rfl))⟩,
 f151:=by first | exact Tryz.func190.trans (congrArg some (by kernel_rfl)) | exact⟨Tryz.f190.name,by kernel_rfl,Tryz.func190.trans (congrArg some (by kernel_rfl))⟩,
 f152:=by first | exact Tryz.func205.trans (congrArg some (by kernel_rfl)) | exact⟨Tryz.f205.name,by kernel_rfl,Tryz.func205.trans (congrArg some (by kernel_rfl))⟩,
 f160:=by first | exact Tryz.func150.trans (congrArg some (by kernel_rfl)) | exact⟨Tryz.f150.name,by kernel_rfl,Tryz.func150.trans (congrArg some (by kernel_rfl))⟩,
 f197:=by first | exact Tryz.func189.trans (congrArg some (by kernel_rfl)) | exact⟨Tryz.f189.name,by kernel_rfl,Tryz.func189.trans (congrArg some (by kernel_rfl))⟩,
 f217:=by first | exact Tryz.func71.trans (congrArg some (by kernel_rfl)) | exact⟨Tryz.f71.name,by kernel_rfl,Tryz.func71.trans (congrArg some (by kernel_rfl))⟩,
 f224:=by first | exact Tryz.func202.trans (congrArg some (by kernel_rfl)) | exact⟨Tryz.f202.name,by kernel_rfl,Tryz.func202.trans (congrArg some (by kernel_rfl))⟩,
 f225:=by first | exact Tryz.func201.trans (congrArg some (by kernel_rfl)) | exact⟨Tryz.f201.name,by kernel_rfl,Tryz.func201.trans (congrArg some (by kernel_rfl))⟩,
 f227:=by first | exact Tryz.func167.trans (congrArg some (by kernel_rfl)) | exact⟨Tryz.f167.name,by kernel_rfl,Tryz.func167.trans (congrArg some (by kernel_rfl))⟩,
 f228:=by first | exact Tryz.func188.trans (congrArg some (by kernel_rfl)) | exact⟨Tryz.f188.name,by kernel_rfl,Tryz.func188.trans (congrArg some (by kernel_rfl))⟩,
 f231:=by first | exact Tryz.func165.trans (congrArg some (by kernel_rfl)) | exact⟨Tryz.f165.name,by kernel_rfl,Tryz.func165.trans (congrArg some (by kernel_rfl))⟩,
 f232:=by first | exact Tryz.func166.trans (congrArg some (by kernel_rfl)) | exact⟨Tryz.f166.name,by kernel_rfl,Tryz.func166.trans (congrArg some (by kernel_rfl))⟩,
 f233:=by first | exact Tryz.func168.trans (congrArg some (by kernel_rfl)) | exact⟨Tryz.f168.name,by kernel_rfl,Tryz.func168.trans (congrArg some (by kernel_rfl))⟩,
 f234:=by first | exact Tryz.func169.trans (congrArg some (by kernel_rfl)) | exact⟨Tryz.f169.name,by kernel_rfl,Tryz.func169.trans (congrArg some (by kernel_rfl))⟩,
 f235:=by first | exact Tryz.func170.trans (congrArg some (by kernel_rfl)) | exact⟨Tryz.f170.name,by kernel_rfl,Tryz.func170.trans (congrArg some (by kernel_rfl))⟩,
 f236:=by first | exact Tryz.func171.trans (congrArg some (by kernel_rfl)) | exact⟨Tryz.f171.name,by kernel_rfl,Tryz.func171.trans (congrArg some (by kernel_rfl))⟩,
 f260:=by first | exact Tryz.func204.trans (congrArg some (by kernel_rfl)) | exact⟨Tryz.f204.name,by kernel_rfl,Tryz.func204.trans (congrArg some (by kernel_rfl))⟩,
 f266:=by first | exact Tryz.func102.trans (congrArg some (by kernel_rfl)) | exact⟨Tryz.f102.name,by kernel_rfl,Tryz.func102.trans (congrArg some (by kernel_rfl))⟩,
 f271:=by first | exact Tryz.func191.trans (congrArg some (by kernel_rfl)) | exact⟨Tryz.f191.name,by kernel_rfl,Tryz.func191.trans (congrArg some (by kernel_rfl))⟩,
 t0:=Tryz.underlying0,
 a0:=Tryz.isAgg0,
 z0:=Tryz.sizeOf0,
 v0:=Tryz.zeroValue0,
 t3:=Tryz.underlying3,
 a3:=Tryz.isAgg3,
 z3:=Tryz.sizeOf3,
 v3:=Tryz.zeroValue3,
 t4:=Tryz.underlying4,
 a4:=Tryz.isAgg4,
 z4:=Tryz.sizeOf4,
 v4:=Tryz.zeroValue4,
 t5:=Tryz.underlying5,
 a5:=Tryz.isAgg5,
 z5:=Tryz.sizeOf5,
 v5:=Tryz.zeroValue5,
 t9:=Tryz.underlying9,
 a9:=Tryz.isAgg9,
 z9:=Tryz.sizeOf9,
 v9:=Tryz.zeroValue9,
 t21:=Tryz.underlying21,
 a21:=Tryz.isAgg21,
 z21:=Tryz.sizeOf21,
 v21:=Tryz.zeroValue21,
 t46:=Tryz.underlying116,
 a46:=Tryz.isAgg116,
 z46:=Tryz.sizeOf116,
 v46:=Tryz.zeroValue116,
 t105:=Tryz.underlying246,
 a105:=Tryz.isAgg246,
 z105:=Tryz.sizeOf246,
 v105:=Tryz.zeroValue246,
 t116:=Tryz.underlying223,
 a116:=Tryz.isAgg223,
 z116:=Tryz.sizeOf223,
 t117:=Tryz.underlying224,
 a117:=Tryz.isAgg224,
 z117:=Tryz.sizeOf224,
 v117:=Tryz.zeroValue224,
 t119:=Tryz.underlying264,
 a119:=Tryz.isAgg264,
 z119:=Tryz.sizeOf264,
 t124:=Tryz.underlying227,
 a124:=Tryz.isAgg227,
 z124:=Tryz.sizeOf227,
 v124:=Tryz.zeroValue227,
 t138:=Tryz.underlying266,
 a138:=Tryz.isAgg266,
 z138:=Tryz.sizeOf266,
 v138:=Tryz.zeroValue266,
 t139:=Tryz.underlying267,
 a139:=Tryz.isAgg267,
 z139:=Tryz.sizeOf267,
 v139:=Tryz.zeroValue267,
 g3:=by kernel_rfl,
 g4:=by kernel_rfl }
def laySuf_ren:Go.Shelf.Ren:=⟨fun | 104=>126 | 207=>172 | 211=>151 | n=>n,fun | 24=>69 | n=>n,fun | n=>n⟩
theorem laySuf:Go.Proofs.Lays.n104 Tryz.prog laySuf_ren:={
 mixed:=by kernel_rfl,
 f104:=by first | exact Tryz.func126.trans (congrArg some (by kernel_rfl)) | exact⟨Tryz.f126.name,by kernel_rfl,Tryz.func126.trans (congrArg some (by kernel_rfl))⟩,
 f207:=by first | exact Tryz.func172.trans (congrArg some (by kernel_rfl)) | exact⟨Tryz.f172.name,by kernel_rfl,Tryz.func172.trans (congrArg some (by kernel_rfl))⟩,
 f211:=by first | exact Tryz.func151.trans (congrArg some (by kernel_rfl)) | exact⟨Tryz.f151.name,by kernel_rfl,Tryz.func151.trans (congrArg some (by kernel_rfl))⟩,
 t3:=Tryz.underlying3,
 a3:=Tryz.isAgg3,
 z3:=Tryz.sizeOf3,
 v3:=Tryz.zeroValue3,
 t4:=Tryz.underlying4,
 a4:=Tryz.isAgg4,
 z4:=Tryz.sizeOf4,
 v4:=Tryz.zeroValue4,
 t9:=Tryz.underlying9,
 a9:=Tryz.isAgg9,
 z9:=Tryz.sizeOf9,
 v9:=Tryz.zeroValue9,
 t24:=Tryz.underlying69,
 a24:=Tryz.isAgg69,
 z24:=Tryz.sizeOf69,
 v24:=Tryz.zeroValue69 }
def layPre_ren:Go.Shelf.Ren:=⟨fun | 99=>156 | 206=>178 | n=>n,fun | n=>n,fun | n=>n⟩
theorem layPre:Go.Proofs.Lays.n99 Tryz.prog layPre_ren:={
 mixed:=by kernel_rfl,
 f99:=by first | exact Tryz.func156.trans (congrArg some (by kernel_rfl)) | exact⟨Tryz.f156.name,by kernel_rfl,Tryz.func156.trans (congrArg some (by kernel_rfl))⟩,
 f206:=by first | exact Tryz.func178.trans (congrArg some (by kernel_rfl)) | exact⟨Tryz.f178.name,by kernel_rfl,Tryz.func178.trans (congrArg some (by kernel_rfl))⟩,
 t3:=Tryz.underlying3,
 a3:=Tryz.isAgg3,
 z3:=Tryz.sizeOf3,
 v3:=Tryz.zeroValue3,
 t4:=Tryz.underlying4,
 a4:=Tryz.isAgg4,
 z4:=Tryz.sizeOf4,
 v4:=Tryz.zeroValue4,
 t9:=Tryz.underlying9,
 a9:=Tryz.isAgg9,
 z9:=Tryz.sizeOf9,
 v9:=Tryz.zeroValue9 }
def layLast_ren:Go.Shelf.Ren:=⟨fun | 149=>154 | 222=>177 | n=>n,fun | n=>n,fun | n=>n⟩
theorem layLast:Go.Proofs.Lays.n149 Tryz.prog layLast_ren:={
 mixed:=by kernel_rfl,
 f149:=by first | exact Tryz.func154.trans (congrArg some (by kernel_rfl)) | exact⟨Tryz.f154.name,by kernel_rfl,Tryz.func154.trans (congrArg some (by kernel_rfl))⟩,
 f222:=by first | exact Tryz.func177.trans (congrArg some (by kernel_rfl)) | exact⟨Tryz.f177.name,by kernel_rfl,Tryz.func177.trans (congrArg some (by kernel_rfl))⟩,
 t3:=Tryz.underlying3,
 a3:=Tryz.isAgg3,
 z3:=Tryz.sizeOf3,
 v3:=Tryz.zeroValue3,
 t4:=Tryz.underlying4,
 a4:=Tryz.isAgg4,
 z4:=Tryz.sizeOf4,
 v4:=Tryz.zeroValue4,
 t5:=Tryz.underlying5,
 a5:=Tryz.isAgg5,
 z5:=Tryz.sizeOf5,
 v5:=Tryz.zeroValue5,
 t9:=Tryz.underlying9,
 a9:=Tryz.isAgg9,
 z9:=Tryz.sizeOf9,
 v9:=Tryz.zeroValue9 }
def TabAt (w : World) : Prop := Lib.TabIs Tryz.prog w "internal/strconv.uint64pow10" .u64 Lib.pow10Tab
theorem gTab : Tryz.prog.globalNamed "internal/strconv.uint64pow10" = some 3 := by kernel_rfl
theorem TabAt.keep {w w':World} (h:TabAt w) (k:Fresh w w'):TabAt w':=by
 unfold TabAt Lib.TabIs World.var? at *
 rw[gTab] at h ⊢
 simp only[Option.bind_some] at h ⊢
 have hlt:3 < w.heap.size:=by
  by_cases hl:3 < w.heap.size
  ·exact hl
  ·rw[Array.getElem?_eq_none (by omega)] at h; cases h
 rw[k.block 3 hlt]; exact h
theorem fresh_grow (w:World) (k:Nat) (os:Array Obj):Fresh w (Sort.grow (w.drewN k) os) :=
 ⟨rfl,rfl,rfl,by simp[Sort.grow,World.drewN],fun j hj=>by
  show (w.heap++os)[j]? = w.heap[j]?
  rw[Array.getElem?_append_left hj]⟩
theorem itoa41 (n:Int) (w:World) (h0 : -9223372036854775808≤n) (h1:n≤9223372036854775807) (hT:TabAt w):CallsV Tryz.prog 101 [.int .i64 n] w fun v w'=>v=.string ⟨⟨Lib.itoa n⟩⟩∧Fresh w w':=by
 refine Calls.mono (Any.strconv_Itoa layItoa n h0 h1 w hT) fun e w' he=>?_
 obtain⟨rfl,k,os,rfl⟩:=he
 exact⟨rfl,fresh_grow w k os⟩
theorem zj44 {w w':World} {g:Nat} {v:Value} (h:w.cell? ⟨g,0,none⟩=some v) (k:Fresh w w'):w'.cell? ⟨g,0,none⟩=some v:=by
 refine (cell_keep k ?_).trans h
 unfold World.cell? at h
 split at h
 ·rename_i e; exact (Array.getElem?_eq_some_iff.1 e).1
 ·cases h
structure LibAt (w:World):Prop where
 max:∃ m,w.cell? ⟨2,0,none⟩=some (.int .i64 m)
 syn:∃ t p,w.cell? ⟨6,0,none⟩=some (.iface t p)
 rng:∃ t p,w.cell? ⟨7,0,none⟩=some (.iface t p)
theorem LibAt.keep {w w':World} (h:LibAt w) (k:Fresh w w'):LibAt w':=by
 obtain⟨⟨m,h1⟩,⟨t,p,h2⟩,⟨t',p',h3⟩⟩:=h
 exact⟨⟨m,zj44 h1 k⟩,⟨t,p,zj44 h2 k⟩,⟨t',p',zj44 h3 k⟩⟩
theorem zj33 {w w':World} (h:RowKit.Below w.heap.size w w'):Fresh w w':=⟨h.1,h.2,h.3,h.4,h.5⟩
theorem atoi36 (s:ByteArray) (w:World) (hs:s.size≤1000000) (hL:LibAt w):CallsV Tryz.prog 175 [.string s] w fun v w' =>
  (∃ n t p,v=.tuple #[.int .i64 n,.iface t p]∧(∀ z,Lib.atoiAll s.data.toList ≠ .ok z))∧Fresh w w'∨(∃ n,v=.tuple #[.int .i64 n,.nilIface]∧Lib.atoiAll s.data.toList=.ok n)∧Fresh w w':=by
 obtain⟨_,⟨t,p,h2⟩,⟨t',p',h3⟩⟩:=hL
 cases h:Lib.atoiAll s.data.toList
 ·rename_i n
  refine Calls.mono (Any.strconv_Atoi_ok layAtoi s (by omega) n h w) fun e w' he=>?_
  obtain⟨rfl,he⟩:=he
  refine .inr ⟨⟨n,rfl,rfl⟩,?_⟩
  rcases he with rfl | ⟨x,rfl⟩
  ·exact Fresh.refl _
  ·refine⟨rfl,rfl,rfl,?_,fun j hj=>?_⟩
   ·unfold Lib.bytesWorld World.freeze
    rw[if_neg (by decide)]; simp
   ·unfold Lib.bytesWorld World.freeze
    rw[if_neg (by decide)]
    simp only[Array.getElem?_modify]
    rw[if_neg (by show ¬ w.heap.size=j; omega)]
    exact Go.RowKit.Below.heap_alloc w.drew _ j hj
 ·refine Calls.mono (Any.strconv_Atoi_syntax layAtoi s (by omega) h _ w h2 (.inr ⟨t,p,rfl⟩)) fun e w' he=>?_
  obtain⟨N,rfl,_,_,hb⟩:=he
  exact .inl ⟨⟨_,_,_,rfl,by simp⟩,zj33 hb⟩
 ·refine Calls.mono (Any.strconv_Atoi_range layAtoi s (by omega) h _ w h3 (.inr ⟨t',p',rfl⟩)) fun e w' he=>?_
  obtain⟨N,rfl,_,_,hb⟩:=he
  exact .inl ⟨⟨_,_,_,rfl,by simp⟩,zj33 hb⟩
theorem split34 (s:ByteArray) (w:World) (hs:s.size≤1000000) (hL:LibAt w):CallsV Tryz.prog 148 [.string s,.string ⟨⟨[32]⟩⟩] w fun v w' =>
  World.ownsB w' w.heap.size 9 1 v (Lib.countB s ⟨⟨[32]⟩⟩+1) ((Lib.splitB ⟨⟨[32]⟩⟩ 0 (Lib.countB s ⟨⟨[32]⟩⟩) s).map Value.string)∧Fresh w w':=by
 obtain⟨⟨m,h1⟩,_,_⟩:=hL
 refine Calls.mono (Any.strings_Split laySplit (by kernel_rfl) s ⟨⟨[32]⟩⟩ m w (by omega) h1 (by decide)) fun e w' he=>?_
 obtain⟨rfl,rfl⟩:=he
 have hlen:=Lib.splitB_all ⟨⟨[32]⟩⟩ (by decide) 0 _ s rfl
 refine⟨ownsB_row ⟨by rw[List.length_map,hlen]; omega,.inr ⟨w.heap.size,Lib.countB s ⟨⟨[32]⟩⟩+1,((Lib.splitB ⟨⟨[32]⟩⟩ 0 (Lib.countB s ⟨⟨[32]⟩⟩) s).map Value.string).toArray,rfl,Nat.le_refl _,heap_alloc_new w _,Nat.le_refl _,?_,?_,?_⟩⟩,⟨rfl,rfl,rfl,by simp,fun j hj=>Go.RowKit.Below.heap_alloc w _ j hj⟩⟩
 ·have:=Lib.countB_le ⟨⟨[32]⟩⟩ (by decide) s.size s (Nat.le_refl _)
  simp[maxLen]; omega
 ·simp[hlen]
 ·rw[List.take_of_length_le (by simp[hlen])]
theorem splitN (s:ByteArray) (w:World) (hs:s.size≤1000000) (hL:LibAt w):CallsV Tryz.prog 148 [.string s,.string ⟨⟨[10]⟩⟩] w fun v w' =>
  World.ownsB w' w.heap.size 9 1 v (Lib.countB s ⟨⟨[10]⟩⟩+1) ((Lib.splitB ⟨⟨[10]⟩⟩ 0 (Lib.countB s ⟨⟨[10]⟩⟩) s).map Value.string)∧Fresh w w':=by
 obtain⟨⟨m,h1⟩,_,_⟩:=hL
 refine Calls.mono (Any.strings_Split laySplit (by kernel_rfl) s ⟨⟨[10]⟩⟩ m w (by omega) h1 (by decide)) fun e w' he=>?_
 obtain⟨rfl,rfl⟩:=he
 have hlen:=Lib.splitB_all ⟨⟨[10]⟩⟩ (by decide) 0 _ s rfl
 refine⟨ownsB_row ⟨by rw[List.length_map,hlen]; omega,.inr ⟨w.heap.size,Lib.countB s ⟨⟨[10]⟩⟩+1,((Lib.splitB ⟨⟨[10]⟩⟩ 0 (Lib.countB s ⟨⟨[10]⟩⟩) s).map Value.string).toArray,rfl,Nat.le_refl _,heap_alloc_new w _,Nat.le_refl _,?_,?_,?_⟩⟩,⟨rfl,rfl,rfl,by simp,fun j hj=>Go.RowKit.Below.heap_alloc w _ j hj⟩⟩
 ·have:=Lib.countB_le ⟨⟨[10]⟩⟩ (by decide) s.size s (Nat.le_refl _)
  simp[maxLen]; omega
 ·simp[hlen]
 ·rw[List.take_of_length_le (by simp[hlen])]
theorem fresh_drew (w:World) (k:Nat):Fresh w (w.drewN k):=⟨rfl,rfl,rfl,by simp[World.drewN],fun j hj=>rfl⟩
theorem cutC (s p:B) (w:World) (hs:s.length≤1000000) (hL:LibAt w):CallsV Tryz.prog 149 [.string ⟨⟨s⟩⟩,.string ⟨⟨p⟩⟩] w fun v w'=>v=.tuple #[.string ⟨⟨(Lib.cut s p).1⟩⟩,.string ⟨⟨(Lib.cut s p).2.1⟩⟩,.bool (Lib.cut s p).2.2]∧Fresh w w':=by
 obtain⟨⟨m,h1⟩,_,_⟩:=hL
 refine Calls.mono (Any.strings_Cut layCut ⟨⟨s⟩⟩ ⟨⟨p⟩⟩ m w (by show s.length < _; omega) h1) fun e w' he=>?_
 obtain⟨rfl,n,rfl⟩:=he
 exact⟨rfl,fresh_drew w n⟩
theorem trimC (s:B) (w:World) (hs:s.length≤1000000):CallsV Tryz.prog 150 [.string ⟨⟨s⟩⟩,.string ⟨⟨[32,9]⟩⟩] w fun v w'=>v=.string ⟨⟨trimBl s⟩⟩∧Fresh w w':=by
 refine Calls.mono (Any.strings_Trim_laid layTrim (by kernel_rfl) ⟨⟨s⟩⟩ ⟨⟨[32,9]⟩⟩ w (by show s.length≤_; omega) (by decide) (ascii_of_all (by decide))) fun e w' he=>?_
 obtain⟨rfl,hb⟩:=he
 refine⟨?_,zj33 hb⟩
 show Value.string ⟨(Lib.trimS s [32,9]).toArray⟩=_
 rw[trim_bl]
theorem sufC (s p:B) (w:World) (hs:s.length≤1000000):CallsV Tryz.prog 126 [.string ⟨⟨s⟩⟩,.string ⟨⟨p⟩⟩] w fun v w'=>v=.tuple #[.string ⟨⟨Lib.trimSuffix s p⟩⟩,.bool (Lib.hasSuffix s p)]∧Fresh w w':=by
 refine Calls.mono (Any.strings_CutSuffix laySuf ⟨⟨s⟩⟩ ⟨⟨p⟩⟩ w (by show s.length≤_; omega)) fun e w' he=>?_
 obtain⟨rfl,rfl⟩:=he
 exact⟨rfl,Fresh.refl _⟩
theorem preC (s p:B) (w:World):CallsV Tryz.prog 156 [.string ⟨⟨s⟩⟩,.string ⟨⟨p⟩⟩] w fun v w'=>v=.bool (Lib.hasPrefix s p)∧Fresh w w':=by
 refine Calls.mono (Any.strings_HasPrefix layPre ⟨⟨s⟩⟩ ⟨⟨p⟩⟩ w) fun e w' he=>?_
 obtain⟨rfl,rfl⟩:=he
 exact⟨rfl,Fresh.refl _⟩
theorem lastC (s:B) (c:Int) (w:World) (hs:s.length≤1000000):CallsV Tryz.prog 154 [.string ⟨⟨s⟩⟩,.int .u8 c] w fun v w'=>v=.int .i64 (Lib.lastIndexByte ⟨⟨s⟩⟩ c)∧Fresh w w':=by
 refine Calls.mono (Any.strings_LastIndexByte layLast ⟨⟨s⟩⟩ c (by show s.length < _; omega) w) fun e w' he=>?_
 obtain⟨rfl,rfl⟩:=he
 exact⟨rfl,Fresh.refl _⟩
end Go.Proofs.YtlbiogokpadaoaaGreatDoor
