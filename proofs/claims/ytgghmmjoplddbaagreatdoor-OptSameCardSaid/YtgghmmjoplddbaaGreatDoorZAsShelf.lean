/- The kit's shelf contracts of strconv.Itoa, Atoi, strings.Split, Cut, Trim, CutSuffix, HasPrefix, LastIndexByte, laid at this program (the texts printed by tools/ShText). -/
import Derived.Shelf.Strconv.Itoa3
import Derived.Shelf.Strconv.AtoiAll
import Derived.Shelf.Strings.Split
import Derived.Shelf.Strings.Cut
import Derived.Shelf.Strings.SlTrimAscii
import Derived.Shelf.Small.Wraps
import Derived.Shelf.Strings.Prefix
import Derived.Shelf.Strings.LastIndex
import Derived.Shelf.Strconv.ErrVarAll
import Derived.Test.YtgghmmjoplddbaaGreatDoorProg
import Derived.Test.YtgghmmjoplddbaaGreatDoorIsaSpec
import Derived.KernelRfl
set_option linter.unusedSimpArgs false
set_option linter.unusedVariables false
set_option linter.unnecessarySimpa false
namespace Go.Proofs.YtgghmmjoplddbaaGreatDoor
open Go Go.Sx Go.Shelf Go.Isa Go.Asm
set_option maxRecDepth 1000000
def layItoa_ren:Go.Shelf.Ren:=⟨fun | 129=>79 | 171=>68 | 243=>97 | 246=>120 | 283=>145 | 284=>146 | 285=>147 | 286=>148 | 317=>170 | 318=>171 | 319=>172 | 320=>173 | 337=>190 | 338=>191 | n=>n,fun | 37=>224 | 46=>105 | 51=>158 | 53=>23 | 171=>222 | 173=>225 | 212=>242 | 213=>243 | 232=>268 | 233=>269 | n=>n,fun | 17=>3 | 18=>8 | 19=>9 | n=>n⟩
theorem layItoa:Go.Proofs.LaysM.n171 Tryz.prog layItoa_ren:={
 mixed:=by kernel_rfl,
 f129:=by first | exact Tryz.func79.trans (congrArg some (by kernel_rfl)) | exact⟨Tryz.f79.name,by kernel_rfl,Tryz.func79.trans (congrArg some (by kernel_rfl))⟩,
 f171:=by first | exact Tryz.func68.trans (congrArg some (by kernel_rfl)) | exact⟨Tryz.f68.name,by kernel_rfl,Tryz.func68.trans (congrArg some (by kernel_rfl))⟩,
 f243:=by first | exact Tryz.func97.trans (congrArg some (by kernel_rfl)) | exact⟨Tryz.f97.name,by kernel_rfl,Tryz.func97.trans (congrArg some (by kernel_rfl))⟩,
 f246:=by first | exact Tryz.func120.trans (congrArg some (by kernel_rfl)) | exact⟨Tryz.f120.name,by kernel_rfl,Tryz.func120.trans (congrArg some (by kernel_rfl))⟩,
 f283:=by first | exact Tryz.func145.trans (congrArg some (by kernel_rfl)) | exact⟨Tryz.f145.name,by kernel_rfl,Tryz.func145.trans (congrArg some (by kernel_rfl))⟩,
 f284:=by first | exact Tryz.func146.trans (congrArg some (by kernel_rfl)) | exact⟨Tryz.f146.name,by kernel_rfl,Tryz.func146.trans (congrArg some (by kernel_rfl))⟩,
 f285:=by first | exact Tryz.func147.trans (congrArg some (by kernel_rfl)) | exact⟨Tryz.f147.name,by kernel_rfl,Tryz.func147.trans (congrArg some (by kernel_rfl))⟩,
 f286:=by first | exact Tryz.func148.trans (congrArg some (by kernel_rfl)) | exact⟨Tryz.f148.name,by kernel_rfl,Tryz.func148.trans (congrArg some (by kernel_rfl))⟩,
 f317:=by first | exact Tryz.func170.trans (congrArg some (by kernel_rfl)) | exact⟨Tryz.f170.name,by kernel_rfl,Tryz.func170.trans (congrArg some (by kernel_rfl))⟩,
 f318:=by first | exact Tryz.func171.trans (congrArg some (by kernel_rfl)) | exact⟨Tryz.f171.name,by kernel_rfl,Tryz.func171.trans (congrArg some (by kernel_rfl))⟩,
 f319:=by first | exact Tryz.func172.trans (congrArg some (by kernel_rfl)) | exact⟨Tryz.f172.name,by kernel_rfl,Tryz.func172.trans (congrArg some (by kernel_rfl))⟩,
 f320:=by first | exact Tryz.func173.trans (congrArg some (by kernel_rfl)) | exact⟨Tryz.f173.name,by kernel_rfl,Tryz.func173.trans (congrArg some (by kernel_rfl))⟩,
 f337:=by first | exact Tryz.func190.trans (congrArg some (by kernel_rfl)) | exact⟨Tryz.f190.name,by kernel_rfl,Tryz.func190.trans (congrArg some (by kernel_rfl))⟩,
 f338:=by first | exact Tryz.func191.trans (congrArg some (by kernel_rfl)) | exact⟨Tryz.f191.name,by kernel_rfl,Tryz.func191.trans (congrArg some (by kernel_rfl))⟩,
 t0:=Tryz.underlying0,
 a0:=Tryz.isAgg0,
 z0:=Tryz.sizeOf0,
 v0:=Tryz.zeroValue0,
 t2:=Tryz.underlying2,
 a2:=Tryz.isAgg2,
 z2:=Tryz.sizeOf2,
 v2:=Tryz.zeroValue2,
 t3:=Tryz.underlying3,
 a3:=Tryz.isAgg3,
 z3:=Tryz.sizeOf3,
 v3:=Tryz.zeroValue3,
 t4:=Tryz.underlying4,
 a4:=Tryz.isAgg4,
 z4:=Tryz.sizeOf4,
 v4:=Tryz.zeroValue4,
 t5:=Tryz.underlying5,
 a5:=Tryz.isAgg5,
 z5:=Tryz.sizeOf5,
 v5:=Tryz.zeroValue5,
 t9:=Tryz.underlying9,
 a9:=Tryz.isAgg9,
 z9:=Tryz.sizeOf9,
 v9:=Tryz.zeroValue9,
 t20:=Tryz.underlying20,
 a20:=Tryz.isAgg20,
 z20:=Tryz.sizeOf20,
 v20:=Tryz.zeroValue20,
 t37:=Tryz.underlying224,
 a37:=Tryz.isAgg224,
 z37:=Tryz.sizeOf224,
 v37:=Tryz.zeroValue224,
 t46:=Tryz.underlying105,
 a46:=Tryz.isAgg105,
 z46:=Tryz.sizeOf105,
 v46:=Tryz.zeroValue105,
 t51:=Tryz.underlying158,
 a51:=Tryz.isAgg158,
 z51:=Tryz.sizeOf158,
 v51:=Tryz.zeroValue158,
 t53:=Tryz.underlying23,
 a53:=Tryz.isAgg23,
 z53:=Tryz.sizeOf23,
 v53:=Tryz.zeroValue23,
 t171:=Tryz.underlying222,
 a171:=Tryz.isAgg222,
 z171:=Tryz.sizeOf222,
 v171:=Tryz.zeroValue222,
 t173:=Tryz.underlying225,
 a173:=Tryz.isAgg225,
 z173:=Tryz.sizeOf225,
 v173:=Tryz.zeroValue225,
 t212:=Tryz.underlying242,
 a212:=Tryz.isAgg242,
 z212:=Tryz.sizeOf242,
 v212:=Tryz.zeroValue242,
 t213:=Tryz.underlying243,
 a213:=Tryz.isAgg243,
 z213:=Tryz.sizeOf243,
 t232:=Tryz.underlying268,
 a232:=Tryz.isAgg268,
 z232:=Tryz.sizeOf268,
 v232:=Tryz.zeroValue268,
 t233:=Tryz.underlying269,
 a233:=Tryz.isAgg269,
 z233:=Tryz.sizeOf269,
 v233:=Tryz.zeroValue269,
 g17:=by kernel_rfl,
 g18:=by kernel_rfl,
 g19:=by kernel_rfl,
 i0:=by kernel_rfl,
 i2:=by kernel_rfl,
 i3:=by kernel_rfl,
 i4:=by kernel_rfl,
 i5:=by kernel_rfl,
 i9:=by kernel_rfl,
 i20:=by kernel_rfl,
 i37:=by kernel_rfl,
 i46:=by kernel_rfl,
 i51:=by kernel_rfl,
 i53:=by kernel_rfl,
 i171:=by kernel_rfl,
 i173:=by kernel_rfl,
 i212:=by kernel_rfl,
 i232:=by kernel_rfl,
 i233:=by kernel_rfl,
 m17:=by kernel_rfl,
 m18:=by kernel_rfl,
 m19:=by kernel_rfl }
def layAtoi_ren:Go.Shelf.Ren:=⟨fun | 129=>79 | 171=>68 | 172=>141 | 205=>197 | 243=>97 | 244=>168 | 245=>169 | 246=>120 | 247=>185 | 279=>186 | 280=>187 | 281=>188 | 282=>189 | 283=>145 | 284=>146 | 285=>147 | 286=>148 | 287=>195 | 316=>196 | 317=>170 | 318=>171 | 319=>172 | 320=>173 | 321=>198 | 322=>199 | 337=>190 | 338=>191 | n=>n,fun | 37=>224 | 46=>105 | 51=>158 | 53=>23 | 75=>215 | 76=>216 | 80=>275 | 85=>249 | 127=>271 | 143=>272 | 145=>274 | 167=>248 | 168=>251 | 171=>222 | 173=>225 | 175=>262 | 210=>266 | 212=>242 | 213=>243 | 232=>268 | 233=>269 | n=>n,fun | 15=>6 | 16=>7 | 17=>3 | 18=>8 | 19=>9 | n=>n⟩
theorem layAtoi:Go.Proofs.LaysC.n172 Tryz.prog layAtoi_ren:={
 mixed:=by kernel_rfl,
 f129:=by first | exact Tryz.func79.trans (congrArg some (by kernel_rfl)) | exact⟨Tryz.f79.name,by kernel_rfl,Tryz.func79.trans (congrArg some (by kernel_rfl))⟩,
 f171:=by first | exact Tryz.func68.trans (congrArg some (by kernel_rfl)) | exact⟨Tryz.f68.name,by kernel_rfl,Tryz.func68.trans (congrArg some (by kernel_rfl))⟩,
 f172:=by first | exact Tryz.func141.trans (congrArg some (by kernel_rfl)) | exact⟨Tryz.f141.name,by kernel_rfl,Tryz.func141.trans (congrArg some (by kernel_rfl))⟩,
 f205:=by first | exact Tryz.func197.trans (congrArg some (by kernel_rfl)) | exact⟨Tryz.f197.name,by kernel_rfl,Tryz.func197.trans (congrArg some (by kernel_rfl))⟩,
 f243:=by first | exact Tryz.func97.trans (congrArg some (by kernel_rfl)) | exact⟨Tryz.f97.name,by kernel_rfl,Tryz.func97.trans (congrArg some (by kernel_rfl))⟩,
 f244:=by first | exact Tryz.func168.trans (congrArg some (by kernel_rfl)) | exact⟨Tryz.f168.name,by kernel_rfl,Tryz.func168.trans (congrArg some (by kernel_rfl))⟩,
 f245:=by first | exact Tryz.func169.trans (congrArg some (by kernel_rfl)) | exact⟨Tryz.f169.name,by kernel_rfl,Tryz.func169.trans (congrArg some (by kernel_rfl))⟩,
 f246:=by first | exact Tryz.func120.trans (congrArg some (by kernel_rfl)) | exact⟨Tryz.f120.name,by kernel_rfl,Tryz.func120.trans (congrArg some (by kernel_rfl))⟩,
 f247:=by first | exact Tryz.func185.trans (congrArg some (by kernel_rfl)) | exact⟨Tryz.f185.name,by kernel_rfl,Tryz.func185.trans (congrArg some (by kernel_rfl))⟩,
 f279:=by first | exact Tryz.func186.trans (congrArg some (by kernel_rfl)) | exact⟨Tryz.f186.name,by kernel_rfl,Tryz.func186.trans (congrArg some (by kernel_rfl))⟩,
 f280:=by first | exact Tryz.func187.trans (congrArg some (by kernel_rfl)) | exact⟨Tryz.f187.name,by kernel_rfl,Tryz.func187.trans (congrArg some (by kernel_rfl))⟩,
 f281:=by first | exact Tryz.func188.trans (congrArg some (by kernel_rfl)) | exact⟨Tryz.f188.name,by kernel_rfl,Tryz.func188.trans (congrArg some (by kernel_rfl))⟩,
 f282:=by first | exact Tryz.func189.trans (congrArg some (by kernel_rfl)) | exact⟨Tryz.f189.name,by kernel_rfl,Tryz.func189.trans (congrArg some (by kernel_rfl))⟩,
 f283:=by first | exact Tryz.func145.trans (congrArg some (by kernel_rfl)) | exact⟨Tryz.f145.name,by kernel_rfl,Tryz.func145.trans (congrArg some (by kernel_rfl))⟩,
 f284:=by first | exact Tryz.func146.trans (congrArg some (by kernel_rfl)) | exact⟨Tryz.f146.name,by kernel_rfl,Tryz.func146.trans (congrArg some (by kernel_rfl))⟩,
 f285:=by first | exact Tryz.func147.trans (congrArg some (by kernel_rfl)) | exact⟨Tryz.f147.name,by kernel_rfl,Tryz.func147.trans (congrArg some (by kernel_rfl))⟩,
 f286:=by first | exact Tryz.func148.trans (congrArg some (by kernel_rfl)) | exact⟨Tryz.f148.name,by kernel_rfl,Tryz.func148.trans (congrArg some (by kernel_rfl))⟩,
 f287:=by first | exact Tryz.func195.trans (congrArg some (by kernel_rfl)) | exact⟨Tryz.f195.name,by kernel_rfl,Tryz.func195.trans (congrArg some (by kernel_rfl))⟩,
 f316:=by first | exact Tryz.func196.trans (congrArg some (by kernel_rfl)) | exact⟨Tryz.f196.name,by kernel_rfl,Tryz.func196.trans (congrArg some (by kernel_rfl))⟩,
 f317:=by first | exact Tryz.func170.trans (congrArg some (by kernel_rfl)) | exact⟨Tryz.f170.name,by kernel_rfl,Tryz.func170.trans (congrArg some (by kernel_rfl))⟩,
 f318:=by first | exact Tryz.func171.trans (congrArg some (by kernel_rfl)) | exact⟨Tryz.f171.name,by kernel_rfl,Tryz.func171.trans (congrArg some (by kernel_rfl))⟩,
 f319:=by first | exact Tryz.func172.trans (congrArg some (by kernel_rfl)) | exact⟨Tryz.f172.name,by kernel_rfl,Tryz.func172.trans (congrArg some (by kernel_rfl))⟩,
 f320:=by first | exact Tryz.func173.trans (congrArg some (by kernel_rfl)) | exact⟨Tryz.f173.name,by kernel_rfl,Tryz.func173.trans (congrArg some (by kernel_rfl))⟩,
 f321:=by first | exact Tryz.func198.trans (congrArg some (by kernel_rfl)) | exact⟨Tryz.f198.name,by kernel_rfl,Tryz.func198.trans (congrArg some (by kernel_rfl))⟩,
 f322:=by first | exact Tryz.func199.trans (congrArg some (by kernel_rfl)) | exact⟨Tryz.f199.name,by kernel_rfl,Tryz.func199.trans (congrArg some (by kernel_rfl))⟩,
 f337:=by first | exact Tryz.func190.trans (congrArg some (by kernel_rfl)) | exact⟨Tryz.f190.name,by kernel_rfl,Tryz.func190.trans (congrArg some (by kernel_rfl))⟩,
 f338:=by first | exact Tryz.func191.trans (congrArg some (by kernel_rfl)) | exact⟨Tryz.f191.name,by kernel_rfl,Tryz.func191.trans (congrArg some (by kernel_rfl))⟩,
 t0:=Tryz.underlying0,
 a0:=Tryz.isAgg0,
 z0:=Tryz.sizeOf0,
 v0:=Tryz.zeroValue0,
 t2:=Tryz.underlying2,
 a2:=Tryz.isAgg2,
 z2:=Tryz.sizeOf2,
 v2:=Tryz.zeroValue2,
 t3:=Tryz.underlying3,
 a3:=Tryz.isAgg3,
 z3:=Tryz.sizeOf3,
 v3:=Tryz.zeroValue3,
 t4:=Tryz.underlying4,
 a4:=Tryz.isAgg4,
 z4:=Tryz.sizeOf4,
 v4:=Tryz.zeroValue4,
 t5:=Tryz.underlying5,
 a5:=Tryz.isAgg5,
 z5:=Tryz.sizeOf5,
 v5:=Tryz.zeroValue5,
 t9:=Tryz.underlying9,
 a9:=Tryz.isAgg9,
 z9:=Tryz.sizeOf9,
 v9:=Tryz.zeroValue9,
 t20:=Tryz.underlying20,
 a20:=Tryz.isAgg20,
 z20:=Tryz.sizeOf20,
 v20:=Tryz.zeroValue20,
 t21:=Tryz.underlying21,
 a21:=Tryz.isAgg21,
 z21:=Tryz.sizeOf21,
 v21:=Tryz.zeroValue21,
 t37:=Tryz.underlying224,
 a37:=Tryz.isAgg224,
 z37:=Tryz.sizeOf224,
 v37:=Tryz.zeroValue224,
 t46:=Tryz.underlying105,
 a46:=Tryz.isAgg105,
 z46:=Tryz.sizeOf105,
 v46:=Tryz.zeroValue105,
 t51:=Tryz.underlying158,
 a51:=Tryz.isAgg158,
 z51:=Tryz.sizeOf158,
 v51:=Tryz.zeroValue158,
 t53:=Tryz.underlying23,
 a53:=Tryz.isAgg23,
 z53:=Tryz.sizeOf23,
 v53:=Tryz.zeroValue23,
 t75:=Tryz.underlying215,
 a75:=Tryz.isAgg215,
 z75:=Tryz.sizeOf215,
 v75:=Tryz.zeroValue215,
 t76:=Tryz.underlying216,
 a76:=Tryz.isAgg216,
 z76:=Tryz.sizeOf216,
 v76:=Tryz.zeroValue216,
 t85:=Tryz.underlying249,
 a85:=Tryz.isAgg249,
 z85:=Tryz.sizeOf249,
 v85:=Tryz.zeroValue249,
 t127:=Tryz.underlying271,
 a127:=Tryz.isAgg271,
 z127:=Tryz.sizeOf271,
 v127:=Tryz.zeroValue271,
 t143:=Tryz.underlying272,
 a143:=Tryz.isAgg272,
 z143:=Tryz.sizeOf272,
 v143:=Tryz.zeroValue272,
 t145:=Tryz.underlying274,
 a145:=Tryz.isAgg274,
 z145:=Tryz.sizeOf274,
 v145:=Tryz.zeroValue274,
 t167:=Tryz.underlying248,
 a167:=Tryz.isAgg248,
 z167:=Tryz.sizeOf248,
 v167:=Tryz.zeroValue248,
 t168:=Tryz.underlying251,
 a168:=Tryz.isAgg251,
 z168:=Tryz.sizeOf251,
 v168:=Tryz.zeroValue251,
 t171:=Tryz.underlying222,
 a171:=Tryz.isAgg222,
 z171:=Tryz.sizeOf222,
 v171:=Tryz.zeroValue222,
 t173:=Tryz.underlying225,
 a173:=Tryz.isAgg225,
 z173:=Tryz.sizeOf225,
 v173:=Tryz.zeroValue225,
 t175:=Tryz.underlying262,
 a175:=Tryz.isAgg262,
 z175:=Tryz.sizeOf262,
 v175:=Tryz.zeroValue262,
 t210:=Tryz.underlying266,
 a210:=Tryz.isAgg266,
 z210:=Tryz.sizeOf266,
 v210:=Tryz.zeroValue266,
 t212:=Tryz.underlying242,
 a212:=Tryz.isAgg242,
 z212:=Tryz.sizeOf242,
 v212:=Tryz.zeroValue242,
 t213:=Tryz.underlying243,
 a213:=Tryz.isAgg243,
 z213:=Tryz.sizeOf243,
 t232:=Tryz.underlying268,
 a232:=Tryz.isAgg268,
 z232:=Tryz.sizeOf268,
 v232:=Tryz.zeroValue268,
 t233:=Tryz.underlying269,
 a233:=Tryz.isAgg269,
 z233:=Tryz.sizeOf269,
 v233:=Tryz.zeroValue269,
 g15:=by kernel_rfl,
 g16:=by kernel_rfl,
 g17:=by kernel_rfl,
 g18:=by kernel_rfl,
 g19:=by kernel_rfl,
 t80:=Tryz.underlying275,
 a80:=Tryz.isAgg275,
 z80:=Tryz.sizeOf275,
 v80:=Tryz.zeroValue275,
 i0:=by kernel_rfl,
 i2:=by kernel_rfl,
 i3:=by kernel_rfl,
 i4:=by kernel_rfl,
 i5:=by kernel_rfl,
 i9:=by kernel_rfl,
 i20:=by kernel_rfl,
 i21:=by kernel_rfl,
 i37:=by kernel_rfl,
 i46:=by kernel_rfl,
 i51:=by kernel_rfl,
 i53:=by kernel_rfl,
 i75:=by kernel_rfl,
 i76:=by kernel_rfl,
 i80:=by kernel_rfl,
 i85:=by kernel_rfl,
 i127:=by kernel_rfl,
 i143:=by kernel_rfl,
 i145:=by kernel_rfl,
 i167:=by kernel_rfl,
 i168:=by kernel_rfl,
 i171:=by kernel_rfl,
 i173:=by kernel_rfl,
 i175:=by kernel_rfl,
 i210:=by kernel_rfl,
 i212:=by kernel_rfl,
 i232:=by kernel_rfl,
 i233:=by kernel_rfl,
 m15:=by kernel_rfl,
 m16:=by kernel_rfl,
 m17:=by kernel_rfl,
 m18:=by kernel_rfl,
 m19:=by kernel_rfl,
 c0:=by kernel_rfl,
 c2:=by kernel_rfl,
 c3:=by kernel_rfl,
 c4:=by kernel_rfl,
 c5:=by kernel_rfl,
 c9:=by kernel_rfl,
 c20:=by kernel_rfl,
 c21:=by kernel_rfl,
 c37:=by kernel_rfl,
 c46:=by kernel_rfl,
 c51:=by kernel_rfl,
 c53:=by kernel_rfl,
 c75:=by kernel_rfl,
 c76:=by kernel_rfl,
 c80:=by kernel_rfl,
 c85:=by kernel_rfl,
 c127:=by kernel_rfl,
 c143:=by kernel_rfl,
 c145:=by kernel_rfl,
 c167:=by kernel_rfl,
 c168:=by kernel_rfl,
 c171:=by kernel_rfl,
 c173:=by kernel_rfl,
 c175:=by kernel_rfl,
 c210:=by kernel_rfl,
 c212:=by kernel_rfl,
 c213:=by kernel_rfl,
 c232:=by kernel_rfl,
 c233:=by kernel_rfl }
def zj7v:Go.Shelf.Ren:=⟨fun | 138=>160 | 143=>161 | 146=>111 | 195=>177 | 197=>164 | 217=>53 | 218=>178 | 219=>162 | 221=>129 | 224=>180 | 225=>179 | 260=>182 | 266=>80 | 267=>181 | 268=>159 | 314=>193 | n=>n,fun | 31=>94 | 46=>105 | 51=>158 | 105=>236 | 119=>257 | 138=>259 | 139=>260 | 146=>255 | n=>n,fun | 1=>2 | 3=>4 | 4=>5 | n=>n⟩
theorem laySplit:Go.Proofs.Lays.n146 Tryz.prog zj7v:={
 mixed:=by kernel_rfl,
 f138:=by first | exact Tryz.func160.trans (congrArg some (by kernel_rfl)) | exact⟨Tryz.f160.name,by kernel_rfl,Tryz.func160.trans (congrArg some (by kernel_rfl))⟩,
 f143:=by first | exact Tryz.func161.trans (congrArg some (by kernel_rfl)) | exact⟨Tryz.f161.name,by kernel_rfl,Tryz.func161.trans (congrArg some (by kernel_rfl))⟩,
 f146:=by first | exact Tryz.func111.trans (congrArg some (by kernel_rfl)) | exact⟨Tryz.f111.name,by kernel_rfl,Tryz.func111.trans (congrArg some (by kernel_rfl))⟩,
 f195:=by first | exact Tryz.func177.trans (congrArg some (by kernel_rfl)) | exact⟨Tryz.f177.name,by kernel_rfl,Tryz.func177.trans (congrArg some (by kernel_rfl))⟩,
 f197:=by first | exact Tryz.func164.trans (congrArg some (by kernel_rfl)) | exact⟨Tryz.f164.name,by kernel_rfl,Tryz.func164.trans (congrArg some (by kernel_rfl))⟩,
 f217:=by first | exact Tryz.func53.trans (congrArg some (by kernel_rfl)) | exact⟨Tryz.f53.name,by kernel_rfl,Tryz.func53.trans (congrArg some (by kernel_rfl))⟩,
 f218:=by first | exact Tryz.func178.trans (congrArg some (by kernel_rfl)) | exact⟨Tryz.f178.name,by kernel_rfl,Tryz.func178.trans (congrArg some (by kernel_rfl))⟩,
 f219:=by first | exact Tryz.func162.trans (congrArg some (by kernel_rfl)) | exact⟨Tryz.f162.name,by kernel_rfl,Tryz.func162.trans (congrArg some (by kernel_rfl))⟩,
 f221:=by first | exact Tryz.func129.trans (congrArg some (by kernel_rfl)) | exact⟨Tryz.f129.name,by kernel_rfl,Tryz.func129.trans (congrArg some (by kernel_rfl))⟩,
 f224:=by first | exact Tryz.func180.trans (congrArg some (by kernel_rfl)) | exact⟨Tryz.f180.name,by kernel_rfl,Tryz.func180.trans (congrArg some (by kernel_rfl))⟩,
 f225:=by first | exact Tryz.func179.trans (congrArg some (by kernel_rfl)) | exact⟨Tryz.f179.name,by kernel_rfl,Tryz.func179.trans (congrArg some (by kernel_rfl))⟩,
 f260:=by first | exact Tryz.func182.trans (congrArg some (by kernel_rfl)) | exact⟨Tryz.f182.name,by kernel_rfl,Tryz.func182.trans (congrArg some (by kernel_rfl))⟩,
 f266:=by first | exact Tryz.func80.trans (congrArg some (by kernel_rfl)) | exact⟨Tryz.f80.name,by kernel_rfl,Tryz.func80.trans (congrArg some (by kernel_rfl))⟩,
 f267:=by first | exact Tryz.func181.trans (congrArg some (by kernel_rfl)) | exact⟨Tryz.f181.name,by kernel_rfl,Tryz.func181.trans (congrArg some (by kernel_rfl))⟩,
 f268:=by first | exact Tryz.func159.trans (congrArg some (by kernel_rfl)) | exact⟨Tryz.f159.name,by kernel_rfl,Tryz.func159.trans (congrArg some (by kernel_rfl))⟩,
 f314:=by first | exact Tryz.func193.trans (congrArg some (by kernel_rfl)) | exact⟨Tryz.f193.name,by kernel_rfl,Tryz.func193.trans (congrArg some (by kernel_rfl))⟩,
 t0:=Tryz.underlying0,
 a0:=Tryz.isAgg0,
 z0:=Tryz.sizeOf0,
 v0:=Tryz.zeroValue0,
 t3:=Tryz.underlying3,
 a3:=Tryz.isAgg3,
 z3:=Tryz.sizeOf3,
 v3:=Tryz.zeroValue3,
 t4:=Tryz.underlying4,
 a4:=Tryz.isAgg4,
 z4:=Tryz.sizeOf4,
 v4:=Tryz.zeroValue4,
 t5:=Tryz.underlying5,
 a5:=Tryz.isAgg5,
 z5:=Tryz.sizeOf5,
 v5:=Tryz.zeroValue5,
 t9:=Tryz.underlying9,
 a9:=Tryz.isAgg9,
 z9:=Tryz.sizeOf9,
 v9:=Tryz.zeroValue9,
 t21:=Tryz.underlying21,
 a21:=Tryz.isAgg21,
 z21:=Tryz.sizeOf21,
 v21:=Tryz.zeroValue21,
 t31:=Tryz.underlying94,
 a31:=Tryz.isAgg94,
 z31:=Tryz.sizeOf94,
 v31:=Tryz.zeroValue94,
 t46:=Tryz.underlying105,
 a46:=Tryz.isAgg105,
 z46:=Tryz.sizeOf105,
 v46:=Tryz.zeroValue105,
 t51:=Tryz.underlying158,
 a51:=Tryz.isAgg158,
 z51:=Tryz.sizeOf158,
 v51:=Tryz.zeroValue158,
 t105:=Tryz.underlying236,
 a105:=Tryz.isAgg236,
 z105:=Tryz.sizeOf236,
 v105:=Tryz.zeroValue236,
 t119:=Tryz.underlying257,
 a119:=Tryz.isAgg257,
 z119:=Tryz.sizeOf257,
 t138:=Tryz.underlying259,
 a138:=Tryz.isAgg259,
 z138:=Tryz.sizeOf259,
 v138:=Tryz.zeroValue259,
 t139:=Tryz.underlying260,
 a139:=Tryz.isAgg260,
 z139:=Tryz.sizeOf260,
 v139:=Tryz.zeroValue260,
 t146:=Tryz.underlying255,
 a146:=Tryz.isAgg255,
 z146:=Tryz.sizeOf255,
 v146:=Tryz.zeroValue255,
 g1:=by kernel_rfl,
 g3:=by kernel_rfl,
 g4:=by kernel_rfl }
def layCut_ren:Go.Shelf.Ren:=⟨fun | 145=>112 | 217=>53 | 219=>162 | 220=>130 | 224=>180 | 225=>179 | 266=>80 | 267=>181 | 314=>193 | n=>n,fun | 46=>105 | 51=>158 | 59=>192 | 146=>255 | n=>n,fun | 1=>2 | n=>n⟩
theorem layCut:Go.Proofs.Lays.n145 Tryz.prog layCut_ren:={
 mixed:=by kernel_rfl,
 f145:=by first | exact Tryz.func112.trans (congrArg some (by kernel_rfl)) | exact⟨Tryz.f112.name,by kernel_rfl,Tryz.func112.trans (congrArg some (by kernel_rfl))⟩,
 f217:=by first | exact Tryz.func53.trans (congrArg some (by kernel_rfl)) | exact⟨Tryz.f53.name,by kernel_rfl,Tryz.func53.trans (congrArg some (by kernel_rfl))⟩,
 f219:=by first | exact Tryz.func162.trans (congrArg some (by kernel_rfl)) | exact⟨Tryz.f162.name,by kernel_rfl,Tryz.func162.trans (congrArg some (by kernel_rfl))⟩,
 f220:=by first | exact Tryz.func130.trans (congrArg some (by kernel_rfl)) | exact⟨Tryz.f130.name,by kernel_rfl,Tryz.func130.trans (congrArg some (by kernel_rfl))⟩,
 f224:=by first | exact Tryz.func180.trans (congrArg some (by kernel_rfl)) | exact⟨Tryz.f180.name,by kernel_rfl,Tryz.func180.trans (congrArg some (by kernel_rfl))⟩,
 f225:=by first | exact Tryz.func179.trans (congrArg some (by kernel_rfl)) | exact⟨Tryz.f179.name,by kernel_rfl,Tryz.func179.trans (congrArg some (by kernel_rfl))⟩,
 f266:=by first | exact Tryz.func80.trans (congrArg some (by kernel_rfl)) | exact⟨Tryz.f80.name,by kernel_rfl,Tryz.func80.trans (congrArg some (by kernel_rfl))⟩,
 f267:=by first | exact Tryz.func181.trans (congrArg some (by kernel_rfl)) | exact⟨Tryz.f181.name,by kernel_rfl,Tryz.func181.trans (congrArg some (by kernel_rfl))⟩,
 f314:=by first | exact Tryz.func193.trans (congrArg some (by kernel_rfl)) | exact⟨Tryz.f193.name,by kernel_rfl,Tryz.func193.trans (congrArg some (by kernel_rfl))⟩,
 t3:=Tryz.underlying3,
 a3:=Tryz.isAgg3,
 z3:=Tryz.sizeOf3,
 v3:=Tryz.zeroValue3,
 t4:=Tryz.underlying4,
 a4:=Tryz.isAgg4,
 z4:=Tryz.sizeOf4,
 v4:=Tryz.zeroValue4,
 t5:=Tryz.underlying5,
 a5:=Tryz.isAgg5,
 z5:=Tryz.sizeOf5,
 v5:=Tryz.zeroValue5,
 t9:=Tryz.underlying9,
 a9:=Tryz.isAgg9,
 z9:=Tryz.sizeOf9,
 v9:=Tryz.zeroValue9,
 t46:=Tryz.underlying105,
 a46:=Tryz.isAgg105,
 z46:=Tryz.sizeOf105,
 v46:=Tryz.zeroValue105,
 t51:=Tryz.underlying158,
 a51:=Tryz.isAgg158,
 z51:=Tryz.sizeOf158,
 v51:=Tryz.zeroValue158,
 t59:=Tryz.underlying192,
 a59:=Tryz.isAgg192,
 z59:=Tryz.sizeOf192,
 v59:=Tryz.zeroValue192,
 t146:=Tryz.underlying255,
 a146:=Tryz.isAgg255,
 z146:=Tryz.sizeOf255,
 v146:=Tryz.zeroValue255,
 g1:=by kernel_rfl }
def layTrim_ren:Go.Shelf.Ren:=⟨fun | 119=>194 | 120=>184 | 137=>31 | 151=>165 | 152=>183 | 160=>113 | 197=>164 | 217=>53 | 224=>180 | 225=>179 | 227=>133 | 228=>163 | 231=>131 | 232=>132 | 233=>134 | 234=>135 | 235=>136 | 236=>137 | 260=>182 | 266=>80 | 271=>166 | n=>n,fun | 46=>105 | 105=>236 | 116=>208 | 117=>209 | 119=>257 | 124=>212 | 138=>259 | 139=>260 | n=>n,fun | 3=>4 | 4=>5 | n=>n⟩
theorem layTrim:Go.Proofs.Lays.n160 Tryz.prog layTrim_ren:={
 mixed:=by kernel_rfl,
 f119:=by first | exact Tryz.func194.trans (congrArg some (by kernel_rfl)) | exact⟨Tryz.f194.name,by kernel_rfl,Tryz.func194.trans (congrArg some (by kernel_rfl))⟩,
 f120:=by first | exact Tryz.func184.trans (congrArg some (by kernel_rfl)) | exact⟨Tryz.f184.name,by kernel_rfl,Tryz.func184.trans (congrArg some (by kernel_rfl))⟩,
 f137:=by first | exact Tryz.func31.trans (congrArg some (by kernel_rfl)) | exact⟨Tryz.f31.name,by kernel_rfl,Tryz.func31.trans (congrArg some (by kernel_rfl))⟩,
 f151:=by first | exact Tryz.func165.trans (congrArg some (by kernel_rfl)) | exact⟨Tryz.f165.name,by kernel_rfl,Tryz.func165.trans (congrArg some (by kernel_rfl))⟩,
 f152:=by first | exact Tryz.func183.trans (congrArg some (by kernel_rfl)) | exact⟨Tryz.f183.name,by kernel_rfl,Tryz.func183.trans (congrArg some (by kernel_rfl))⟩,
 f160:=by first | exact Tryz.func113.trans (congrArg some (by kernel_rfl)) | exact⟨Tryz.f113.name,by kernel_rfl,Tryz.func113.trans (congrArg some (by kernel_rfl))⟩,
 f197:=by first | exact Tryz.func164.trans (congrArg some (by kernel_rfl)) | exact⟨Tryz.f164.name,by kernel_rfl,Tryz.func164.trans (congrArg some (by kernel_rfl))⟩,
 f217:=by first | exact Tryz.func53.trans (congrArg some (by kernel_rfl)) | exact⟨Tryz.f53.name,by kernel_rfl,Tryz.func53.trans (congrArg some (by kernel_rfl))⟩,
 f224:=by first | exact Tryz.func180.trans (congrArg some (by kernel_rfl)) | exact⟨Tryz.f180.name,by kernel_rfl,Tryz.func180.trans (congrArg some (by kernel_rfl))⟩,
 f225:=by first | exact Tryz.func179.trans (congrArg some (by kernel_rfl)) | exact⟨Tryz.f179.name,by kernel_rfl,Tryz.func179.trans (congrArg some (by kernel_rfl))⟩,
 f227:=by first | exact Tryz.func133.trans (congrArg some (by kernel_rfl)) | exact⟨Tryz.f133.name,by kernel_rfl,Tryz.func133.trans (congrArg some (by kernel_rfl))⟩,
 f228:=by first | exact Tryz.func163.trans (congrArg some (by kernel_rfl)) | exact⟨Tryz.f163.name,by kernel_rfl,Tryz.func163.trans (congrArg some (by kernel_rfl))⟩,
 f231:=by first | exact Tryz.func131.trans (congrArg some (by kernel_rfl)) | exact⟨Tryz.f131.name,by kernel_rfl,Tryz.func131.trans (congrArg some (by kernel_rfl))⟩,
 f232:=by first | exact Tryz.func132.trans (congrArg some (by kernel_rfl)) | exact⟨Tryz.f132.name,by kernel_rfl,Tryz.func132.trans (congrArg some (by kernel_rfl))⟩,
 f233:=by first | exact Tryz.func134.trans (congrArg some (by kernel_rfl)) | exact⟨Tryz.f134.name,by kernel_rfl,Tryz.func134.trans (congrArg some (by kernel_rfl))⟩,
 f234:=by first | exact Tryz.func135.trans (congrArg some (by kernel_rfl)) | exact⟨Tryz.f135.name,by kernel_rfl,Tryz.func135.trans (congrArg some (by kernel_rfl))⟩,
 f235:=by first | exact Tryz.func136.trans (congrArg some (by kernel_rfl)) | exact⟨Tryz.f136.name,by kernel_rfl,Tryz.func136.trans (congrArg some (by kernel_rfl))⟩,
 f236:=by first | exact Tryz.func137.trans (congrArg some (by kernel_rfl)) | exact⟨Tryz.f137.name,by kernel_rfl,Tryz.func137.trans (congrArg some (by kernel_rfl))⟩,
 f260:=by first | exact Tryz.func182.trans (congrArg some (by kernel_rfl)) | exact⟨Tryz.f182.name,by kernel_rfl,Tryz.func182.trans (congrArg some (by kernel_rfl))⟩,
 f266:=by first | exact Tryz.func80.trans (congrArg some (by kernel_rfl)) | exact⟨Tryz.f80.name,by kernel_rfl,Tryz.func80.trans (congrArg some (by kernel_rfl))⟩,
 f271:=by first | exact Tryz.func166.trans (congrArg some (by kernel_rfl)) | exact⟨Tryz.f166.name,by kernel_rfl,Tryz.func166.trans (congrArg some (by kernel_rfl))⟩,
 t0:=Tryz.underlying0,
 a0:=Tryz.isAgg0,
 z0:=Tryz.sizeOf0,
 v0:=Tryz.zeroValue0,
 t3:=Tryz.underlying3,
 a3:=Tryz.isAgg3,
 z3:=Tryz.sizeOf3,
 v3:=Tryz.zeroValue3,
 t4:=Tryz.underlying4,
 a4:=Tryz.isAgg4,
 z4:=Tryz.sizeOf4,
 v4:=Tryz.zeroValue4,
 t5:=Tryz.underlying5,
 a5:=Tryz.isAgg5,
 z5:=Tryz.sizeOf5,
 v5:=Tryz.zeroValue5,
 t9:=Tryz.underlying9,
 a9:=Tryz.isAgg9,
 z9:=Tryz.sizeOf9,
 v9:=Tryz.zeroValue9,
 t21:=Tryz.underlying21,
 a21:=Tryz.isAgg21,
 z21:=Tryz.sizeOf21,
 v21:=Tryz.zeroValue21,
 t46:=Tryz.underlying105,
 a46:=Tryz.isAgg105,
 z46:=Tryz.sizeOf105,
 v46:=Tryz.zeroValue105,
 t105:=Tryz.underlying236,
 a105:=Tryz.isAgg236,
 z105:=Tryz.sizeOf236,
 v105:=Tryz.zeroValue236,
 t116:=Tryz.underlying208,
 a116:=Tryz.isAgg208,
 z116:=Tryz.sizeOf208,
 t117:=Tryz.underlying209,
 a117:=Tryz.isAgg209,
 z117:=Tryz.sizeOf209,
 v117:=Tryz.zeroValue209,
 t119:=Tryz.underlying257,
 a119:=Tryz.isAgg257,
 z119:=Tryz.sizeOf257,
 t124:=Tryz.underlying212,
 a124:=Tryz.isAgg212,
 z124:=Tryz.sizeOf212,
 v124:=Tryz.zeroValue212,
 t138:=Tryz.underlying259,
 a138:=Tryz.isAgg259,
 z138:=Tryz.sizeOf259,
 v138:=Tryz.zeroValue259,
 t139:=Tryz.underlying260,
 a139:=Tryz.isAgg260,
 z139:=Tryz.sizeOf260,
 v139:=Tryz.zeroValue260,
 g3:=by kernel_rfl,
 g4:=by kernel_rfl }
def laySuf_ren:Go.Shelf.Ren:=⟨fun | 104=>93 | 207=>138 | 211=>114 | n=>n,fun | 24=>80 | n=>n,fun | n=>n⟩
theorem laySuf:Go.Proofs.Lays.n104 Tryz.prog laySuf_ren:={
 mixed:=by kernel_rfl,
 f104:=by first | exact Tryz.func93.trans (congrArg some (by kernel_rfl)) | exact⟨Tryz.f93.name,by kernel_rfl,Tryz.func93.trans (congrArg some (by kernel_rfl))⟩,
 f207:=by first | exact Tryz.func138.trans (congrArg some (by kernel_rfl)) | exact⟨Tryz.f138.name,by kernel_rfl,Tryz.func138.trans (congrArg some (by kernel_rfl))⟩,
 f211:=by first | exact Tryz.func114.trans (congrArg some (by kernel_rfl)) | exact⟨Tryz.f114.name,by kernel_rfl,Tryz.func114.trans (congrArg some (by kernel_rfl))⟩,
 t3:=Tryz.underlying3,
 a3:=Tryz.isAgg3,
 z3:=Tryz.sizeOf3,
 v3:=Tryz.zeroValue3,
 t4:=Tryz.underlying4,
 a4:=Tryz.isAgg4,
 z4:=Tryz.sizeOf4,
 v4:=Tryz.zeroValue4,
 t9:=Tryz.underlying9,
 a9:=Tryz.isAgg9,
 z9:=Tryz.sizeOf9,
 v9:=Tryz.zeroValue9,
 t24:=Tryz.underlying80,
 a24:=Tryz.isAgg80,
 z24:=Tryz.sizeOf80,
 v24:=Tryz.zeroValue80 }
def layPre_ren:Go.Shelf.Ren:=⟨fun | 99=>119 | 206=>144 | n=>n,fun | n=>n,fun | n=>n⟩
theorem layPre:Go.Proofs.Lays.n99 Tryz.prog layPre_ren:={
 mixed:=by kernel_rfl,
 f99:=by first | exact Tryz.func119.trans (congrArg some (by kernel_rfl)) | exact⟨Tryz.f119.name,by kernel_rfl,Tryz.func119.trans (congrArg some (by kernel_rfl))⟩,
 f206:=by first | exact Tryz.func144.trans (congrArg some (by kernel_rfl)) | exact⟨Tryz.f144.name,by kernel_rfl,Tryz.func144.trans (congrArg some (by kernel_rfl))⟩,
 t3:=Tryz.underlying3,
 a3:=Tryz.isAgg3,
 z3:=Tryz.sizeOf3,
 v3:=Tryz.zeroValue3,
 t4:=Tryz.underlying4,
 a4:=Tryz.isAgg4,
 z4:=Tryz.sizeOf4,
 v4:=Tryz.zeroValue4,
 t9:=Tryz.underlying9,
 a9:=Tryz.isAgg9,
 z9:=Tryz.sizeOf9,
 v9:=Tryz.zeroValue9 }
def layLast_ren:Go.Shelf.Ren:=⟨fun | 149=>117 | 222=>143 | n=>n,fun | n=>n,fun | n=>n⟩
theorem layLast:Go.Proofs.Lays.n149 Tryz.prog layLast_ren:={
 mixed:=by kernel_rfl,
 f149:=by first | exact Tryz.func117.trans (congrArg some (by kernel_rfl)) | exact⟨Tryz.f117.name,by kernel_rfl,Tryz.func117.trans (congrArg some (by kernel_rfl))⟩,
 f222:=by first | exact Tryz.func143.trans (congrArg some (by kernel_rfl)) | exact⟨Tryz.f143.name,by kernel_rfl,Tryz.func143.trans (congrArg some (by kernel_rfl))⟩,
 t3:=Tryz.underlying3,
 a3:=Tryz.isAgg3,
 z3:=Tryz.sizeOf3,
 v3:=Tryz.zeroValue3,
 t4:=Tryz.underlying4,
 a4:=Tryz.isAgg4,
 z4:=Tryz.sizeOf4,
 v4:=Tryz.zeroValue4,
 t5:=Tryz.underlying5,
 a5:=Tryz.isAgg5,
 z5:=Tryz.sizeOf5,
 v5:=Tryz.zeroValue5,
 t9:=Tryz.underlying9,
 a9:=Tryz.isAgg9,
 z9:=Tryz.sizeOf9,
 v9:=Tryz.zeroValue9 }
def TabAt (w : World) : Prop := Lib.TabIs Tryz.prog w "internal/strconv.uint64pow10" .u64 Lib.pow10Tab
theorem gTab : Tryz.prog.globalNamed "internal/strconv.uint64pow10" = some 3 := by kernel_rfl
theorem TabAt.keep {w w':World} (h:TabAt w) (k:Fresh w w'):TabAt w':=by
 unfold TabAt Lib.TabIs World.var? at *
 rw[gTab] at h ⊢
 simp only[Option.bind_some] at h ⊢
 have hlt:3 < w.heap.size:=by
  by_cases hl:3 < w.heap.size
  ·exact hl
  ·rw[Array.getElem?_eq_none (by omega)] at h; cases h
 rw[k.block 3 hlt]; exact h
theorem fresh_grow (w:World) (k:Nat) (os:Array Obj):Fresh w (Sort.grow (w.drewN k) os) :=
 ⟨rfl,rfl,rfl,by simp[Sort.grow,World.drewN],fun j hj=>by
  show (w.heap++os)[j]? = w.heap[j]?
  rw[Array.getElem?_append_left hj]⟩
theorem itoa41 (n:Int) (w:World) (h0 : -9223372036854775808≤n) (h1:n≤9223372036854775807) (hT:TabAt w):CallsV Tryz.prog 68 [.int .i64 n] w fun v w'=>v=.string ⟨⟨Lib.itoa n⟩⟩∧Fresh w w':=by
 refine Calls.mono (Any.strconv_Itoa layItoa n h0 h1 w hT) fun e w' he=>?_
 obtain⟨rfl,k,os,rfl⟩:=he
 exact⟨rfl,fresh_grow w k os⟩
theorem zj4c {w w':World} {g:Nat} {v:Value} (h:w.cell? ⟨g,0,none⟩=some v) (k:Fresh w w'):w'.cell? ⟨g,0,none⟩=some v:=by
 refine (cell_keep k ?_).trans h
 unfold World.cell? at h
 split at h
 ·rename_i e; exact (Array.getElem?_eq_some_iff.1 e).1
 ·cases h
structure LibAt (w:World):Prop where
 max:∃ m,w.cell? ⟨2,0,none⟩=some (.int .i64 m)
 syn:∃ t p,w.cell? ⟨6,0,none⟩=some (.iface t p)
 rng:∃ t p,w.cell? ⟨7,0,none⟩=some (.iface t p)
theorem LibAt.keep {w w':World} (h:LibAt w) (k:Fresh w w'):LibAt w':=by
 obtain⟨⟨m,h1⟩,⟨t,p,h2⟩,⟨t',p',h3⟩⟩:=h
 exact⟨⟨m,zj4c h1 k⟩,⟨t,p,zj4c h2 k⟩,⟨t',p',zj4c h3 k⟩⟩
theorem zj3b {w w':World} (h:RowKit.Below w.heap.size w w'):Fresh w w':=⟨h.1,h.2,h.3,h.4,h.5⟩
theorem atoi36 (s:ByteArray) (w:World) (hs:s.size≤1000000) (hL:LibAt w):CallsV Tryz.prog 141 [.string s] w fun v w' =>
  (∃ n t p,v=.tuple #[.int .i64 n,.iface t p]∧(∀ z,Lib.atoiAll s.data.toList ≠ .ok z))∧Fresh w w'∨(∃ n,v=.tuple #[.int .i64 n,.nilIface]∧Lib.atoiAll s.data.toList=.ok n)∧Fresh w w':=by
 obtain⟨_,⟨t,p,h2⟩,⟨t',p',h3⟩⟩:=hL
 cases h:Lib.atoiAll s.data.toList
 ·rename_i n
  refine Calls.mono (Any.strconv_Atoi_ok layAtoi s (by omega) n h w) fun e w' he=>?_
  obtain⟨rfl,he⟩:=he
  refine .inr ⟨⟨n,rfl,rfl⟩,?_⟩
  rcases he with rfl | ⟨x,rfl⟩
  ·exact Fresh.refl _
  ·refine⟨rfl,rfl,rfl,?_,fun j hj=>?_⟩
   ·unfold Lib.bytesWorld World.freeze
    rw[if_neg (by decide)]; simp
   ·unfold Lib.bytesWorld World.freeze
    rw[if_neg (by decide)]
    simp only[Array.getElem?_modify]
    rw[if_neg (by show ¬ w.heap.size=j; omega)]
    exact Go.RowKit.Below.heap_alloc w.drew _ j hj
 ·refine Calls.mono (Any.strconv_Atoi_syntax layAtoi s (by omega) h _ w h2 (.inr ⟨t,p,rfl⟩)) fun e w' he=>?_
  obtain⟨N,rfl,_,_,hb⟩:=he
  exact .inl ⟨⟨_,_,_,rfl,by simp⟩,zj3b hb⟩
 ·refine Calls.mono (Any.strconv_Atoi_range layAtoi s (by omega) h _ w h3 (.inr ⟨t',p',rfl⟩)) fun e w' he=>?_
  obtain⟨N,rfl,_,_,hb⟩:=he
  exact .inl ⟨⟨_,_,_,rfl,by simp⟩,zj3b hb⟩
theorem split34 (s:ByteArray) (w:World) (hs:s.size≤1000000) (hL:LibAt w):CallsV Tryz.prog 111 [.string s,.string ⟨⟨[32]⟩⟩] w fun v w' =>
  World.ownsB w' w.heap.size 9 1 v (Lib.countB s ⟨⟨[32]⟩⟩+1) ((Lib.splitB ⟨⟨[32]⟩⟩ 0 (Lib.countB s ⟨⟨[32]⟩⟩) s).map Value.string)∧Fresh w w':=by
 obtain⟨⟨m,h1⟩,_,_⟩:=hL
 refine Calls.mono (Any.strings_Split laySplit (by kernel_rfl) s ⟨⟨[32]⟩⟩ m w (by omega) h1 (by decide)) fun e w' he=>?_
 obtain⟨rfl,rfl⟩:=he
 have hlen:=Lib.splitB_all ⟨⟨[32]⟩⟩ (by decide) 0 _ s rfl
 refine⟨ownsB_row ⟨by rw[List.length_map,hlen]; omega,.inr ⟨w.heap.size,Lib.countB s ⟨⟨[32]⟩⟩+1,((Lib.splitB ⟨⟨[32]⟩⟩ 0 (Lib.countB s ⟨⟨[32]⟩⟩) s).map Value.string).toArray,rfl,Nat.le_refl _,heap_alloc_new w _,Nat.le_refl _,?_,?_,?_⟩⟩,⟨rfl,rfl,rfl,by simp,fun j hj=>Go.RowKit.Below.heap_alloc w _ j hj⟩⟩
 ·have:=Lib.countB_le ⟨⟨[32]⟩⟩ (by decide) s.size s (Nat.le_refl _)
  simp[maxLen]; omega
 ·simp[hlen]
 ·rw[List.take_of_length_le (by simp[hlen])]
theorem splitN (s:ByteArray) (w:World) (hs:s.size≤1000000) (hL:LibAt w):CallsV Tryz.prog 111 [.string s,.string ⟨⟨[10]⟩⟩] w fun v w' =>
  World.ownsB w' w.heap.size 9 1 v (Lib.countB s ⟨⟨[10]⟩⟩+1) ((Lib.splitB ⟨⟨[10]⟩⟩ 0 (Lib.countB s ⟨⟨[10]⟩⟩) s).map Value.string)∧Fresh w w':=by
 obtain⟨⟨m,h1⟩,_,_⟩:=hL
 refine Calls.mono (Any.strings_Split laySplit (by kernel_rfl) s ⟨⟨[10]⟩⟩ m w (by omega) h1 (by decide)) fun e w' he=>?_
 obtain⟨rfl,rfl⟩:=he
 have hlen:=Lib.splitB_all ⟨⟨[10]⟩⟩ (by decide) 0 _ s rfl
 refine⟨ownsB_row ⟨by rw[List.length_map,hlen]; omega,.inr ⟨w.heap.size,Lib.countB s ⟨⟨[10]⟩⟩+1,((Lib.splitB ⟨⟨[10]⟩⟩ 0 (Lib.countB s ⟨⟨[10]⟩⟩) s).map Value.string).toArray,rfl,Nat.le_refl _,heap_alloc_new w _,Nat.le_refl _,?_,?_,?_⟩⟩,⟨rfl,rfl,rfl,by simp,fun j hj=>Go.RowKit.Below.heap_alloc w _ j hj⟩⟩
 ·have:=Lib.countB_le ⟨⟨[10]⟩⟩ (by decide) s.size s (Nat.le_refl _)
  simp[maxLen]; omega
 ·simp[hlen]
 ·rw[List.take_of_length_le (by simp[hlen])]
theorem fresh_drew (w:World) (k:Nat):Fresh w (w.drewN k):=⟨rfl,rfl,rfl,by simp[World.drewN],fun j hj=>rfl⟩
theorem cutC (s p:B) (w:World) (hs:s.length≤1000000) (hL:LibAt w):CallsV Tryz.prog 112 [.string ⟨⟨s⟩⟩,.string ⟨⟨p⟩⟩] w fun v w'=>v=.tuple #[.string ⟨⟨(Lib.cut s p).1⟩⟩,.string ⟨⟨(Lib.cut s p).2.1⟩⟩,.bool (Lib.cut s p).2.2]∧Fresh w w':=by
 obtain⟨⟨m,h1⟩,_,_⟩:=hL
 refine Calls.mono (Any.strings_Cut layCut ⟨⟨s⟩⟩ ⟨⟨p⟩⟩ m w (by show s.length < _; omega) h1) fun e w' he=>?_
 obtain⟨rfl,n,rfl⟩:=he
 exact⟨rfl,fresh_drew w n⟩
theorem trimC (s:B) (w:World) (hs:s.length≤1000000):CallsV Tryz.prog 113 [.string ⟨⟨s⟩⟩,.string ⟨⟨[32,9]⟩⟩] w fun v w'=>v=.string ⟨⟨trimBl s⟩⟩∧Fresh w w':=by
 refine Calls.mono (Any.strings_Trim_laid layTrim (by kernel_rfl) ⟨⟨s⟩⟩ ⟨⟨[32,9]⟩⟩ w (by show s.length≤_; omega) (by decide) (ascii_of_all (by decide))) fun e w' he=>?_
 obtain⟨rfl,hb⟩:=he
 refine⟨?_,zj3b hb⟩
 show Value.string ⟨(Lib.trimS s [32,9]).toArray⟩=_
 rw[trim_bl]
theorem sufC (s p:B) (w:World) (hs:s.length≤1000000):CallsV Tryz.prog 93 [.string ⟨⟨s⟩⟩,.string ⟨⟨p⟩⟩] w fun v w'=>v=.tuple #[.string ⟨⟨Lib.trimSuffix s p⟩⟩,.bool (Lib.hasSuffix s p)]∧Fresh w w':=by
 refine Calls.mono (Any.strings_CutSuffix laySuf ⟨⟨s⟩⟩ ⟨⟨p⟩⟩ w (by show s.length≤_; omega)) fun e w' he=>?_
 obtain⟨rfl,rfl⟩:=he
 exact⟨rfl,Fresh.refl _⟩
theorem preC (s p:B) (w:World):CallsV Tryz.prog 119 [.string ⟨⟨s⟩⟩,.string ⟨⟨p⟩⟩] w fun v w'=>v=.bool (Lib.hasPrefix s p)∧Fresh w w':=by
 refine Calls.mono (Any.strings_HasPrefix layPre ⟨⟨s⟩⟩ ⟨⟨p⟩⟩ w) fun e w' he=>?_
 obtain⟨rfl,rfl⟩:=he
 exact⟨rfl,Fresh.refl _⟩
theorem lastC (s:B) (c:Int) (w:World) (hs:s.length≤1000000):CallsV Tryz.prog 117 [.string ⟨⟨s⟩⟩,.int .u8 c] w fun v w'=>v=.int .i64 (Lib.lastIndexByte ⟨⟨s⟩⟩ c)∧Fresh w w':=by
 refine Calls.mono (Any.strings_LastIndexByte layLast ⟨⟨s⟩⟩ c (by show s.length < _; omega) w) fun e w' he=>?_
 obtain⟨rfl,rfl⟩:=he
 exact⟨rfl,Fresh.refl _⟩
end Go.Proofs.YtgghmmjoplddbaaGreatDoor
