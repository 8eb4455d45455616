/- The kit's shelf contracts of strconv.Itoa, Atoi, strings.Split, Cut, Trim, CutSuffix, HasPrefix, LastIndexByte, laid at this program (the texts printed by tools/ShText). -/
import Derived.Shelf.Strconv.Itoa3
import Derived.Shelf.Strconv.AtoiAll
import Derived.Shelf.Strings.Split
import Derived.Shelf.Strings.Cut
import Derived.Shelf.Strings.SlTrimAscii
import Derived.Shelf.Small.Wraps
import Derived.Shelf.Strings.Prefix
import Derived.Shelf.Strings.LastIndex
import Derived.Shelf.Strconv.ErrVarAll
import Derived.Test.YtaiajnehnjnadaaDoorProg
import Derived.Test.YtaiajnehnjnadaaDoorSxStill
import Derived.Test.YtaiajnehnjnadaaDoorIsaSpec
import Derived.KernelRfl
set_option linter.unusedSimpArgs false
set_option linter.unusedVariables false
set_option linter.unnecessarySimpa false
namespace Go.Proofs.YtaiajnehnjnadaaDoor
open Go Go.Sx Go.Shelf Go.Isa Go.Asm
set_option maxRecDepth 100000
def layItoa_ren:Go.Shelf.Ren:=⟨fun | 129=>73 | 171=>16 | 243=>29 | 246=>45 | 283=>55 | 284=>56 | 285=>57 | 286=>58 | 317=>72 | 318=>74 | 319=>75 | 320=>76 | 337=>87 | 338=>88 | n=>n,fun | 37=>31 | 46=>121 | 51=>119 | 53=>101 | 171=>100 | 173=>104 | 212=>118 | 213=>120 | 232=>139 | 233=>140 | n=>n,fun | 17=>2 | 18=>3 | 19=>4 | n=>n⟩
theorem layItoa:Go.Proofs.LaysM.n171 Tryd.prog layItoa_ren:={
 mixed:=by kernel_rfl,
 f129:=by first | exact Tryd.func73.trans (congrArg some (by kernel_rfl)) | exact⟨Tryd.f73.name,by kernel_rfl,Tryd.func73.trans (congrArg some (by kernel_rfl))⟩,
 f171:=by first | exact Tryd.func16.trans (congrArg some (by kernel_rfl)) | exact⟨Tryd.f16.name,by kernel_rfl,Tryd.func16.trans (congrArg some (by kernel_rfl))⟩,
 f243:=by first | exact Tryd.func29.trans (congrArg some (by kernel_rfl)) | exact⟨Tryd.f29.name,by kernel_rfl,Tryd.func29.trans (congrArg some (by kernel_rfl))⟩,
 f246:=by first | exact Tryd.func45.trans (congrArg some (by kernel_rfl)) | exact⟨Tryd.f45.name,by kernel_rfl,Tryd.func45.trans (congrArg some (by kernel_rfl))⟩,
 f283:=by first | exact Tryd.func55.trans (congrArg some (by kernel_rfl)) | exact⟨Tryd.f55.name,by kernel_rfl,Tryd.func55.trans (congrArg some (by kernel_rfl))⟩,
 f284:=by first | exact Tryd.func56.trans (congrArg some (by kernel_rfl)) | exact⟨Tryd.f56.name,by kernel_rfl,Tryd.func56.trans (congrArg some (by kernel_rfl))⟩,
 f285:=by first | exact Tryd.func57.trans (congrArg some (by kernel_rfl)) | exact⟨Tryd.f57.name,by kernel_rfl,Tryd.func57.trans (congrArg some (by kernel_rfl))⟩,
 f286:=by first | exact Tryd.func58.trans (congrArg some (by kernel_rfl)) | exact⟨Tryd.f58.name,by kernel_rfl,Tryd.func58.trans (congrArg some (by kernel_rfl))⟩,
 f317:=by first | exact Tryd.func72.trans (congrArg some (by kernel_rfl)) | exact⟨Tryd.f72.name,by kernel_rfl,Tryd.func72.trans (congrArg some (by kernel_rfl))⟩,
 f318:=by first | exact Tryd.func74.trans (congrArg some (by kernel_rfl)) | exact⟨Tryd.f74.name,by kernel_rfl,Tryd.func74.trans (congrArg some (by kernel_rfl))⟩,
 f319:=by first | exact Tryd.func75.trans (congrArg some (by kernel_rfl)) | exact⟨Tryd.f75.name,by kernel_rfl,Tryd.func75.trans (congrArg some (by kernel_rfl))⟩,
 f320:=by first | exact Tryd.func76.trans (congrArg some (by kernel_rfl)) | exact⟨Tryd.f76.name,by kernel_rfl,Tryd.func76.trans (congrArg some (by kernel_rfl))⟩,
 f337:=by first | exact Tryd.func87.trans (congrArg some (by kernel_rfl)) | exact⟨Tryd.f87.name,by kernel_rfl,Tryd.func87.trans (congrArg some (by kernel_rfl))⟩,
 f338:=by first | exact Tryd.func88.trans (congrArg some (by kernel_rfl)) | exact⟨Tryd.f88.name,by kernel_rfl,Tryd.func88.trans (congrArg some (by kernel_rfl))⟩,
 t0:=Tryd.underlying0,
 a0:=Tryd.isAgg0,
 z0:=Tryd.sizeOf0,
 v0:=Tryd.zeroValue0,
 t2:=Tryd.underlying2,
 a2:=Tryd.isAgg2,
 z2:=Tryd.sizeOf2,
 v2:=Tryd.zeroValue2,
 t3:=Tryd.underlying3,
 a3:=Tryd.isAgg3,
 z3:=Tryd.sizeOf3,
 v3:=Tryd.zeroValue3,
 t4:=Tryd.underlying4,
 a4:=Tryd.isAgg4,
 z4:=Tryd.sizeOf4,
 v4:=Tryd.zeroValue4,
 t5:=Tryd.underlying5,
 a5:=Tryd.isAgg5,
 z5:=Tryd.sizeOf5,
 v5:=Tryd.zeroValue5,
 t9:=Tryd.underlying9,
 a9:=Tryd.isAgg9,
 z9:=Tryd.sizeOf9,
 v9:=Tryd.zeroValue9,
 t20:=Tryd.underlying20,
 a20:=Tryd.isAgg20,
 z20:=Tryd.sizeOf20,
 v20:=Tryd.zeroValue20,
 t37:=Tryd.underlying31,
 a37:=Tryd.isAgg31,
 z37:=Tryd.sizeOf31,
 v37:=Tryd.zeroValue31,
 t46:=Tryd.underlying121,
 a46:=Tryd.isAgg121,
 z46:=Tryd.sizeOf121,
 v46:=Tryd.zeroValue121,
 t51:=Tryd.underlying119,
 a51:=Tryd.isAgg119,
 z51:=Tryd.sizeOf119,
 v51:=Tryd.zeroValue119,
 t53:=Tryd.underlying101,
 a53:=Tryd.isAgg101,
 z53:=Tryd.sizeOf101,
 v53:=Tryd.zeroValue101,
 t171:=Tryd.underlying100,
 a171:=Tryd.isAgg100,
 z171:=Tryd.sizeOf100,
 v171:=Tryd.zeroValue100,
 t173:=Tryd.underlying104,
 a173:=Tryd.isAgg104,
 z173:=Tryd.sizeOf104,
 v173:=Tryd.zeroValue104,
 t212:=Tryd.underlying118,
 a212:=Tryd.isAgg118,
 z212:=Tryd.sizeOf118,
 v212:=Tryd.zeroValue118,
 t213:=Tryd.underlying120,
 a213:=Tryd.isAgg120,
 z213:=Tryd.sizeOf120,
 t232:=Tryd.underlying139,
 a232:=Tryd.isAgg139,
 z232:=Tryd.sizeOf139,
 v232:=Tryd.zeroValue139,
 t233:=Tryd.underlying140,
 a233:=Tryd.isAgg140,
 z233:=Tryd.sizeOf140,
 v233:=Tryd.zeroValue140,
 g17:=by kernel_rfl,
 g18:=by kernel_rfl,
 g19:=by kernel_rfl,
 i0:=by kernel_rfl,
 i2:=by kernel_rfl,
 i3:=by kernel_rfl,
 i4:=by kernel_rfl,
 i5:=by kernel_rfl,
 i9:=by kernel_rfl,
 i20:=by kernel_rfl,
 i37:=by kernel_rfl,
 i46:=by kernel_rfl,
 i51:=by kernel_rfl,
 i53:=by kernel_rfl,
 i171:=by kernel_rfl,
 i173:=by kernel_rfl,
 i212:=by kernel_rfl,
 i232:=by kernel_rfl,
 i233:=by kernel_rfl,
 m17:=by kernel_rfl,
 m18:=by kernel_rfl,
 m19:=by kernel_rfl }
def layPre_ren:Go.Shelf.Ren:=⟨fun | 99=>27 | 206=>43 | n=>n,fun | n=>n,fun | n=>n⟩
theorem layPre:Go.Proofs.Lays.n99 Tryd.prog layPre_ren:={
 mixed:=by kernel_rfl,
 f99:=by first | exact Tryd.func27.trans (congrArg some (by kernel_rfl)) | exact⟨Tryd.f27.name,by kernel_rfl,Tryd.func27.trans (congrArg some (by kernel_rfl))⟩,
 f206:=by first | exact Tryd.func43.trans (congrArg some (by kernel_rfl)) | exact⟨Tryd.f43.name,by kernel_rfl,Tryd.func43.trans (congrArg some (by kernel_rfl))⟩,
 t3:=Tryd.underlying3,
 a3:=Tryd.isAgg3,
 z3:=Tryd.sizeOf3,
 v3:=Tryd.zeroValue3,
 t4:=Tryd.underlying4,
 a4:=Tryd.isAgg4,
 z4:=Tryd.sizeOf4,
 v4:=Tryd.zeroValue4,
 t9:=Tryd.underlying9,
 a9:=Tryd.isAgg9,
 z9:=Tryd.sizeOf9,
 v9:=Tryd.zeroValue9 }
def layLast_ren:Go.Shelf.Ren:=⟨fun | 149=>18 | 222=>32 | n=>n,fun | n=>n,fun | n=>n⟩
theorem layLast:Go.Proofs.Lays.n149 Tryd.prog layLast_ren:={
 mixed:=by kernel_rfl,
 f149:=by first | exact Tryd.func18.trans (congrArg some (by kernel_rfl)) | exact⟨Tryd.f18.name,by kernel_rfl,Tryd.func18.trans (congrArg some (by kernel_rfl))⟩,
 f222:=by first | exact Tryd.func32.trans (congrArg some (by kernel_rfl)) | exact⟨Tryd.f32.name,by kernel_rfl,Tryd.func32.trans (congrArg some (by kernel_rfl))⟩,
 t3:=Tryd.underlying3,
 a3:=Tryd.isAgg3,
 z3:=Tryd.sizeOf3,
 v3:=Tryd.zeroValue3,
 t4:=Tryd.underlying4,
 a4:=Tryd.isAgg4,
 z4:=Tryd.sizeOf4,
 v4:=Tryd.zeroValue4,
 t5:=Tryd.underlying5,
 a5:=Tryd.isAgg5,
 z5:=Tryd.sizeOf5,
 v5:=Tryd.zeroValue5,
 t9:=Tryd.underlying9,
 a9:=Tryd.isAgg9,
 z9:=Tryd.sizeOf9,
 v9:=Tryd.zeroValue9 }
def TabAt (w : World) : Prop := Lib.TabIs Tryd.prog w "internal/strconv.uint64pow10" .u64 Lib.pow10Tab
theorem gTab : Tryd.prog.globalNamed "internal/strconv.uint64pow10" = some 2 := by kernel_rfl
theorem TabAt.keep {w w':World} (h:TabAt w) (k:Fresh w w'):TabAt w':=by
 unfold TabAt Lib.TabIs World.var? at *
 rw[gTab] at h ⊢
 simp only[Option.bind_some] at h ⊢
 have hlt:2 < w.heap.size:=by
  by_cases hl:2 < w.heap.size
  ·exact hl
  ·rw[Array.getElem?_eq_none (by omega)] at h; cases h
 rw[k.block 2 hlt]; exact h
theorem fresh_grow (w:World) (k:Nat) (os:Array Obj):Fresh w (Sort.grow (w.drewN k) os) :=
 ⟨rfl,rfl,rfl,by simp[Sort.grow,World.drewN],fun j hj=>by
  show (w.heap++os)[j]? = w.heap[j]?
  rw[Array.getElem?_append_left hj]⟩
theorem itoa41 (n:Int) (w:World) (h0 : -9223372036854775808≤n) (h1:n≤9223372036854775807) (hT:TabAt w):CallsV Tryd.prog 16 [.int .i64 n] w fun v w'=>v=.string ⟨⟨Lib.itoa n⟩⟩∧Fresh w w':=by
 refine Calls.mono (Any.strconv_Itoa layItoa n h0 h1 w hT) fun e w' he=>?_
 obtain⟨rfl,k,os,rfl⟩:=he
 exact⟨rfl,fresh_grow w k os⟩
theorem zj22 {w w':World} {g:Nat} {v:Value} (h:w.cell? ⟨g,0,none⟩=some v) (k:Fresh w w'):w'.cell? ⟨g,0,none⟩=some v:=by
 refine (cell_keep k ?_).trans h
 unfold World.cell? at h
 split at h
 ·rename_i e; exact (Array.getElem?_eq_some_iff.1 e).1
 ·cases h
structure LibAt (w:World):Prop where
 max:∃ m,w.cell? ⟨1,0,none⟩=some (.int .i64 m)
 syn:∃ t p,w.cell? ⟨7,0,none⟩=some (.iface t p)
 rng:∃ t p,w.cell? ⟨8,0,none⟩=some (.iface t p)
theorem LibAt.keep {w w':World} (h:LibAt w) (k:Fresh w w'):LibAt w':=by
 obtain⟨⟨m,h1⟩,⟨t,p,h2⟩,⟨t',p',h3⟩⟩:=h
 exact⟨⟨m,zj22 h1 k⟩,⟨t,p,zj22 h2 k⟩,⟨t',p',zj22 h3 k⟩⟩
theorem preC (s p:B) (w:World):CallsV Tryd.prog 27 [.string ⟨⟨s⟩⟩,.string ⟨⟨p⟩⟩] w fun v w'=>v=.bool (Lib.hasPrefix s p)∧Fresh w w':=by
 refine Calls.mono (Any.strings_HasPrefix layPre ⟨⟨s⟩⟩ ⟨⟨p⟩⟩ w) fun e w' he=>?_
 obtain⟨rfl,rfl⟩:=he
 exact⟨rfl,Fresh.refl _⟩
theorem lastC (s:B) (c:Int) (w:World) (hs:s.length≤1000000):CallsV Tryd.prog 18 [.string ⟨⟨s⟩⟩,.int .u8 c] w fun v w'=>v=.int .i64 (Lib.lastIndexByte ⟨⟨s⟩⟩ c)∧Fresh w w':=by
 refine Calls.mono (Any.strings_LastIndexByte layLast ⟨⟨s⟩⟩ c (by show s.length < _; omega) w) fun e w' he=>?_
 obtain⟨rfl,rfl⟩:=he
 exact⟨rfl,Fresh.refl _⟩
end Go.Proofs.YtaiajnehnjnadaaDoor
