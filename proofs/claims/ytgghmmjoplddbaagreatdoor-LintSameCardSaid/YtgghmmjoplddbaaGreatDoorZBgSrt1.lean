/- cmp.Or and cmp.Compare at int, and what SortFunc is given, by the kit's tactics. -/
import Derived.Shelf.Lay
import Derived.Sort.Grow
import Derived.WalkKit
import Derived.Deep.RegionHeld
import Derived.Deep.RegionWith
import Derived.Deep.Draws
import Derived.Deep.LoopGhost
import Derived.Ground.NamesProg
import Derived.Test.YtgghmmjoplddbaaGreatDoorProg
import Derived.Shelf.SlSortCmp.NoneTotal
import Derived.Ground.SlsfProg
import Derived.Test.YtgghmmjoplddbaaGreatDoorIsaSpec
set_option linter.unusedSimpArgs false
set_option linter.unusedVariables false
set_option linter.unnecessarySimpa false
namespace Go.Proofs.YtgghmmjoplddbaaGreatDoor
open Go Go.Proofs Go.Shelf Go.RowKit Go.Sort
set_option linter.unusedVariables false
set_option maxRecDepth 100000
set_option maxHeartbeats 1000000 in
theorem or44 (a b:Int) (g:Nat) (W:World) (h0:W.cell? ⟨g,0,none⟩=some (.int .i64 a)) (h1:W.cell? ⟨g,1,none⟩=some (.int .i64 b)) :
  Calls Tryz.prog 24 #[.slice (some ⟨g,0,none⟩) 2 2] W fun e w'=>e=.returned (.int .i64 (if a=0 then b else a))∧w'=W:=by
 by_cases ha:a=0
 ·subst ha
  by_cases hb:b=0
  ·subst hb
   go_enter Tryz.func24,Tryz.ntmps24
   go_wp2
   refine wp_loop_rounds 3 ?_
   rw[rounds_succ]
   go_wp2
   rw[rounds_succ]
   go_wp2
   rw[rounds_succ]
   go_wp2
   go_ret
   exact⟨rfl,rfl⟩
  ·go_enter Tryz.func24,Tryz.ntmps24
   go_wp2
   refine wp_loop_rounds 2 ?_
   rw[rounds_succ]
   go_wp2
   rw[rounds_succ]
   go_wp2
   go_ret
   exact⟨rfl,rfl⟩
 ·go_enter Tryz.func24,Tryz.ntmps24
  go_wp2
  refine wp_loop_rounds 1 ?_
  rw[rounds_succ]
  go_wp2
  go_ret
  exact⟨rfl,rfl⟩
theorem nan77 (x:Int) (W:World):Calls Tryz.prog 47 #[.int .i64 x] W fun e w'=>e=.returned (.bool false)∧w'=W:=by
 go_enter Tryz.func47,Tryz.ntmps47
 go_wp2
 go_ret
 exact⟨by simp,rfl⟩
set_option maxHeartbeats 1000000 in
theorem compare45 (x y:Int) (W:World):Calls Tryz.prog 25 #[.int .i64 x,.int .i64 y] W fun e w'=>e=.returned (.int .i64 (if x < y then -1 else if y < x then 1 else 0))∧w'=W:=by
 have hn:∀ x W',Calls Tryz.prog 47 #[.int .i64 x] W' fun e w'=>e=.returned (.bool false)∧w'=W':=nan77
 by_cases h1:x < y
 ·go_enter Tryz.func25,Tryz.ntmps25
  go_wp2_with (go_at_call 47; refine (hn _ _).mono ?_; rintro e w' ⟨rfl,rfl⟩)
  go_ret
  exact⟨rfl,rfl⟩
 ·by_cases h2:y < x
  ·go_enter Tryz.func25,Tryz.ntmps25
   go_wp2_with (go_at_call 47; refine (hn _ _).mono ?_; rintro e w' ⟨rfl,rfl⟩)
   go_ret
   exact⟨rfl,rfl⟩
  ·go_enter Tryz.func25,Tryz.ntmps25
   go_wp2_with (go_at_call 47; refine (hn _ _).mono ?_; rintro e w' ⟨rfl,rfl⟩)
   go_ret
   exact⟨rfl,rfl⟩
def cmpF (x y:Int × Int):Int:=if (if x.1 < y.1 then -1 else if y.1 < x.1 then 1 else 0:Int)=0 then (if x.2 < y.2 then -1 else if y.2 < x.2 then 1 else 0) else (if x.1 < y.1 then -1 else if y.1 < x.1 then 1 else 0)
set_option maxHeartbeats 2000000 in
theorem closure43 (x1 x2 y1 y2:Int) (W:World):Calls Tryz.prog 23 #[.agg #[.int .i64 x1,.int .i64 x2],.agg #[.int .i64 y1,.int .i64 y2]] W fun e w'=>e=.returned (.int .i64 (cmpF (x1,x2) (y1,y2)))∧∃ q os',w'=grow (W.drewN q) os':=by
 have hc:=compare45
 have ho:=or44
 unfold cmpF
 simp only
 have hc1:=fun W'=>hc x1 y1 W'
 have hc2:=fun W'=>hc x2 y2 W'
 generalize (if x1 < y1 then -1 else if y1 < x1 then 1 else 0:Int)=r1 at hc1 ⊢
 generalize (if x2 < y2 then -1 else if y2 < x2 then 1 else 0:Int)=r2 at hc2 ⊢
 have ho':=fun g W'=>ho r1 r2 g W'
 generalize (if r1=0 then r2 else r1)=rr at ho' ⊢
 go_enter Tryz.func23,Tryz.ntmps23
 go_wp2_with fail
 have c1:((W.alloc (Obj.cells #[Value.int IntKind.i64 x1,Value.int IntKind.i64 x2] 33)).alloc (Obj.cells #[Value.int IntKind.i64 y1,Value.int IntKind.i64 y2] 33)).cell? ⟨W.heap.size,0,none⟩=some (.int .i64 x1):=by
  rw[World.cell?_alloc_past _ _ _ (by simp),World.cell?_alloc_at _ _ _ _ rfl]; rfl
 have c2:((W.alloc (Obj.cells #[Value.int IntKind.i64 x1,Value.int IntKind.i64 x2] 33)).alloc (Obj.cells #[Value.int IntKind.i64 y1,Value.int IntKind.i64 y2] 33)).cell? ⟨W.heap.size,1,none⟩=some (.int .i64 x2):=by
  rw[World.cell?_alloc_past _ _ _ (by simp),World.cell?_alloc_at _ _ _ _ rfl]; rfl
 have c3:((W.alloc (Obj.cells #[Value.int IntKind.i64 x1,Value.int IntKind.i64 x2] 33)).alloc (Obj.cells #[Value.int IntKind.i64 y1,Value.int IntKind.i64 y2] 33)).cell? ⟨W.heap.size+1,0,none⟩=some (.int .i64 y1):=by
  rw[World.cell?_alloc_at _ _ _ _ (by simp)]; rfl
 have c4:((W.alloc (Obj.cells #[Value.int IntKind.i64 x1,Value.int IntKind.i64 x2] 33)).alloc (Obj.cells #[Value.int IntKind.i64 y1,Value.int IntKind.i64 y2] 33)).cell? ⟨W.heap.size+1,1,none⟩=some (.int .i64 y2):=by
  rw[World.cell?_alloc_at _ _ _ _ (by simp)]; rfl
 have hg:(W.alloc (Obj.cells #[Value.int IntKind.i64 x1,Value.int IntKind.i64 x2] 33)).alloc (Obj.cells #[Value.int IntKind.i64 y1,Value.int IntKind.i64 y2] 33)=grow W #[Obj.cells #[Value.int IntKind.i64 x1,Value.int IntKind.i64 x2] 33,Obj.cells #[Value.int IntKind.i64 y1,Value.int IntKind.i64 y2] 33]:=by
  rw[alloc_eq_grow,alloc_eq_grow,grow_grow]; rfl
 generalize (W.alloc (Obj.cells #[Value.int IntKind.i64 x1,Value.int IntKind.i64 x2] 33)).alloc (Obj.cells #[Value.int IntKind.i64 y1,Value.int IntKind.i64 y2] 33)=W2 at c1 c2 c3 c4 hg ⊢
 generalize W.heap.size+1=q at c3 c4 ⊢
 generalize W.heap.size=p at c1 c2 ⊢
 have A:Aside (W2=grow W #[Obj.cells #[Value.int IntKind.i64 x1,Value.int IntKind.i64 x2] 33,Obj.cells #[Value.int IntKind.i64 y1,Value.int IntKind.i64 y2] 33]):=hg
 have k0:(W2.alloc (Obj.cells #[.int .i64 r1,.int .i64 r2] 3)).drew.cell? ⟨W2.heap.size,0,none⟩=some (.int .i64 r1):=by
  show (W2.alloc (Obj.cells #[.int .i64 r1,.int .i64 r2] 3)).cell? _=_
  rw[World.cell?_alloc_at _ _ _ _ rfl]; rfl
 have k1:(W2.alloc (Obj.cells #[.int .i64 r1,.int .i64 r2] 3)).drew.cell? ⟨W2.heap.size,1,none⟩=some (.int .i64 r2):=by
  show (W2.alloc (Obj.cells #[.int .i64 r1,.int .i64 r2] 3)).cell? _=_
  rw[World.cell?_alloc_at _ _ _ _ rfl]; rfl
 have ho1:=ho' W2.heap.size _ k0 k1
 clear hg hc ho k0 k1 ho'
 go_region_held (fun w'=>w'.cell? ⟨p,0,none⟩=some (.int .i64 x1)∧w'.cell? ⟨p,1,none⟩=some (.int .i64 x2)∧w'.cell? ⟨q,0,none⟩=some (.int .i64 y1)∧w'.cell? ⟨q,1,none⟩=some (.int .i64 y2)) (go_keep)
  (first | (go_at_call_of 25 (Value.int .i64 x1); refine (hc1 _).mono ?_; rintro e w' ⟨rfl,rfl⟩) | (go_at_call_of 25 (Value.int .i64 x2); refine (hc2 _).mono ?_; rintro e w' ⟨rfl,rfl⟩) | (go_at_call 24; refine ho1.mono ?_; rintro e w' ⟨rfl,rfl⟩))
 all_goals go_wp2
 all_goals go_ret
 exact⟨rfl,1,_,by rw[alloc_eq_grow,A,grow_grow]; rfl⟩
end Go.Proofs.YtgghmmjoplddbaaGreatDoor
namespace Go.Proofs.YtgghmmjoplddbaaGreatDoor
open Go Go.Shelf Go.RowKit Go.Proofs
set_option maxRecDepth 100000
def lays42_ren:Go.Shelf.Ren:=⟨fun | 6=>22 | 14=>45 | 15=>46 | 20=>70 | 21=>71 | 22=>72 | 23=>73 | 24=>74 | 25=>75 | 26=>76 | 27=>77 | 28=>78 | 29=>79 | 46=>98 | 47=>99 | 48=>100 | 49=>101 | 50=>102 | 57=>121 | n=>n,fun | 22=>28 | 24=>33 | 25=>74 | 39=>105 | 45=>150 | 46=>151 | 50=>155 | 53=>158 | 55=>23 | 66=>178 | 70=>182 | 76=>198 | 77=>199 | n=>n,fun | n=>n⟩
theorem lays42:Go.Proofs.SlLaysF0.n6 Tryz.prog lays42_ren:={
 mixed:=by kernel_rfl,
 f6:=by first | exact Tryz.func22.trans (congrArg some (by kernel_rfl)) | exact⟨Tryz.f22.name,by kernel_rfl,Tryz.func22.trans (congrArg some (by kernel_rfl))⟩,
 f14:=by first | exact Tryz.func45.trans (congrArg some (by kernel_rfl)) | exact⟨Tryz.f45.name,by kernel_rfl,Tryz.func45.trans (congrArg some (by kernel_rfl))⟩,
 f15:=by first | exact Tryz.func46.trans (congrArg some (by kernel_rfl)) | exact⟨Tryz.f46.name,by kernel_rfl,Tryz.func46.trans (congrArg some (by kernel_rfl))⟩,
 f20:=by first | exact Tryz.func70.trans (congrArg some (by kernel_rfl)) | exact⟨Tryz.f70.name,by kernel_rfl,Tryz.func70.trans (congrArg some (by kernel_rfl))⟩,
 f21:=by first | exact Tryz.func71.trans (congrArg some (by kernel_rfl)) | exact⟨Tryz.f71.name,by kernel_rfl,Tryz.func71.trans (congrArg some (by kernel_rfl))⟩,
 f22:=by first | exact Tryz.func72.trans (congrArg some (by kernel_rfl)) | exact⟨Tryz.f72.name,by kernel_rfl,Tryz.func72.trans (congrArg some (by kernel_rfl))⟩,
 f23:=by first | exact Tryz.func73.trans (congrArg some (by kernel_rfl)) | exact⟨Tryz.f73.name,by kernel_rfl,Tryz.func73.trans (congrArg some (by kernel_rfl))⟩,
 f24:=by first | exact Tryz.func74.trans (congrArg some (by kernel_rfl)) | exact⟨Tryz.f74.name,by kernel_rfl,Tryz.func74.trans (congrArg some (by kernel_rfl))⟩,
 f25:=by first | exact Tryz.func75.trans (congrArg some (by kernel_rfl)) | exact⟨Tryz.f75.name,by kernel_rfl,Tryz.func75.trans (congrArg some (by kernel_rfl))⟩,
 f26:=by first | exact Tryz.func76.trans (congrArg some (by kernel_rfl)) | exact⟨Tryz.f76.name,by kernel_rfl,Tryz.func76.trans (congrArg some (by kernel_rfl))⟩,
 f27:=by first | exact Tryz.func77.trans (congrArg some (by kernel_rfl)) | exact⟨Tryz.f77.name,by kernel_rfl,Tryz.func77.trans (congrArg some (by kernel_rfl))⟩,
 f28:=by first | exact Tryz.func78.trans (congrArg some (by kernel_rfl)) | exact⟨Tryz.f78.name,by kernel_rfl,Tryz.func78.trans (congrArg some (by kernel_rfl))⟩,
 f29:=by first | exact Tryz.func79.trans (congrArg some (by kernel_rfl)) | exact⟨Tryz.f79.name,by kernel_rfl,Tryz.func79.trans (congrArg some (by kernel_rfl))⟩,
 f46:=by first | exact Tryz.func98.trans (congrArg some (by kernel_rfl)) | exact⟨Tryz.f98.name,by kernel_rfl,Tryz.func98.trans (congrArg some (by kernel_rfl))⟩,
 f47:=by first | exact Tryz.func99.trans (congrArg some (by kernel_rfl)) | exact⟨Tryz.f99.name,by kernel_rfl,Tryz.func99.trans (congrArg some (by kernel_rfl))⟩,
 f48:=by first | exact Tryz.func100.trans (congrArg some (by kernel_rfl)) | exact⟨Tryz.f100.name,by kernel_rfl,Tryz.func100.trans (congrArg some (by kernel_rfl))⟩,
 f49:=by first | exact Tryz.func101.trans (congrArg some (by kernel_rfl)) | exact⟨Tryz.f101.name,by kernel_rfl,Tryz.func101.trans (congrArg some (by kernel_rfl))⟩,
 f50:=by first | exact Tryz.func102.trans (congrArg some (by kernel_rfl)) | exact⟨Tryz.f102.name,by kernel_rfl,Tryz.func102.trans (congrArg some (by kernel_rfl))⟩,
 f57:=by first | exact Tryz.func121.trans (congrArg some (by kernel_rfl)) | exact⟨Tryz.f121.name,by kernel_rfl,Tryz.func121.trans (congrArg some (by kernel_rfl))⟩,
 t0:=Tryz.underlying0,
 a0:=Tryz.isAgg0,
 z0:=Tryz.sizeOf0,
 v0:=Tryz.zeroValue0,
 t3:=Tryz.underlying3,
 a3:=Tryz.isAgg3,
 z3:=Tryz.sizeOf3,
 v3:=Tryz.zeroValue3,
 t4:=Tryz.underlying4,
 a4:=Tryz.isAgg4,
 z4:=Tryz.sizeOf4,
 v4:=Tryz.zeroValue4,
 t5:=Tryz.underlying5,
 a5:=Tryz.isAgg5,
 z5:=Tryz.sizeOf5,
 v5:=Tryz.zeroValue5,
 t9:=Tryz.underlying9,
 a9:=Tryz.isAgg9,
 z9:=Tryz.sizeOf9,
 v9:=Tryz.zeroValue9,
 t22:=Tryz.underlying28,
 a22:=Tryz.isAgg28,
 z22:=Tryz.sizeOf28,
 v22:=Tryz.zeroValue28,
 t25:=Tryz.underlying74,
 a25:=Tryz.isAgg74,
 z25:=Tryz.sizeOf74,
 v25:=Tryz.zeroValue74,
 t39:=Tryz.underlying105,
 a39:=Tryz.isAgg105,
 z39:=Tryz.sizeOf105,
 v39:=Tryz.zeroValue105,
 t45:=Tryz.underlying150,
 a45:=Tryz.isAgg150,
 z45:=Tryz.sizeOf150,
 v45:=Tryz.zeroValue150,
 t46:=Tryz.underlying151,
 a46:=Tryz.isAgg151,
 z46:=Tryz.sizeOf151,
 v46:=Tryz.zeroValue151,
 t50:=Tryz.underlying155,
 a50:=Tryz.isAgg155,
 z50:=Tryz.sizeOf155,
 v50:=Tryz.zeroValue155,
 t53:=Tryz.underlying158,
 a53:=Tryz.isAgg158,
 z53:=Tryz.sizeOf158,
 v53:=Tryz.zeroValue158,
 t55:=Tryz.underlying23,
 a55:=Tryz.isAgg23,
 z55:=Tryz.sizeOf23,
 v55:=Tryz.zeroValue23,
 t66:=Tryz.underlying178,
 a66:=Tryz.isAgg178,
 z66:=Tryz.sizeOf178,
 v66:=Tryz.zeroValue178,
 t70:=Tryz.underlying182,
 a70:=Tryz.isAgg182,
 z70:=Tryz.sizeOf182,
 v70:=Tryz.zeroValue182,
 t76:=Tryz.underlying198,
 a76:=Tryz.isAgg198,
 z76:=Tryz.sizeOf198,
 v76:=Tryz.zeroValue198,
 t77:=Tryz.underlying199,
 a77:=Tryz.isAgg199,
 z77:=Tryz.sizeOf199,
 v77:=Tryz.zeroValue199 }
open Go.Sx Go.Isa Go.Lint Go.Sort
set_option linter.unusedVariables false
def encF (x:Int × Int):List Value:=[.int .i64 x.1,.int .i64 x.2]
theorem cmpLays43 (blk off size:Nat) (w:World):CmpLays Tryz.prog 23 #[] encF 2 cmpF blk off size w :=
 fun _ _ _ _ x y=>closure43 x.1 x.2 y.1 y.2 _
theorem zj4y (x y:Int × Int):ltOf cmpF x y=decide (x.1 < y.1∨x.1=y.1∧x.2 < y.2):=by
 unfold ltOf cmpF
 rw[decide_eq_decide]
 by_cases h1:x.1 < y.1
 ·simp[h1]
 ·by_cases h2:y.1 < x.1
  ·simp[h1,h2]; omega
  ·have:x.1=y.1:=by omega
   by_cases h3:x.2 < y.2
   ·simp[h1,h2,h3]; omega
   ·by_cases h4:y.2 < x.2
    ·simp[h1,h2,h3,h4]
    ·simp[h1,h2,h3,h4]
theorem swo_cmpF:SWO (ltOf cmpF) where
 irrefl x:=by rw[zj4y]; simp
 trans x y z h1 h2:=by rw[zj4y] at *; simp at *; omega
 ntrans x y z h1 h2:=by rw[zj4y] at *; simp at *; omega
def leF2 (x y:Int × Int):Bool:=!ltOf cmpF y x
def srt (l:List (Int × Int)):List (Int × Int):=l.mergeSort leF2
theorem flat_fs (l:List (Int × Int)):Go.Sort.flatK encF 2 l.toArray=(fsV l).toArray:=by
 have e:∀ (l:List (Int × Int)) (t:Nat),t < l.length*2→(fsV l)[t]? = some ((encF (l.toArray)[t / 2]!)[t % 2]!):=by
  intro l
  induction l with
  | nil=>intro t h; simp at h
  | cons x r ih =>
   intro t h
   have hx:fsV (x :: r)=.int .i64 x.1 :: .int .i64 x.2 :: fsV r:=rfl
   rw[hx]
   match t with
   | 0=>rfl
   | 1=>rfl
   | t+2 =>
    have:=ih t (by simp at h; omega)
    have e1:(t+2) / 2=t / 2+1:=by omega
    have e2:(t+2) % 2=t % 2:=by omega
    rw[e1,e2]
    simpa using this
 apply Array.ext_getElem?
 intro t
 by_cases h:t < l.length*2
 ·have:=e l t h
  have e2:(fsV l).toArray[t]? = (fsV l)[t]? := by simp
  rw[e2,this]
  unfold Go.Sort.flatK
  rw[Array.getElem?_map,Array.getElem?_range]
  simp[h]
 ·have e2:(fsV l).toArray[t]? = (fsV l)[t]? := by simp
  rw[e2,Array.getElem?_eq_none (by simp; omega),List.getElem?_eq_none (by rw[zj3f]; omega)]
theorem heap_put (w:World) (blk off:Nat) (F:Array Value) (j:Nat):(putRow id w blk off F).heap[j]? = if blk=j then (w.heap[j]?).map (onCells (putCells id off F)) else w.heap[j]? := by
 simp[putRow,mapBlock,Array.getElem?_modify]
theorem zj5p (off:Nat) (F:Array Value) (c:Array Value):(putCells id off F c).size=c.size:=by simp[putCells]
theorem zj4z (off:Nat) (F:Array Value) (c:Array Value) (h:off+F.size≤c.size):((putCells id off F c).toList.drop off).take F.size=F.toList:=by
 apply List.ext_getElem?
 intro j
 rw[List.getElem?_take]
 by_cases hj:j < F.size
 ·rw[if_pos hj,List.getElem?_drop,Array.getElem?_toList,Array.getElem?_toList]
  simp only[putCells,Array.getElem?_mapIdx]
  rw[Array.getElem?_eq_getElem (by omega),Array.getElem?_eq_getElem hj,Option.map_some,if_pos (by omega)]
  simp[getElem!_pos F j hj]
 ·rw[if_neg hj,Array.getElem?_toList,Array.getElem?_eq_none (by omega)]
theorem sort42 {E:Env} {H:List SO} {W:World} {i ver:Nat} {A:Option Addr} {c:Nat} {fs:List (Int × Int)} (hW:HeapOk E H W) (hi:nth H i=some (.own 33 ver 2 A fs.length c (fsV fs))) (hn:fs.length≤1000000000) :
  CallsV Tryz.prog 22 [.slice A fs.length c,.func (.func 23) #[] #[]] W fun v W'=>v=.tuple #[]∧HeapOk E (setn H i (.own 33 ver 2 A fs.length c (fsV (srt fs)))) W':=by
 have hlen:(srt fs).length=fs.length:=List.length_mergeSort _
 have hext:HExt H (setn H i (.own 33 ver 2 A fs.length c (fsV (srt fs)))):=HExt.setOwn hi (Nat.le_refl _) fun _=>⟨rfl,rfl,rfl⟩
 have he0:=hW.ents i _ hi
 obtain⟨hl,⟨h1,h2,h3⟩ | ⟨g,b,cur,rfl,hg,h1,h2,h3,h4⟩⟩:=he0
 ·have h0:fs=[]:=List.length_eq_zero_iff.1 h1
  subst h0
  have h:=AnyF.slices_SortFunc_none lays42 A c (.func (.func 23) #[] #[]) W
  change Calls Tryz.prog 22 _ _ _ at h
  refine Calls.mono h ?_
  rintro e w' ⟨rfl,rfl⟩
  refine⟨rfl,hW.set hi hext (fun g hg=>.inl hg) (fun _ _ _=>rfl) (Nat.le_refl _) rfl rfl rfl ?_⟩
  have h9:srt []=[]:=by simp[srt]
  rw[h9]
  exact EntryOk.mono (by rw[h9] at hext; exact hext) (fun _ _=>rfl) (hW.ents i _ hi)
 ·have hgl:g < W.heap.size:=by
   rcases Nat.lt_or_ge g W.heap.size with h | h
   ·exact h
   ·simp only at hg
    rw[Array.getElem?_eq_none h] at hg
    cases hg
  have hcell:∀ j v,(fsV fs)[j]? = some v→cur[b+j]? = some v:=by
   intro j v hj
   rw[← h4,List.getElem?_take] at hj
   split at hj
   ·rw[List.getElem?_drop] at hj
    simpa using hj
   ·cases hj
  have hH:HoldsK encF 2 W g b fs.toArray:=by
   unfold HoldsK
   rw[flat_fs]
   intro j hj
   have hj':j < (fsV fs).length:=by simpa using hj
   have hv:(fsV fs)[j]? = some (fsV fs).toArray[j]! := by
    rw[getElem!_pos (fsV fs).toArray j hj]
    simp
   refine⟨?_,?_⟩
   ·simp only[World.cell?]
    simp only at hg
    rw[hg]
    simpa using hcell j _ hv
   ·simp only[World.frozen?]
    simp only at hg
    rw[hg]
    simp
  have h:=AnyQ.slices_SortFunc_total lays42 2 (fun _=>rfl) (fun _=>rfl) encF (fun _=>rfl) (fun x v hv=>by simp[encF] at hv; rcases hv with rfl | rfl <;> rfl) cmpF swo_cmpF 23 #[] g b c fs.toArray W (enters_of Tryz.func23 (by kernel_rfl) rfl) (cmpLays43 g b _ W) hH hgl (by simp; omega) (fun x y h1 h2=>by
   rw[zj4y] at h1 h2
   simp at h1 h2
   exact Prod.ext (by omega) (by omega))
  change Calls Tryz.prog 22 _ _ _ at h
  refine Calls.mono (args:=#[.slice (some ⟨g,b,none⟩) fs.length c,.func (.func 23) #[] #[]]) (by simpa using h) ?_
  rintro e w' ⟨rfl,n,os,rfl⟩
  have hs:(List.mergeSort fs.toArray.toList fun x y=>!ltOf cmpF y x)=srt fs:=rfl
  rw[hs]
  have hheap:∀ j,j < W.heap.size→(sortWorldK encF 2 W g b n (srt fs).toArray os).heap[j]? = if g=j then (W.heap[j]?).map (onCells (putCells id b (fsV (srt fs)).toArray)) else W.heap[j]? := by
   intro j hj
   unfold sortWorldK putRowK
   rw[flat_fs]
   show ((putRow id (Go.Sort.ahead W n) g b (fsV (srt fs)).toArray).heap++os)[j]? = _
   rw[Array.getElem?_append_left (by rw[size_putRow]; exact hj),heap_put]
   rfl
  have hsz:W.heap.size≤(sortWorldK encF 2 W g b n (srt fs).toArray os).heap.size:=size_sortWorldK_c _ _ _ _ _ _ _ _
  refine⟨rfl,hW.set hi hext (fun g' hg'=>.inl hg') (fun j hj hlt=>?_) hsz rfl rfl rfl ?_⟩
  ·rw[hheap j hlt,if_neg (fun e=>hj (by rw[← e]; rfl))]
  ·refine⟨by rw[zj3f,hlen],.inr ⟨g,b,putCells id b (fsV (srt fs)).toArray cur,rfl,?_,h1,h2,by rw[zj5p]; exact h3,?_⟩⟩
   ·show (sortWorldK encF 2 W g b n (srt fs).toArray os).heap[g]? = _
    simp only at hg
    rw[hheap g hgl,if_pos rfl,hg]
    rfl
   ·have:=zj4z b (fsV (srt fs)).toArray cur (by simp only[List.size_toArray]; rw[zj3f,hlen,← h3]; omega)
    simp only[List.size_toArray] at this
    rw[zj3f,hlen] at this
    exact this
end Go.Proofs.YtgghmmjoplddbaaGreatDoor
