/- cmp.Or and cmp.Compare at int, and what SortFunc is given, by the kit's tactics. -/
import Derived.Shelf.Lay
import Derived.Sort.Grow
import Derived.WalkKit
import Derived.Deep.RegionHeld
import Derived.Deep.RegionWith
import Derived.Deep.Draws
import Derived.Deep.LoopGhost
import Derived.Ground.NamesProg
import Derived.Test.YtgghmmjoplddbaaDoorProg
import Derived.Shelf.SlSortCmp.NoneTotal
import Derived.Ground.SlsfProg
import Derived.Test.YtgghmmjoplddbaaDoorLpPlain
import Derived.Test.YtgghmmjoplddbaaDoorSxGhost
set_option linter.unusedSimpArgs false
set_option linter.unusedVariables false
set_option linter.unnecessarySimpa false
namespace Go.Proofs.YtgghmmjoplddbaaDoor
open Go Go.Proofs Go.Shelf Go.RowKit Go.Sort
set_option linter.unusedVariables false
set_option maxRecDepth 100000
set_option maxHeartbeats 1000000 in
theorem or44 (a b : Int) (g : Nat) (W : World) (h0 : W.cell? ⟨g, 0, none⟩ = some (.int .i64 a)) (h1 : W.cell? ⟨g, 1, none⟩ = some (.int .i64 b)) :
  Calls Tryd.prog 29 #[.slice (some ⟨g, 0, none⟩) 2 2] W fun e w' => e = .returned (.int .i64 (if a = 0 then b else a)) ∧ w' = W := by
 by_cases ha : a = 0
 ·subst ha
  by_cases hb : b = 0
  ·subst hb
   go_enter Tryd.func29, Tryd.ntmps29
   go_wp2
   refine wp_loop_rounds 3 ?_
   rw [rounds_succ]
   go_wp2
   rw [rounds_succ]
   go_wp2
   rw [rounds_succ]
   go_wp2
   go_ret
   exact ⟨rfl, rfl⟩
  ·go_enter Tryd.func29, Tryd.ntmps29
   go_wp2
   refine wp_loop_rounds 2 ?_
   rw [rounds_succ]
   go_wp2
   rw [rounds_succ]
   go_wp2
   go_ret
   exact ⟨rfl, rfl⟩
 ·go_enter Tryd.func29, Tryd.ntmps29
  go_wp2
  refine wp_loop_rounds 1 ?_
  rw [rounds_succ]
  go_wp2
  go_ret
  exact ⟨rfl, rfl⟩
theorem nan77 (x : Int) (W : World) : Calls Tryd.prog 52 #[.int .i64 x] W fun e w' => e = .returned (.bool false) ∧ w' = W := by
 go_enter Tryd.func52, Tryd.ntmps52
 go_wp2
 go_ret
 exact ⟨by simp, rfl⟩
set_option maxHeartbeats 1000000 in
theorem compare45 (x y : Int) (W : World) : Calls Tryd.prog 30 #[.int .i64 x, .int .i64 y] W fun e w' => e = .returned (.int .i64 (if x < y then -1 else if y < x then 1 else 0)) ∧ w' = W := by
 have hn : ∀ x W', Calls Tryd.prog 52 #[.int .i64 x] W' fun e w' => e = .returned (.bool false) ∧ w' = W' := nan77
 by_cases h1 : x < y
 ·go_enter Tryd.func30, Tryd.ntmps30
  go_wp2_with (go_at_call 52; refine (hn _ _).mono ?_; rintro e w' ⟨rfl, rfl⟩)
  go_ret
  exact ⟨rfl, rfl⟩
 ·by_cases h2 : y < x
  ·go_enter Tryd.func30, Tryd.ntmps30
   go_wp2_with (go_at_call 52; refine (hn _ _).mono ?_; rintro e w' ⟨rfl, rfl⟩)
   go_ret
   exact ⟨rfl, rfl⟩
  ·go_enter Tryd.func30, Tryd.ntmps30
   go_wp2_with (go_at_call 52; refine (hn _ _).mono ?_; rintro e w' ⟨rfl, rfl⟩)
   go_ret
   exact ⟨rfl, rfl⟩
def cmpF (x y : Int × Int) : Int := if (if x.1 < y.1 then -1 else if y.1 < x.1 then 1 else 0 : Int) = 0 then (if x.2 < y.2 then -1 else if y.2 < x.2 then 1 else 0) else (if x.1 < y.1 then -1 else if y.1 < x.1 then 1 else 0)
set_option maxHeartbeats 2000000 in
theorem closure43 (x1 x2 y1 y2 : Int) (W : World) : Calls Tryd.prog 28 #[.agg #[.int .i64 x1, .int .i64 x2], .agg #[.int .i64 y1, .int .i64 y2]] W fun e w' => e = .returned (.int .i64 (cmpF (x1, x2) (y1, y2))) ∧ ∃ q os', w' = grow (W.drewN q) os' := by
 have hc := compare45
 have ho := or44
 unfold cmpF
 simp only
 have hc1 := fun W' => hc x1 y1 W'
 have hc2 := fun W' => hc x2 y2 W'
 generalize (if x1 < y1 then -1 else if y1 < x1 then 1 else 0 : Int) = r1 at hc1 ⊢
 generalize (if x2 < y2 then -1 else if y2 < x2 then 1 else 0 : Int) = r2 at hc2 ⊢
 have ho' := fun g W' => ho r1 r2 g W'
 generalize (if r1 = 0 then r2 else r1) = rr at ho' ⊢
 go_enter Tryd.func28, Tryd.ntmps28
 go_wp2_with fail
 have c1 : ((W.alloc (Obj.cells #[Value.int IntKind.i64 x1, Value.int IntKind.i64 x2] 73)).alloc (Obj.cells #[Value.int IntKind.i64 y1, Value.int IntKind.i64 y2] 73)).cell? ⟨W.heap.size, 0, none⟩ = some (.int .i64 x1) := by
  rw [World.cell?_alloc_past _ _ _ (by simp), World.cell?_alloc_at _ _ _ _ rfl]; rfl
 have c2 : ((W.alloc (Obj.cells #[Value.int IntKind.i64 x1, Value.int IntKind.i64 x2] 73)).alloc (Obj.cells #[Value.int IntKind.i64 y1, Value.int IntKind.i64 y2] 73)).cell? ⟨W.heap.size, 1, none⟩ = some (.int .i64 x2) := by
  rw [World.cell?_alloc_past _ _ _ (by simp), World.cell?_alloc_at _ _ _ _ rfl]; rfl
 have c3 : ((W.alloc (Obj.cells #[Value.int IntKind.i64 x1, Value.int IntKind.i64 x2] 73)).alloc (Obj.cells #[Value.int IntKind.i64 y1, Value.int IntKind.i64 y2] 73)).cell? ⟨W.heap.size + 1, 0, none⟩ = some (.int .i64 y1) := by
  rw [World.cell?_alloc_at _ _ _ _ (by simp)]; rfl
 have c4 : ((W.alloc (Obj.cells #[Value.int IntKind.i64 x1, Value.int IntKind.i64 x2] 73)).alloc (Obj.cells #[Value.int IntKind.i64 y1, Value.int IntKind.i64 y2] 73)).cell? ⟨W.heap.size + 1, 1, none⟩ = some (.int .i64 y2) := by
  rw [World.cell?_alloc_at _ _ _ _ (by simp)]; rfl
 have hg : (W.alloc (Obj.cells #[Value.int IntKind.i64 x1, Value.int IntKind.i64 x2] 73)).alloc (Obj.cells #[Value.int IntKind.i64 y1, Value.int IntKind.i64 y2] 73) = grow W #[Obj.cells #[Value.int IntKind.i64 x1, Value.int IntKind.i64 x2] 73, Obj.cells #[Value.int IntKind.i64 y1, Value.int IntKind.i64 y2] 73] := by
  rw [alloc_eq_grow, alloc_eq_grow, grow_grow]; rfl
 generalize (W.alloc (Obj.cells #[Value.int IntKind.i64 x1, Value.int IntKind.i64 x2] 73)).alloc (Obj.cells #[Value.int IntKind.i64 y1, Value.int IntKind.i64 y2] 73) = W2 at c1 c2 c3 c4 hg ⊢
 generalize W.heap.size + 1 = q at c3 c4 ⊢
 generalize W.heap.size = p at c1 c2 ⊢
 have A : Aside (W2 = grow W #[Obj.cells #[Value.int IntKind.i64 x1, Value.int IntKind.i64 x2] 73, Obj.cells #[Value.int IntKind.i64 y1, Value.int IntKind.i64 y2] 73]) := hg
 have k0 : (W2.alloc (Obj.cells #[.int .i64 r1, .int .i64 r2] 3)).drew.cell? ⟨W2.heap.size, 0, none⟩ = some (.int .i64 r1) := by
  show (W2.alloc (Obj.cells #[.int .i64 r1, .int .i64 r2] 3)).cell? _ = _
  rw [World.cell?_alloc_at _ _ _ _ rfl]; rfl
 have k1 : (W2.alloc (Obj.cells #[.int .i64 r1, .int .i64 r2] 3)).drew.cell? ⟨W2.heap.size, 1, none⟩ = some (.int .i64 r2) := by
  show (W2.alloc (Obj.cells #[.int .i64 r1, .int .i64 r2] 3)).cell? _ = _
  rw [World.cell?_alloc_at _ _ _ _ rfl]; rfl
 have ho1 := ho' W2.heap.size _ k0 k1
 clear hg hc ho k0 k1 ho'
 go_region_held (fun w' => w'.cell? ⟨p, 0, none⟩ = some (.int .i64 x1) ∧ w'.cell? ⟨p, 1, none⟩ = some (.int .i64 x2) ∧ w'.cell? ⟨q, 0, none⟩ = some (.int .i64 y1) ∧ w'.cell? ⟨q, 1, none⟩ = some (.int .i64 y2)) (go_keep)
  (first | (go_at_call_of 30 (Value.int .i64 x1); refine (hc1 _).mono ?_; rintro e w' ⟨rfl, rfl⟩) | (go_at_call_of 30 (Value.int .i64 x2); refine (hc2 _).mono ?_; rintro e w' ⟨rfl, rfl⟩) | (go_at_call 29; refine ho1.mono ?_; rintro e w' ⟨rfl, rfl⟩))
 all_goals go_wp2
 all_goals go_ret
 exact ⟨rfl, 1, _, by rw [alloc_eq_grow, A, grow_grow]; rfl⟩
end Go.Proofs.YtgghmmjoplddbaaDoor
namespace Go.Proofs.YtgghmmjoplddbaaDoor
open Go Go.Shelf Go.RowKit Go.Proofs
set_option maxRecDepth 100000
def lays42_ren : Go.Shelf.Ren := ⟨fun | 6 => 27 | 14 => 50 | 15 => 51 | 20 => 63 | 21 => 64 | 22 => 65 | 23 => 66 | 24 => 67 | 25 => 68 | 26 => 69 | 27 => 70 | 28 => 71 | 29 => 72 | 46 => 82 | 47 => 83 | 48 => 84 | 49 => 85 | 50 => 86 | 57 => 90 | n => n, fun | 22 => 38 | 24 => 73 | 25 => 76 | 39 => 107 | 45 => 121 | 46 => 122 | 50 => 93 | 53 => 128 | 55 => 130 | 66 => 137 | 70 => 141 | 76 => 145 | 77 => 146 | n => n, fun | n => n⟩
theorem lays42 : Go.Proofs.SlLaysF0.n6 Tryd.prog lays42_ren := {
 mixed := by kernel_rfl,
 f6 := by first | exact Tryd.func27.trans (congrArg some (by kernel_rfl)) | exact ⟨Tryd.f27.name, by kernel_rfl, Tryd.func27.trans (congrArg some (by kernel_rfl))⟩,
 f14 := by first | exact Tryd.func50.trans (congrArg some (by kernel_rfl)) | exact ⟨Tryd.f50.name, by kernel_rfl, Tryd.func50.trans (congrArg some (by kernel_rfl))⟩,
 f15 := by first | exact Tryd.func51.trans (congrArg some (by kernel_rfl)) | exact ⟨Tryd.f51.name, by kernel_rfl, Tryd.func51.trans (congrArg some (by kernel_rfl))⟩,
 f20 := by first | exact Tryd.func63.trans (congrArg some (by kernel_rfl)) | exact ⟨Tryd.f63.name, by kernel_rfl, Tryd.func63.trans (congrArg some (by kernel_rfl))⟩,
 f21 := by first | exact Tryd.func64.trans (congrArg some (by kernel_rfl)) | exact ⟨Tryd.f64.name, by kernel_rfl, Tryd.func64.trans (congrArg some (by kernel_rfl))⟩,
 f22 := by first | exact Tryd.func65.trans (congrArg some (by kernel_rfl)) | exact ⟨Tryd.f65.name, by kernel_rfl, Tryd.func65.trans (congrArg some (by kernel_rfl))⟩,
 f23 := by first | exact Tryd.func66.trans (congrArg some (by kernel_rfl)) | exact ⟨Tryd.f66.name, by kernel_rfl, Tryd.func66.trans (congrArg some (by kernel_rfl))⟩,
 f24 := by first | exact Tryd.func67.trans (congrArg some (by kernel_rfl)) | exact ⟨Tryd.f67.name, by kernel_rfl, Tryd.func67.trans (congrArg some (by kernel_rfl))⟩,
 f25 := by first | exact Tryd.func68.trans (congrArg some (by kernel_rfl)) | exact ⟨Tryd.f68.name, by kernel_rfl, Tryd.func68.trans (congrArg some (by kernel_rfl))⟩,
 f26 := by first | exact Tryd.func69.trans (congrArg some (by kernel_rfl)) | exact ⟨Tryd.f69.name, by kernel_rfl, Tryd.func69.trans (congrArg some (by kernel_rfl))⟩,
 f27 := by first | exact Tryd.func70.trans (congrArg some (by kernel_rfl)) | exact ⟨Tryd.f70.name, by kernel_rfl, Tryd.func70.trans (congrArg some (by kernel_rfl))⟩,
 f28 := by first | exact Tryd.func71.trans (congrArg some (by kernel_rfl)) | exact ⟨Tryd.f71.name, by kernel_rfl, Tryd.func71.trans (congrArg some (by kernel_rfl))⟩,
 f29 := by first | exact Tryd.func72.trans (congrArg some (by kernel_rfl)) | exact ⟨Tryd.f72.name, by kernel_rfl, Tryd.func72.trans (congrArg some (by kernel_rfl))⟩,
 f46 := by first | exact Tryd.func82.trans (congrArg some (by kernel_rfl)) | exact ⟨Tryd.f82.name, by kernel_rfl, Tryd.func82.trans (congrArg some (by kernel_rfl))⟩,
 f47 := by first | exact Tryd.func83.trans (congrArg some (by kernel_rfl)) | exact ⟨Tryd.f83.name, by kernel_rfl, Tryd.func83.trans (congrArg some (by kernel_rfl))⟩,
 f48 := by first | exact Tryd.func84.trans (congrArg some (by kernel_rfl)) | exact ⟨Tryd.f84.name, by kernel_rfl, Tryd.func84.trans (congrArg some (by kernel_rfl))⟩,
 f49 := by first | exact Tryd.func85.trans (congrArg some (by kernel_rfl)) | exact ⟨Tryd.f85.name, by kernel_rfl, Tryd.func85.trans (congrArg some (by kernel_rfl))⟩,
 f50 := by first | exact Tryd.func86.trans (congrArg some (by kernel_rfl)) | exact ⟨Tryd.f86.name, by kernel_rfl, Tryd.func86.trans (congrArg some (by kernel_rfl))⟩,
 f57 := by first | exact Tryd.func90.trans (congrArg some (by kernel_rfl)) | exact ⟨Tryd.f90.name, by kernel_rfl, Tryd.func90.trans (congrArg some (by kernel_rfl))⟩,
 t0 := Tryd.underlying0,
 a0 := Tryd.isAgg0,
 z0 := Tryd.sizeOf0,
 v0 := Tryd.zeroValue0,
 t3 := Tryd.underlying3,
 a3 := Tryd.isAgg3,
 z3 := Tryd.sizeOf3,
 v3 := Tryd.zeroValue3,
 t4 := Tryd.underlying4,
 a4 := Tryd.isAgg4,
 z4 := Tryd.sizeOf4,
 v4 := Tryd.zeroValue4,
 t5 := Tryd.underlying5,
 a5 := Tryd.isAgg5,
 z5 := Tryd.sizeOf5,
 v5 := Tryd.zeroValue5,
 t9 := Tryd.underlying9,
 a9 := Tryd.isAgg9,
 z9 := Tryd.sizeOf9,
 v9 := Tryd.zeroValue9,
 t22 := Tryd.underlying38,
 a22 := Tryd.isAgg38,
 z22 := Tryd.sizeOf38,
 v22 := Tryd.zeroValue38,
 t25 := Tryd.underlying76,
 a25 := Tryd.isAgg76,
 z25 := Tryd.sizeOf76,
 v25 := Tryd.zeroValue76,
 t39 := Tryd.underlying107,
 a39 := Tryd.isAgg107,
 z39 := Tryd.sizeOf107,
 v39 := Tryd.zeroValue107,
 t45 := Tryd.underlying121,
 a45 := Tryd.isAgg121,
 z45 := Tryd.sizeOf121,
 v45 := Tryd.zeroValue121,
 t46 := Tryd.underlying122,
 a46 := Tryd.isAgg122,
 z46 := Tryd.sizeOf122,
 v46 := Tryd.zeroValue122,
 t50 := Tryd.underlying93,
 a50 := Tryd.isAgg93,
 z50 := Tryd.sizeOf93,
 v50 := Tryd.zeroValue93,
 t53 := Tryd.underlying128,
 a53 := Tryd.isAgg128,
 z53 := Tryd.sizeOf128,
 v53 := Tryd.zeroValue128,
 t55 := Tryd.underlying130,
 a55 := Tryd.isAgg130,
 z55 := Tryd.sizeOf130,
 v55 := Tryd.zeroValue130,
 t66 := Tryd.underlying137,
 a66 := Tryd.isAgg137,
 z66 := Tryd.sizeOf137,
 v66 := Tryd.zeroValue137,
 t70 := Tryd.underlying141,
 a70 := Tryd.isAgg141,
 z70 := Tryd.sizeOf141,
 v70 := Tryd.zeroValue141,
 t76 := Tryd.underlying145,
 a76 := Tryd.isAgg145,
 z76 := Tryd.sizeOf145,
 v76 := Tryd.zeroValue145,
 t77 := Tryd.underlying146,
 a77 := Tryd.isAgg146,
 z77 := Tryd.sizeOf146,
 v77 := Tryd.zeroValue146 }
end Go.Proofs.YtgghmmjoplddbaaDoor
namespace Go.Proofs.YtgghmmjoplddbaaDoor
open Go Go.Sx Go.Isa Go.Lint Go.Proofs Go.Shelf Go.RowKit Go.Sort
set_option maxRecDepth 100000
set_option linter.unusedVariables false
def encF (x : Int × Int) : List Value := [.int .i64 x.1, .int .i64 x.2]
theorem cmpLays43 (blk off size : Nat) (w : World) : CmpLays Tryd.prog 28 #[] encF 2 cmpF blk off size w :=
 fun _ _ _ _ x y => closure43 x.1 x.2 y.1 y.2 _
theorem lt_cmpF (x y : Int × Int) : ltOf cmpF x y = decide (x.1 < y.1 ∨ x.1 = y.1 ∧ x.2 < y.2) := by
 unfold ltOf cmpF
 rw [decide_eq_decide]
 by_cases h1 : x.1 < y.1
 ·simp [h1]
 ·by_cases h2 : y.1 < x.1
  ·simp [h1, h2]; omega
  ·have : x.1 = y.1 := by omega
   by_cases h3 : x.2 < y.2
   ·simp [h1, h2, h3]; omega
   ·by_cases h4 : y.2 < x.2
    ·simp [h1, h2, h3, h4]
    ·simp [h1, h2, h3, h4]
theorem swo_cmpF : SWO (ltOf cmpF) where
 irrefl x := by rw [lt_cmpF]; simp
 trans x y z h1 h2 := by rw [lt_cmpF] at *; simp at *; omega
 ntrans x y z h1 h2 := by rw [lt_cmpF] at *; simp at *; omega
def leF2 (x y : Int × Int) : Bool := !ltOf cmpF y x
def srt (l : List (Int × Int)) : List (Int × Int) := l.mergeSort leF2
theorem flat_fs (l : List (Int × Int)) : Go.Sort.flatK encF 2 l.toArray = (fsV l).toArray := by
 have e : ∀ (l : List (Int × Int)) (t : Nat), t < l.length * 2 → (fsV l)[t]? = some ((encF (l.toArray)[t / 2]!)[t % 2]!) := by
  intro l
  induction l with
  | nil => intro t h; simp at h
  | cons x r ih =>
   intro t h
   have hx : fsV (x :: r) = .int .i64 x.1 :: .int .i64 x.2 :: fsV r := rfl
   rw [hx]
   match t with
   | 0 => rfl
   | 1 => rfl
   | t + 2 =>
    have := ih t (by simp at h; omega)
    have e1 : (t + 2) / 2 = t / 2 + 1 := by omega
    have e2 : (t + 2) % 2 = t % 2 := by omega
    rw [e1, e2]
    simpa using this
 apply Array.ext_getElem?
 intro t
 by_cases h : t < l.length * 2
 ·have := e l t h
  have e2 : (fsV l).toArray[t]? = (fsV l)[t]? := by simp
  rw [e2, this]
  unfold Go.Sort.flatK
  rw [Array.getElem?_map, Array.getElem?_range]
  simp [h]
 ·have e2 : (fsV l).toArray[t]? = (fsV l)[t]? := by simp
  rw [e2, Array.getElem?_eq_none (by simp; omega), List.getElem?_eq_none (by rw [fsV_len]; omega)]
theorem heap_put (w : World) (blk off : Nat) (F : Array Value) (j : Nat) : (putRow id w blk off F).heap[j]? = if blk = j then (w.heap[j]?).map (onCells (putCells id off F)) else w.heap[j]? := by
 simp [putRow, mapBlock, Array.getElem?_modify]
theorem putCells_len (off : Nat) (F : Array Value) (c : Array Value) : (putCells id off F c).size = c.size := by simp [putCells]
theorem putCells_take (off : Nat) (F : Array Value) (c : Array Value) (h : off + F.size ≤ c.size) : ((putCells id off F c).toList.drop off).take F.size = F.toList := by
 apply List.ext_getElem?
 intro j
 rw [List.getElem?_take]
 by_cases hj : j < F.size
 ·rw [if_pos hj, List.getElem?_drop, Array.getElem?_toList, Array.getElem?_toList]
  simp only [putCells, Array.getElem?_mapIdx]
  rw [Array.getElem?_eq_getElem (by omega), Array.getElem?_eq_getElem hj, Option.map_some, if_pos (by omega)]
  simp [getElem!_pos F j hj]
 ·rw [if_neg hj, Array.getElem?_toList, Array.getElem?_eq_none (by omega)]
theorem sort42 {E : Env} {H : List SO} {W : World} {i ver : Nat} {A : Option Addr} {c : Nat} {fs : List (Int × Int)} (hW : HeapOk E H W) (hi : nth H i = some (.own 73 ver 2 A fs.length c (fsV fs))) (hn : fs.length ≤ 1000000000) :
  CallsV Tryd.prog 27 [.slice A fs.length c, .func (.func 28) #[] #[]] W fun v W' => v = .tuple #[] ∧ HeapOk E (setn H i (.own 73 ver 2 A fs.length c (fsV (srt fs)))) W' := by
 have hlen : (srt fs).length = fs.length := List.length_mergeSort _
 have hext : HExt H (setn H i (.own 73 ver 2 A fs.length c (fsV (srt fs)))) := HExt.setOwn hi (Nat.le_refl _) fun _ => ⟨rfl, rfl, rfl⟩
 have he0 := hW.ents i _ hi
 obtain ⟨hl, ⟨h1, h2, h3⟩ | ⟨g, b, cur, rfl, hg, h1, h2, h3, h4⟩⟩ := he0
 ·have h0 : fs = [] := List.length_eq_zero_iff.1 h1
  subst h0
  have h := AnyF.slices_SortFunc_none lays42 A c (.func (.func 28) #[] #[]) W
  change Calls Tryd.prog 27 _ _ _ at h
  refine Calls.mono h ?_
  rintro e w' ⟨rfl, rfl⟩
  refine ⟨rfl, hW.set hi hext (fun g hg => .inl hg) (fun _ _ _ => rfl) (Nat.le_refl _) rfl rfl rfl ?_⟩
  have h9 : srt [] = [] := by simp [srt]
  rw [h9]
  exact EntryOk.mono (by rw [h9] at hext; exact hext) (fun _ _ => rfl) (hW.ents i _ hi)
 ·have hgl : g < W.heap.size := by
   rcases Nat.lt_or_ge g W.heap.size with h | h
   ·exact h
   ·simp only at hg
    rw [Array.getElem?_eq_none h] at hg
    cases hg
  have hcell : ∀ j v, (fsV fs)[j]? = some v → cur[b + j]? = some v := by
   intro j v hj
   rw [← h4, List.getElem?_take] at hj
   split at hj
   ·rw [List.getElem?_drop] at hj
    simpa using hj
   ·cases hj
  have hH : HoldsK encF 2 W g b fs.toArray := by
   unfold HoldsK
   rw [flat_fs]
   intro j hj
   have hj' : j < (fsV fs).length := by simpa using hj
   have hv : (fsV fs)[j]? = some (fsV fs).toArray[j]! := by
    rw [getElem!_pos (fsV fs).toArray j hj]
    simp
   refine ⟨?_, ?_⟩
   ·simp only [World.cell?]
    simp only at hg
    rw [hg]
    simpa using hcell j _ hv
   ·simp only [World.frozen?]
    simp only at hg
    rw [hg]
    simp
  have h := AnyQ.slices_SortFunc_total lays42 2 (fun _ => rfl) (fun _ => rfl) encF (fun _ => rfl) (fun x v hv => by simp [encF] at hv; rcases hv with rfl | rfl <;> rfl) cmpF swo_cmpF 28 #[] g b c fs.toArray W (enters_of Tryd.func28 (by kernel_rfl) rfl) (cmpLays43 g b _ W) hH hgl (by simp; omega) (fun x y h1 h2 => by
   rw [lt_cmpF] at h1 h2
   simp at h1 h2
   exact Prod.ext (by omega) (by omega))
  change Calls Tryd.prog 27 _ _ _ at h
  refine Calls.mono (args := #[.slice (some ⟨g, b, none⟩) fs.length c, .func (.func 28) #[] #[]]) (by simpa using h) ?_
  rintro e w' ⟨rfl, n, os, rfl⟩
  have hs : (List.mergeSort fs.toArray.toList fun x y => !ltOf cmpF y x) = srt fs := rfl
  rw [hs]
  have hheap : ∀ j, j < W.heap.size → (sortWorldK encF 2 W g b n (srt fs).toArray os).heap[j]? = if g = j then (W.heap[j]?).map (onCells (putCells id b (fsV (srt fs)).toArray)) else W.heap[j]? := by
   intro j hj
   unfold sortWorldK putRowK
   rw [flat_fs]
   show ((putRow id (Go.Sort.ahead W n) g b (fsV (srt fs)).toArray).heap ++ os)[j]? = _
   rw [Array.getElem?_append_left (by rw [size_putRow]; exact hj), heap_put]
   rfl
  have hsz : W.heap.size ≤ (sortWorldK encF 2 W g b n (srt fs).toArray os).heap.size := size_sortWorldK_c _ _ _ _ _ _ _ _
  refine ⟨rfl, hW.set hi hext (fun g' hg' => .inl hg') (fun j hj hlt => ?_) hsz rfl rfl rfl ?_⟩
  ·rw [hheap j hlt, if_neg (fun e => hj (by rw [← e]; rfl))]
  ·refine ⟨by rw [fsV_len, hlen], .inr ⟨g, b, putCells id b (fsV (srt fs)).toArray cur, rfl, ?_, h1, h2, by rw [putCells_len]; exact h3, ?_⟩⟩
   ·show (sortWorldK encF 2 W g b n (srt fs).toArray os).heap[g]? = _
    simp only at hg
    rw [hheap g hgl, if_pos rfl, hg]
    rfl
   ·have := putCells_take b (fsV (srt fs)).toArray cur (by simp only [List.size_toArray]; rw [fsV_len, hlen, ← h3]; omega)
    simp only [List.size_toArray] at this
    rw [fsV_len, hlen] at this
    exact this
end Go.Proofs.YtgghmmjoplddbaaDoor
