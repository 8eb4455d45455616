/- slices.Sort and slices.BinarySearch at numbers: the kit's shelf contracts, laid at this program (texts printed by tools/ShText), as the engine's. -/
import Derived.Shelf.Sort.Plain
import Derived.Shelf.Slices.In.SortNone
import Derived.Shelf.Slices.SearchI
import Derived.Test.YtgghmmjoplddbaaDoorProg
import Derived.Test.YtgghmmjoplddbaaDoorDFlCmp
import Derived.KernelRfl
import Derived.Test.YtgghmmjoplddbaaDoorDBgIsa3
import Derived.Test.YtgghmmjoplddbaaDoorDFlCode
set_option linter.unusedSimpArgs false
set_option linter.unusedVariables false
set_option linter.unnecessarySimpa false
namespace Go.Proofs.YtgghmmjoplddbaaDoor
open Go Go.Sx Go.Isa Go.Proofs Go.Shelf Go.RowKit Go.Sort
set_option maxRecDepth 1000000
set_option linter.unusedVariables false
def lays68_ren : Go.Shelf.Ren := ⟨fun | 125 => 51 | 128 => 71 | 129 => 72 | 189 => 40 | 215 => 52 | 216 => 59 | 257 => 58 | 294 => 73 | 295 => 74 | 296 => 75 | 297 => 76 | 298 => 77 | 299 => 78 | 300 => 79 | 301 => 80 | 328 => 87 | 329 => 83 | 330 => 84 | 331 => 88 | 332 => 89 | 343 => 91 | n => n, fun | 28 => 30 | 46 => 107 | 51 => 128 | 53 => 130 | 131 => 93 | 182 => 121 | 183 => 122 | 218 => 137 | 222 => 141 | 228 => 145 | 229 => 146 | n => n, fun | n => n⟩
theorem lays68 : Go.Proofs.Lays.n189 Tryd.prog lays68_ren := {
 mixed := by kernel_rfl,
 f125 := by first | exact Tryd.func51.trans (congrArg some (by kernel_rfl)) | exact ⟨Tryd.f51.name, by kernel_rfl, Tryd.func51.trans (congrArg some (by kernel_rfl))⟩,
 f128 := by first | exact Tryd.func71.trans (congrArg some (by kernel_rfl)) | exact ⟨Tryd.f71.name, by kernel_rfl, Tryd.func71.trans (congrArg some (by kernel_rfl))⟩,
 f129 := by first | exact Tryd.func72.trans (congrArg some (by kernel_rfl)) | exact ⟨Tryd.f72.name, by kernel_rfl, Tryd.func72.trans (congrArg some (by kernel_rfl))⟩,
 f189 := by first | exact Tryd.func40.trans (congrArg some (by kernel_rfl)) | exact ⟨Tryd.f40.name, by kernel_rfl, Tryd.func40.trans (congrArg some (by kernel_rfl))⟩,
 f215 := by first | exact Tryd.func52.trans (congrArg some (by kernel_rfl)) | exact ⟨Tryd.f52.name, by kernel_rfl, Tryd.func52.trans (congrArg some (by kernel_rfl))⟩,
 f216 := by first | exact Tryd.func59.trans (congrArg some (by kernel_rfl)) | exact ⟨Tryd.f59.name, by kernel_rfl, Tryd.func59.trans (congrArg some (by kernel_rfl))⟩,
 f257 := by first | exact Tryd.func58.trans (congrArg some (by kernel_rfl)) | exact ⟨Tryd.f58.name, by kernel_rfl, Tryd.func58.trans (congrArg some (by kernel_rfl))⟩,
 f294 := by first | exact Tryd.func73.trans (congrArg some (by kernel_rfl)) | exact ⟨Tryd.f73.name, by kernel_rfl, Tryd.func73.trans (congrArg some (by kernel_rfl))⟩,
 f295 := by first | exact Tryd.func74.trans (congrArg some (by kernel_rfl)) | exact ⟨Tryd.f74.name, by kernel_rfl, Tryd.func74.trans (congrArg some (by kernel_rfl))⟩,
 f296 := by first | exact Tryd.func75.trans (congrArg some (by kernel_rfl)) | exact ⟨Tryd.f75.name, by kernel_rfl, Tryd.func75.trans (congrArg some (by kernel_rfl))⟩,
 f297 := by first | exact Tryd.func76.trans (congrArg some (by kernel_rfl)) | exact ⟨Tryd.f76.name, by kernel_rfl, Tryd.func76.trans (congrArg some (by kernel_rfl))⟩,
 f298 := by first | exact Tryd.func77.trans (congrArg some (by kernel_rfl)) | exact ⟨Tryd.f77.name, by kernel_rfl, Tryd.func77.trans (congrArg some (by kernel_rfl))⟩,
 f299 := by first | exact Tryd.func78.trans (congrArg some (by kernel_rfl)) | exact ⟨Tryd.f78.name, by kernel_rfl, Tryd.func78.trans (congrArg some (by kernel_rfl))⟩,
 f300 := by first | exact Tryd.func79.trans (congrArg some (by kernel_rfl)) | exact ⟨Tryd.f79.name, by kernel_rfl, Tryd.func79.trans (congrArg some (by kernel_rfl))⟩,
 f301 := by first | exact Tryd.func80.trans (congrArg some (by kernel_rfl)) | exact ⟨Tryd.f80.name, by kernel_rfl, Tryd.func80.trans (congrArg some (by kernel_rfl))⟩,
 f328 := by first | exact Tryd.func87.trans (congrArg some (by kernel_rfl)) | exact ⟨Tryd.f87.name, by kernel_rfl, Tryd.func87.trans (congrArg some (by kernel_rfl))⟩,
 f329 := by first | exact Tryd.func83.trans (congrArg some (by kernel_rfl)) | exact ⟨Tryd.f83.name, by kernel_rfl, Tryd.func83.trans (congrArg some (by kernel_rfl))⟩,
 f330 := by first | exact Tryd.func84.trans (congrArg some (by kernel_rfl)) | exact ⟨Tryd.f84.name, by kernel_rfl, Tryd.func84.trans (congrArg some (by kernel_rfl))⟩,
 f331 := by first | exact Tryd.func88.trans (congrArg some (by kernel_rfl)) | exact ⟨Tryd.f88.name, by kernel_rfl, Tryd.func88.trans (congrArg some (by kernel_rfl))⟩,
 f332 := by first | exact Tryd.func89.trans (congrArg some (by kernel_rfl)) | exact ⟨Tryd.f89.name, by kernel_rfl, Tryd.func89.trans (congrArg some (by kernel_rfl))⟩,
 f343 := by first | exact Tryd.func91.trans (congrArg some (by kernel_rfl)) | exact ⟨Tryd.f91.name, by kernel_rfl, Tryd.func91.trans (congrArg some (by kernel_rfl))⟩,
 t0 := Tryd.underlying0,
 a0 := Tryd.isAgg0,
 z0 := Tryd.sizeOf0,
 v0 := Tryd.zeroValue0,
 t3 := Tryd.underlying3,
 a3 := Tryd.isAgg3,
 z3 := Tryd.sizeOf3,
 v3 := Tryd.zeroValue3,
 t4 := Tryd.underlying4,
 a4 := Tryd.isAgg4,
 z4 := Tryd.sizeOf4,
 v4 := Tryd.zeroValue4,
 t5 := Tryd.underlying5,
 a5 := Tryd.isAgg5,
 z5 := Tryd.sizeOf5,
 v5 := Tryd.zeroValue5,
 t9 := Tryd.underlying9,
 a9 := Tryd.isAgg9,
 z9 := Tryd.sizeOf9,
 v9 := Tryd.zeroValue9,
 t28 := Tryd.underlying30,
 a28 := Tryd.isAgg30,
 z28 := Tryd.sizeOf30,
 v28 := Tryd.zeroValue30,
 t46 := Tryd.underlying107,
 a46 := Tryd.isAgg107,
 z46 := Tryd.sizeOf107,
 v46 := Tryd.zeroValue107,
 t51 := Tryd.underlying128,
 a51 := Tryd.isAgg128,
 z51 := Tryd.sizeOf128,
 v51 := Tryd.zeroValue128,
 t53 := Tryd.underlying130,
 a53 := Tryd.isAgg130,
 z53 := Tryd.sizeOf130,
 v53 := Tryd.zeroValue130,
 t131 := Tryd.underlying93,
 a131 := Tryd.isAgg93,
 z131 := Tryd.sizeOf93,
 v131 := Tryd.zeroValue93,
 t182 := Tryd.underlying121,
 a182 := Tryd.isAgg121,
 z182 := Tryd.sizeOf121,
 v182 := Tryd.zeroValue121,
 t183 := Tryd.underlying122,
 a183 := Tryd.isAgg122,
 z183 := Tryd.sizeOf122,
 v183 := Tryd.zeroValue122,
 t218 := Tryd.underlying137,
 a218 := Tryd.isAgg137,
 z218 := Tryd.sizeOf137,
 v218 := Tryd.zeroValue137,
 t222 := Tryd.underlying141,
 a222 := Tryd.isAgg141,
 z222 := Tryd.sizeOf141,
 v222 := Tryd.zeroValue141,
 t228 := Tryd.underlying145,
 a228 := Tryd.isAgg145,
 z228 := Tryd.sizeOf145,
 v228 := Tryd.zeroValue145,
 t229 := Tryd.underlying146,
 a229 := Tryd.isAgg146,
 z229 := Tryd.sizeOf146,
 v229 := Tryd.zeroValue146 }
def lays78_ren : Go.Shelf.Ren := ⟨fun | 25 => 42 | 31 => 59 | 32 => 60 | 37 => 52 | n => n, fun | 22 => 30 | 40 => 107 | n => n, fun | n => n⟩
theorem lays78 : Go.Proofs.Lays2.n25 Tryd.prog lays78_ren := {
 mixed := by kernel_rfl,
 f25 := by first | exact Tryd.func42.trans (congrArg some (by kernel_rfl)) | exact ⟨Tryd.f42.name, by kernel_rfl, Tryd.func42.trans (congrArg some (by kernel_rfl))⟩,
 f31 := by first | exact Tryd.func59.trans (congrArg some (by kernel_rfl)) | exact ⟨Tryd.f59.name, by kernel_rfl, Tryd.func59.trans (congrArg some (by kernel_rfl))⟩,
 f32 := by first | exact Tryd.func60.trans (congrArg some (by kernel_rfl)) | exact ⟨Tryd.f60.name, by kernel_rfl, Tryd.func60.trans (congrArg some (by kernel_rfl))⟩,
 f37 := by first | exact Tryd.func52.trans (congrArg some (by kernel_rfl)) | exact ⟨Tryd.f52.name, by kernel_rfl, Tryd.func52.trans (congrArg some (by kernel_rfl))⟩,
 t0 := Tryd.underlying0,
 a0 := Tryd.isAgg0,
 z0 := Tryd.sizeOf0,
 v0 := Tryd.zeroValue0,
 t3 := Tryd.underlying3,
 a3 := Tryd.isAgg3,
 z3 := Tryd.sizeOf3,
 v3 := Tryd.zeroValue3,
 t4 := Tryd.underlying4,
 a4 := Tryd.isAgg4,
 z4 := Tryd.sizeOf4,
 v4 := Tryd.zeroValue4,
 t22 := Tryd.underlying30,
 a22 := Tryd.isAgg30,
 z22 := Tryd.sizeOf30,
 v22 := Tryd.zeroValue30,
 t40 := Tryd.underlying107,
 a40 := Tryd.isAgg107,
 z40 := Tryd.sizeOf107,
 v40 := Tryd.zeroValue107 }
theorem heapI_put (w : World) (blk off : Nat) (F : Array Int) (j : Nat) : (putRow (Value.int .i64) w blk off F).heap[j]? = if blk = j then (w.heap[j]?).map (onCells (putCells (Value.int .i64) off F)) else w.heap[j]? := by
 simp [putRow, mapBlock, Array.getElem?_modify]
theorem putI_len (off : Nat) (F : Array Int) (c : Array Value) : (putCells (Value.int .i64) off F c).size = c.size := by simp [putCells]
theorem putI_take (off : Nat) (l : List Int) (c : Array Value) (h : off + l.length ≤ c.size) : ((putCells (Value.int .i64) off l.toArray c).toList.drop off).take l.length = isV l := by
 apply List.ext_getElem?
 intro j
 rw [List.getElem?_take]
 by_cases hj : j < l.length
 ·rw [if_pos hj, List.getElem?_drop, Array.getElem?_toList]
  simp only [putCells, Array.getElem?_mapIdx]
  rw [Array.getElem?_eq_getElem (by omega), Option.map_some, if_pos (by simp only [List.size_toArray]; omega)]
  unfold isV
  rw [List.getElem?_map, List.getElem?_eq_getElem hj]
  have e : off + j - off = j := by omega
  rw [e]
  have h2 : (l.toArray)[j]! = l[j] := by rw [getElem!_pos l.toArray j (by simpa using hj)]; simp
  rw [h2]; rfl
 ·rw [if_neg hj, List.getElem?_eq_none (by rw [isV_len]; omega)]
theorem sort68 {E : Env} {H : List SO} {W : World} {i ver : Nat} {A : Option Addr} {c : Nat} {fs : List Int} (hW : HeapOk E H W) (hi : nth H i = some (.own 3 ver 1 A fs.length c (isV fs))) (hn : fs.length ≤ 1000000000) :
  CallsV Tryd.prog 40 [.slice A fs.length c] W fun v W' => v = .tuple #[] ∧ HeapOk E (setn H i (.own 3 ver 1 A fs.length c (isV (srtI fs)))) W' := by
 have hlen : (srtI fs).length = fs.length := List.length_mergeSort _
 have hext : HExt H (setn H i (.own 3 ver 1 A fs.length c (isV (srtI fs)))) := HExt.setOwn hi (Nat.le_refl _) fun _ => ⟨rfl, rfl, rfl⟩
 have he0 := hW.ents i _ hi
 obtain ⟨hl, ⟨h1, h2, h3⟩ | ⟨g, b, cur, rfl, hg, h1, h2, h3, h4⟩⟩ := he0
 ·have h0 : fs = [] := List.length_eq_zero_iff.1 h1
  subst h0
  have h := Any.slices_Sort_int_none lays68 A c W
  change Calls Tryd.prog 40 _ _ _ at h
  refine Calls.mono h ?_
  rintro e w' ⟨rfl, rfl⟩
  refine ⟨rfl, hW.set hi hext (fun g hg => .inl hg) (fun _ _ _ => rfl) (Nat.le_refl _) rfl rfl rfl ?_⟩
  have h9 : srtI [] = [] := by simp [srtI]
  rw [h9]
  exact EntryOk.mono (by rw [h9] at hext; exact hext) (fun _ _ => rfl) (hW.ents i _ hi)
 ·have hgl : g < W.heap.size := by
   rcases Nat.lt_or_ge g W.heap.size with h | h
   ·exact h
   ·simp only at hg
    rw [Array.getElem?_eq_none h] at hg
    cases hg
  have hcell : ∀ j v, (isV fs)[j]? = some v → cur[b + j]? = some v := by
   intro j v hj
   rw [← h4, List.getElem?_take] at hj
   split at hj
   ·rw [List.getElem?_drop] at hj
    simpa using hj
   ·cases hj
  have hH : Holds (Value.int .i64) W g b fs.toArray := by
   intro j hj
   have hj' : j < fs.length := by simpa using hj
   have hv : (isV fs)[j]? = some (.int .i64 (fs.toArray)[j]!) := by
    rw [getElem!_pos fs.toArray j hj]
    unfold isV
    rw [List.getElem?_map, List.getElem?_eq_getElem hj']
    simp
   refine ⟨?_, ?_⟩
   ·simp only [World.cell?]
    simp only at hg
    rw [hg]
    simpa using hcell j _ hv
   ·simp only [World.frozen?]
    simp only at hg
    rw [hg]
    simp
  have h := Any.slices_Sort_int lays68 g b c fs W hH hgl (by omega)
  change Calls Tryd.prog 40 _ _ _ at h
  refine Calls.mono h ?_
  rintro e w' ⟨rfl, n, os, rfl⟩
  change _ ∧ HeapOk E _ (grow (putRow (Value.int .i64) (Go.Sort.ahead W n) g b (srtI fs).toArray) os)
  have hheap : ∀ j, j < W.heap.size → (grow (putRow (Value.int .i64) (Go.Sort.ahead W n) g b (srtI fs).toArray) os).heap[j]? = if g = j then (W.heap[j]?).map (onCells (putCells (Value.int .i64) b (srtI fs).toArray)) else W.heap[j]? := by
   intro j hj
   show ((putRow (Value.int .i64) (Go.Sort.ahead W n) g b (srtI fs).toArray).heap ++ os)[j]? = _
   rw [Array.getElem?_append_left (by rw [size_putRow]; exact hj), heapI_put]
   rfl
  have hsz : W.heap.size ≤ (grow (putRow (Value.int .i64) (Go.Sort.ahead W n) g b (srtI fs).toArray) os).heap.size := by
   show _ ≤ ((putRow (Value.int .i64) (Go.Sort.ahead W n) g b (srtI fs).toArray).heap ++ os).size
   rw [Array.size_append, size_putRow]; exact Nat.le_add_right _ _
  refine ⟨rfl, hW.set hi hext (fun g' hg' => .inl hg') (fun j hj hlt => ?_) hsz rfl rfl rfl ?_⟩
  ·rw [hheap j hlt, if_neg (fun e => hj (by rw [← e]; rfl))]
  ·refine ⟨by rw [isV_len, hlen, Nat.mul_one], .inr ⟨g, b, putCells (Value.int .i64) b (srtI fs).toArray cur, rfl, ?_, h1, h2, by rw [putI_len]; exact h3, ?_⟩⟩
   ·simp only at hg
    show (grow (putRow (Value.int .i64) (Go.Sort.ahead W n) g b (srtI fs).toArray) os).heap[g]? = _
    rw [hheap g hgl, if_pos rfl, hg]
    rfl
   ·have := putI_take b (srtI fs) cur (by rw [hlen, ← h3]; omega)
    rw [hlen] at this
    rw [Nat.mul_one]; exact this
theorem search78 {E : Env} {H : List SO} {W : World} {i ver : Nat} {A : Option Addr} {c : Nat} {zs : List Int} (hW : HeapOk E H W) (hi : nth H i = some (.own 3 ver 1 A zs.length c (isV zs))) (hn : zs.length ≤ 1000000000) (h0 : 0 < zs.length) (hs : zs.Pairwise (· ≤ ·)) (x : Int) :
  CallsV Tryd.prog 42 [.slice A zs.length c, .int .i64 x] W fun v W' => v = .tuple #[.int .i64 (posI zs x), .bool (zs.contains x)] ∧ Fresh W W' := by
 have he0 := hW.ents i _ hi
 obtain ⟨hl, ⟨h1, h2, h3⟩ | ⟨g, b, cur, rfl, hg, h1, h2, h3, h4⟩⟩ := he0
 ·omega
 have hc : ∀ j, j < zs.length → W.cell? ⟨g, b + j, none⟩ = some (.int .i64 (zs.getD j 0)) := by
  intro j hj
  have hv : (isV zs)[j]? = some (.int .i64 (zs.getD j 0)) := by
   unfold isV
   rw [List.getElem?_map, List.getElem?_eq_getElem hj, List.getD_eq_getElem?_getD, List.getElem?_eq_getElem hj]; rfl
  rw [← h4, List.getElem?_take, if_pos (by omega), List.getElem?_drop] at hv
  simp only [World.cell?]
  simp only at hg
  rw [hg]
  simpa using hv
 have h := Any.slices_BinarySearch_int lays78 g b zs.length c zs x W (Nat.le_refl _) (by omega) hc (by rw [List.take_length]; exact hs)
 change Calls Tryd.prog 42 _ _ _ at h
 refine Calls.mono h ?_
 rintro e w' ⟨rfl, q, rfl⟩
 rw [List.take_length]
 exact ⟨rfl, ⟨rfl, rfl, rfl, Nat.le_refl _, fun _ _ => rfl⟩⟩
end Go.Proofs.YtgghmmjoplddbaaDoor
namespace Go.Proofs.YtgghmmjoplddbaaDoor
open Go Go.Sx Go.Isa
set_option maxRecDepth 100000
theorem branch99 (op : Int) (w : World) : CallsV Tryd.prog 57 [.int .i64 op] w fun v w' => v = .bool (brB op) ∧ Fresh w w' := by
 refine calls_go (keep := K57) (nt := 9) (svs := [.val (.int .i64 op)]) Tryd.func57 x57 n57 (by simp) (by simp [IsL, Is]) fun R hR => ?_
 (refine Y_go 600 ?_; dsimp only [X57, numF, Nat.reduceAdd, zq9r, zq9q, Y_k, zq4u, zq8p, zq6p, YK, zq8t, zq9i, normF, zq6n, Nat.reduceBEq, zq6l, zq6k, zq8a, zq87, zq9y, t57n0, T57n0, zq8o, zq50, zq6q, zq04, zq92, zq9b, zq0i, zq9h, Y_gk, zq6d, YR, zq69, zq9f, zq4v, zq0b, zq9x, YS, zq6b, zq0c])
 refine ⟨fun h => ret_rule (vs := [.bool (decide (op ≤ 16))]) r57 rfl rfl fun W hW => hR _ _ ⟨?_, hW.fresh'⟩, fun h => ret_rule (vs := [.bool false]) r57 rfl rfl fun W hW => hR _ _ ⟨?_, hW.fresh'⟩⟩
 ·unfold brB; rw [show decide (13 ≤ op) = true from h]; rfl
 ·unfold brB; rw [show decide (13 ≤ op) = false from h]; rfl
theorem ends79 (x : In) (w : World) (hG : ShAt w) : CallsV Tryd.prog 43 [In.val x] w fun v w' => v = .bool (endsB x) ∧ Fresh w w' := by
 refine calls_go (keep := K43) (nt := 16) (svs := [.agg (In.sv x)]) Tryd.func43 x43 n43 (by simp) (by simp only [IsL]; exact ⟨_, _, In.is _ x, rfl, rfl⟩) fun R hR => ?_
 (refine Y_go 600 ?_; dsimp only [X43, In.sv, numF, Nat.reduceAdd, zq9r, zq9q, Y_k, zq5f, zq8o, zq6n, Nat.reduceBEq, zq6k, zq7t, List.length_cons, List.length_nil, zq8l, zq73, zq8m, zq8k, zq0a, zq1z, List.nil_append, YK, zq8t, zq4u, zq8p, zq6p, zq9i, normF, zq6l, zq8a, zq8c, zq88, zq9y, t43n0, T43n0, zq5c, zq1o, nth, zq1k, dropL, takeL, zq19, zq17, zq9j])
 intro g
 cases hb : legalB x with
 | false =>
  refine call_val (vs := [In.val x]) rfl (fun W hW => legal21 x W (hG.keep hW.fresh')) fun v hv => ⟨.bf, by rw [hv, hb]; simp [Is], ?_⟩
  (refine Y_go 600 ?_; dsimp only [zq8t, Y_k, zq53, zq8o, zq6n, Nat.reduceBEq, zq6k, zq0n, YK, zq4u, Y_gk, zq6a, YS, zq6l, zq4v, zq8p, zq6o, zq0b, zq9l, zq9i, normF, zq89, zq8c, zq88, zq9x])
  exact ret_rule (vs := [.bool true]) r43 rfl rfl fun W hW => hR _ _ ⟨by unfold endsB; rw [hb]; rfl, hW.fresh'⟩
 | true =>
  refine call_val (vs := [In.val x]) rfl (fun W hW => legal21 x W (hG.keep hW.fresh')) fun v hv => ⟨.bt, by rw [hv, hb]; simp [Is], ?_⟩
  (refine Y_go 600 ?_; dsimp only [zq8t, Y_k, zq53, zq8o, zq6n, Nat.reduceBEq, zq6k, zq0m, YK, zq4u, Y_gk, zq6c, YR, zq5a, zq6l, zq14, Nat.add_zero, zq5c, zq1o, nth, zq1k, List.length_cons, List.length_nil, Nat.reduceAdd, dropL, takeL, zq19, zq18, zq50, zq8p, zq6q, zq04, zq92, zq9b, zq0i, zq9c, zq4v, zq6o, zq0c, zq6e, YS, zq6a, zq9l, zq0b, zq9i, normF, zq89, zq8c, zq88, zq9x, YG])
  refine ⟨fun h => ret_rule (vs := [.bool true]) r43 rfl rfl fun W hW => hR _ _ ⟨by unfold endsB; rw [hb, h]; rfl, hW.fresh'⟩, fun h => ?_⟩
  refine call_val (vs := [.int .i64 x.op]) rfl (fun W hW => branch99 x.op W) fun v hv => ⟨.val (.bool (brB x.op)), by rw [hv]; simp [Is], ?_⟩
  (refine Y_go 600 ?_; dsimp only [zq8t, Y_k, zq4v, zq8p, zq6o, zq8o, zq6n, Nat.reduceBEq, zq6k, zq6l, zq0c, YK, zq4u, zq9i, normF, zq87, zq8c, zq88, zq9x])
  exact ret_rule (vs := [.bool (brB x.op)]) r43 rfl rfl fun W hW => hR _ _ ⟨by unfold endsB; rw [hb, h]; rfl, hW.fresh'⟩
theorem find47 {E : Env} {H : List SO} {W : World} {i ver : Nat} {A : Option Addr} {c : Nat} {zs : List Int} (hW : HeapOk E H W) (hi : nth H i = some (.own 3 ver 1 A zs.length c (isV zs))) (hn : zs.length ≤ 1000000000) (h0 : 0 < zs.length) (hs : zs.Pairwise (· ≤ ·)) (x : Int) :
  CallsV Tryd.prog 21 [.slice A zs.length c, .int .i64 x] W fun v W' => v = .int .i64 (posI zs x) ∧ Fresh W W' := by
 refine calls_go (keep := K21) (nt := 14) (svs := [.val (.slice A zs.length c), .val (.int .i64 x)]) Tryd.func21 x21 n21 (by simp) (by simp [IsL, Is]) fun R hR => ?_
 (refine Y_go 600 ?_; dsimp only [X21, numF, Nat.reduceAdd, zq9r, zq9q, Y_k, zq4u, zq8p, zq6q, YK, zq8t, zq9i, normF, zq6n, Nat.reduceBEq, zq6l, zq6k, zq6m, zq86, zq87, zq9y, t21n1, T21n1, zq8o, zq9j])
 refine call_val (vs := [.slice A zs.length c, .int .i64 x]) rfl (fun W2 hW2 => search78 (hW.freshK hW2.fresh') hi hn h0 hs x) fun v hv => ⟨.tup [.val (.int .i64 (posI zs x)), .val (.bool (zs.contains x))], by rw [hv]; simp [Is, IsL], ?_⟩
 (refine Y_go 600 ?_; dsimp only [zq8t, Y_k, zq4u, zq8o, zq6n, Nat.reduceBEq, zq6k, YK, zq5j, zq2f, nth, zq2e, zq6l, zq9i, normF, zq87, zq9y, t21n0, T21n0, zq9r, zq9q, zq9x])
 exact ret_rule (vs := [.int .i64 (posI zs x)]) r21 rfl rfl fun W2 hW2 => hR _ _ ⟨rfl, hW2.fresh'⟩
end Go.Proofs.YtgghmmjoplddbaaDoor
