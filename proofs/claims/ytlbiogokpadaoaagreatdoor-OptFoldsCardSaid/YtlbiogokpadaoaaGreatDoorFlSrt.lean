/- slices.Sort and slices.BinarySearch at numbers: the kit's shelf contracts, laid at this program (texts printed by tools/ShText), as the engine's. -/
import Derived.Shelf.Sort.Plain
import Derived.Shelf.Slices.In.SortNone
import Derived.Shelf.Slices.SearchI
import Derived.Test.YtlbiogokpadaoaaGreatDoorProg
import Derived.Test.YtlbiogokpadaoaaGreatDoorFlCmp
import Derived.KernelRfl
import Derived.Test.YtlbiogokpadaoaaGreatDoorBgIsa3
import Derived.Test.YtlbiogokpadaoaaGreatDoorFlCode
set_option linter.unusedSimpArgs false
set_option linter.unusedVariables false
set_option linter.unnecessarySimpa false
namespace Go.Proofs.YtlbiogokpadaoaaGreatDoor
open Go Go.Sx Go.Isa Go.Proofs Go.Shelf Go.RowKit Go.Sort
set_option maxRecDepth 1000000
set_option linter.unusedVariables false
def lays68_ren : Go.Shelf.Ren := ⟨fun | 125 => 76 | 128 => 112 | 129 => 113 | 189 => 68 | 215 => 77 | 216 => 114 | 257 => 100 | 294 => 130 | 295 => 131 | 296 => 132 | 297 => 133 | 298 => 134 | 299 => 135 | 300 => 136 | 301 => 137 | 328 => 157 | 329 => 140 | 330 => 141 | 331 => 158 | 332 => 159 | 343 => 179 | n => n, fun | 28 => 33 | 46 => 116 | 51 => 163 | 53 => 49 | 131 => 118 | 182 => 156 | 183 => 157 | 218 => 199 | 222 => 203 | 228 => 216 | 229 => 217 | n => n, fun | n => n⟩
theorem lays68 : Go.Proofs.Lays.n189 Tryz.prog lays68_ren := {
 mixed := by kernel_rfl,
 f125 := by first | exact Tryz.func76.trans (congrArg some (by kernel_rfl)) | exact ⟨Tryz.f76.name, by kernel_rfl, Tryz.func76.trans (congrArg some (by kernel_rfl))⟩,
 f128 := by first | exact Tryz.func112.trans (congrArg some (by kernel_rfl)) | exact ⟨Tryz.f112.name, by kernel_rfl, Tryz.func112.trans (congrArg some (by kernel_rfl))⟩,
 f129 := by first | exact Tryz.func113.trans (congrArg some (by kernel_rfl)) | exact ⟨Tryz.f113.name, by kernel_rfl, Tryz.func113.trans (congrArg some (by kernel_rfl))⟩,
 f189 := by first | exact Tryz.func68.trans (congrArg some (by kernel_rfl)) | exact ⟨Tryz.f68.name, by kernel_rfl, Tryz.func68.trans (congrArg some (by kernel_rfl))⟩,
 f215 := by first | exact Tryz.func77.trans (congrArg some (by kernel_rfl)) | exact ⟨Tryz.f77.name, by kernel_rfl, Tryz.func77.trans (congrArg some (by kernel_rfl))⟩,
 f216 := by first | exact Tryz.func114.trans (congrArg some (by kernel_rfl)) | exact ⟨Tryz.f114.name, by kernel_rfl, Tryz.func114.trans (congrArg some (by kernel_rfl))⟩,
 f257 := by first | exact Tryz.func100.trans (congrArg some (by kernel_rfl)) | exact ⟨Tryz.f100.name, by kernel_rfl, Tryz.func100.trans (congrArg some (by kernel_rfl))⟩,
 f294 := by first | exact Tryz.func130.trans (congrArg some (by kernel_rfl)) | exact ⟨Tryz.f130.name, by kernel_rfl, Tryz.func130.trans (congrArg some (by kernel_rfl))⟩,
 f295 := by first | exact Tryz.func131.trans (congrArg some (by kernel_rfl)) | exact ⟨Tryz.f131.name, by kernel_rfl, Tryz.func131.trans (congrArg some (by kernel_rfl))⟩,
 f296 := by first | exact Tryz.func132.trans (congrArg some (by kernel_rfl)) | exact ⟨Tryz.f132.name, by kernel_rfl, Tryz.func132.trans (congrArg some (by kernel_rfl))⟩,
 f297 := by first | exact Tryz.func133.trans (congrArg some (by kernel_rfl)) | exact ⟨Tryz.f133.name, by kernel_rfl, Tryz.func133.trans (congrArg some (by kernel_rfl))⟩,
 f298 := by first | exact Tryz.func134.trans (congrArg some (by kernel_rfl)) | exact ⟨Tryz.f134.name, by kernel_rfl, Tryz.func134.trans (congrArg some (by kernel_rfl))⟩,
 f299 := by first | exact Tryz.func135.trans (congrArg some (by kernel_rfl)) | exact ⟨Tryz.f135.name, by kernel_rfl, Tryz.func135.trans (congrArg some (by kernel_rfl))⟩,
 f300 := by first | exact Tryz.func136.trans (congrArg some (by kernel_rfl)) | exact ⟨Tryz.f136.name, by kernel_rfl, Tryz.func136.trans (congrArg some (by kernel_rfl))⟩,
 f301 := by first | exact Tryz.func137.trans (congrArg some (by kernel_rfl)) | exact ⟨Tryz.f137.name, by kernel_rfl, Tryz.func137.trans (congrArg some (by kernel_rfl))⟩,
 f328 := by first | exact Tryz.func157.trans (congrArg some (by kernel_rfl)) | exact ⟨Tryz.f157.name, by kernel_rfl, Tryz.func157.trans (congrArg some (by kernel_rfl))⟩,
 f329 := by first | exact Tryz.func140.trans (congrArg some (by kernel_rfl)) | exact ⟨Tryz.f140.name, by kernel_rfl, Tryz.func140.trans (congrArg some (by kernel_rfl))⟩,
 f330 := by first | exact Tryz.func141.trans (congrArg some (by kernel_rfl)) | exact ⟨Tryz.f141.name, by kernel_rfl, Tryz.func141.trans (congrArg some (by kernel_rfl))⟩,
 f331 := by first | exact Tryz.func158.trans (congrArg some (by kernel_rfl)) | exact ⟨Tryz.f158.name, by kernel_rfl, Tryz.func158.trans (congrArg some (by kernel_rfl))⟩,
 f332 := by first | exact Tryz.func159.trans (congrArg some (by kernel_rfl)) | exact ⟨Tryz.f159.name, by kernel_rfl, Tryz.func159.trans (congrArg some (by kernel_rfl))⟩,
 f343 := by first | exact Tryz.func179.trans (congrArg some (by kernel_rfl)) | exact ⟨Tryz.f179.name, by kernel_rfl, Tryz.func179.trans (congrArg some (by kernel_rfl))⟩,
 t0 := Tryz.underlying0,
 a0 := Tryz.isAgg0,
 z0 := Tryz.sizeOf0,
 v0 := Tryz.zeroValue0,
 t3 := Tryz.underlying3,
 a3 := Tryz.isAgg3,
 z3 := Tryz.sizeOf3,
 v3 := Tryz.zeroValue3,
 t4 := Tryz.underlying4,
 a4 := Tryz.isAgg4,
 z4 := Tryz.sizeOf4,
 v4 := Tryz.zeroValue4,
 t5 := Tryz.underlying5,
 a5 := Tryz.isAgg5,
 z5 := Tryz.sizeOf5,
 v5 := Tryz.zeroValue5,
 t9 := Tryz.underlying9,
 a9 := Tryz.isAgg9,
 z9 := Tryz.sizeOf9,
 v9 := Tryz.zeroValue9,
 t28 := Tryz.underlying33,
 a28 := Tryz.isAgg33,
 z28 := Tryz.sizeOf33,
 v28 := Tryz.zeroValue33,
 t46 := Tryz.underlying116,
 a46 := Tryz.isAgg116,
 z46 := Tryz.sizeOf116,
 v46 := Tryz.zeroValue116,
 t51 := Tryz.underlying163,
 a51 := Tryz.isAgg163,
 z51 := Tryz.sizeOf163,
 v51 := Tryz.zeroValue163,
 t53 := Tryz.underlying49,
 a53 := Tryz.isAgg49,
 z53 := Tryz.sizeOf49,
 v53 := Tryz.zeroValue49,
 t131 := Tryz.underlying118,
 a131 := Tryz.isAgg118,
 z131 := Tryz.sizeOf118,
 v131 := Tryz.zeroValue118,
 t182 := Tryz.underlying156,
 a182 := Tryz.isAgg156,
 z182 := Tryz.sizeOf156,
 v182 := Tryz.zeroValue156,
 t183 := Tryz.underlying157,
 a183 := Tryz.isAgg157,
 z183 := Tryz.sizeOf157,
 v183 := Tryz.zeroValue157,
 t218 := Tryz.underlying199,
 a218 := Tryz.isAgg199,
 z218 := Tryz.sizeOf199,
 v218 := Tryz.zeroValue199,
 t222 := Tryz.underlying203,
 a222 := Tryz.isAgg203,
 z222 := Tryz.sizeOf203,
 v222 := Tryz.zeroValue203,
 t228 := Tryz.underlying216,
 a228 := Tryz.isAgg216,
 z228 := Tryz.sizeOf216,
 v228 := Tryz.zeroValue216,
 t229 := Tryz.underlying217,
 a229 := Tryz.isAgg217,
 z229 := Tryz.sizeOf217,
 v229 := Tryz.zeroValue217 }
def lays78_ren : Go.Shelf.Ren := ⟨fun | 25 => 78 | 31 => 114 | 32 => 115 | 37 => 77 | n => n, fun | 22 => 33 | 40 => 116 | n => n, fun | n => n⟩
theorem lays78 : Go.Proofs.Lays2.n25 Tryz.prog lays78_ren := {
 mixed := by kernel_rfl,
 f25 := by first | exact Tryz.func78.trans (congrArg some (by kernel_rfl)) | exact ⟨Tryz.f78.name, by kernel_rfl, Tryz.func78.trans (congrArg some (by kernel_rfl))⟩,
 f31 := by first | exact Tryz.func114.trans (congrArg some (by kernel_rfl)) | exact ⟨Tryz.f114.name, by kernel_rfl, Tryz.func114.trans (congrArg some (by kernel_rfl))⟩,
 f32 := by first | exact Tryz.func115.trans (congrArg some (by kernel_rfl)) | exact ⟨Tryz.f115.name, by kernel_rfl, Tryz.func115.trans (congrArg some (by kernel_rfl))⟩,
 f37 := by first | exact Tryz.func77.trans (congrArg some (by kernel_rfl)) | exact ⟨Tryz.f77.name, by kernel_rfl, Tryz.func77.trans (congrArg some (by kernel_rfl))⟩,
 t0 := Tryz.underlying0,
 a0 := Tryz.isAgg0,
 z0 := Tryz.sizeOf0,
 v0 := Tryz.zeroValue0,
 t3 := Tryz.underlying3,
 a3 := Tryz.isAgg3,
 z3 := Tryz.sizeOf3,
 v3 := Tryz.zeroValue3,
 t4 := Tryz.underlying4,
 a4 := Tryz.isAgg4,
 z4 := Tryz.sizeOf4,
 v4 := Tryz.zeroValue4,
 t22 := Tryz.underlying33,
 a22 := Tryz.isAgg33,
 z22 := Tryz.sizeOf33,
 v22 := Tryz.zeroValue33,
 t40 := Tryz.underlying116,
 a40 := Tryz.isAgg116,
 z40 := Tryz.sizeOf116,
 v40 := Tryz.zeroValue116 }
theorem heapI_put (w : World) (blk off : Nat) (F : Array Int) (j : Nat) : (putRow (Value.int .i64) w blk off F).heap[j]? = if blk = j then (w.heap[j]?).map (onCells (putCells (Value.int .i64) off F)) else w.heap[j]? := by
 simp [putRow, mapBlock, Array.getElem?_modify]
theorem putI_len (off : Nat) (F : Array Int) (c : Array Value) : (putCells (Value.int .i64) off F c).size = c.size := by simp [putCells]
theorem putI_take (off : Nat) (l : List Int) (c : Array Value) (h : off + l.length ≤ c.size) : ((putCells (Value.int .i64) off l.toArray c).toList.drop off).take l.length = isV l := by
 apply List.ext_getElem?
 intro j
 rw [List.getElem?_take]
 by_cases hj : j < l.length
 ·rw [if_pos hj, List.getElem?_drop, Array.getElem?_toList]
  simp only [putCells, Array.getElem?_mapIdx]
  rw [Array.getElem?_eq_getElem (by omega), Option.map_some, if_pos (by simp only [List.size_toArray]; omega)]
  unfold isV
  rw [List.getElem?_map, List.getElem?_eq_getElem hj]
  have e : off + j - off = j := by omega
  rw [e]
  have h2 : (l.toArray)[j]! = l[j] := by rw [getElem!_pos l.toArray j (by simpa using hj)]; simp
  rw [h2]; rfl
 ·rw [if_neg hj, List.getElem?_eq_none (by rw [isV_len]; omega)]
theorem sort68 {E : Env} {H : List SO} {W : World} {i ver : Nat} {A : Option Addr} {c : Nat} {fs : List Int} (hW : HeapOk E H W) (hi : nth H i = some (.own 3 ver 1 A fs.length c (isV fs))) (hn : fs.length ≤ 1000000000) :
  CallsV Tryz.prog 68 [.slice A fs.length c] W fun v W' => v = .tuple #[] ∧ HeapOk E (setn H i (.own 3 ver 1 A fs.length c (isV (srtI fs)))) W' := by
 have hlen : (srtI fs).length = fs.length := List.length_mergeSort _
 have hext : HExt H (setn H i (.own 3 ver 1 A fs.length c (isV (srtI fs)))) := HExt.setOwn hi (Nat.le_refl _) fun _ => ⟨rfl, rfl, rfl⟩
 have he0 := hW.ents i _ hi
 obtain ⟨hl, ⟨h1, h2, h3⟩ | ⟨g, b, cur, rfl, hg, h1, h2, h3, h4⟩⟩ := he0
 ·have h0 : fs = [] := List.length_eq_zero_iff.1 h1
  subst h0
  have h := Any.slices_Sort_int_none lays68 A c W
  change Calls Tryz.prog 68 _ _ _ at h
  refine Calls.mono h ?_
  rintro e w' ⟨rfl, rfl⟩
  refine ⟨rfl, hW.set hi hext (fun g hg => .inl hg) (fun _ _ _ => rfl) (Nat.le_refl _) rfl rfl rfl ?_⟩
  have h9 : srtI [] = [] := by simp [srtI]
  rw [h9]
  exact EntryOk.mono (by rw [h9] at hext; exact hext) (fun _ _ => rfl) (hW.ents i _ hi)
 ·have hgl : g < W.heap.size := by
   rcases Nat.lt_or_ge g W.heap.size with h | h
   ·exact h
   ·simp only at hg
    rw [Array.getElem?_eq_none h] at hg
    cases hg
  have hcell : ∀ j v, (isV fs)[j]? = some v → cur[b + j]? = some v := by
   intro j v hj
   rw [← h4, List.getElem?_take] at hj
   split at hj
   ·rw [List.getElem?_drop] at hj
    simpa using hj
   ·cases hj
  have hH : Holds (Value.int .i64) W g b fs.toArray := by
   intro j hj
   have hj' : j < fs.length := by simpa using hj
   have hv : (isV fs)[j]? = some (.int .i64 (fs.toArray)[j]!) := by
    rw [getElem!_pos fs.toArray j hj]
    unfold isV
    rw [List.getElem?_map, List.getElem?_eq_getElem hj']
    simp
   refine ⟨?_, ?_⟩
   ·simp only [World.cell?]
    simp only at hg
    rw [hg]
    simpa using hcell j _ hv
   ·simp only [World.frozen?]
    simp only at hg
    rw [hg]
    simp
  have h := Any.slices_Sort_int lays68 g b c fs W hH hgl (by omega)
  change Calls Tryz.prog 68 _ _ _ at h
  refine Calls.mono h ?_
  rintro e w' ⟨rfl, n, os, rfl⟩
  change _ ∧ HeapOk E _ (grow (putRow (Value.int .i64) (Go.Sort.ahead W n) g b (srtI fs).toArray) os)
  have hheap : ∀ j, j < W.heap.size → (grow (putRow (Value.int .i64) (Go.Sort.ahead W n) g b (srtI fs).toArray) os).heap[j]? = if g = j then (W.heap[j]?).map (onCells (putCells (Value.int .i64) b (srtI fs).toArray)) else W.heap[j]? := by
   intro j hj
   show ((putRow (Value.int .i64) (Go.Sort.ahead W n) g b (srtI fs).toArray).heap ++ os)[j]? = _
   rw [Array.getElem?_append_left (by rw [size_putRow]; exact hj), heapI_put]
   rfl
  have hsz : W.heap.size ≤ (grow (putRow (Value.int .i64) (Go.Sort.ahead W n) g b (srtI fs).toArray) os).heap.size := by
   show _ ≤ ((putRow (Value.int .i64) (Go.Sort.ahead W n) g b (srtI fs).toArray).heap ++ os).size
   rw [Array.size_append, size_putRow]; exact Nat.le_add_right _ _
  refine ⟨rfl, hW.set hi hext (fun g' hg' => .inl hg') (fun j hj hlt => ?_) hsz rfl rfl rfl ?_⟩
  ·rw [hheap j hlt, if_neg (fun e => hj (by rw [← e]; rfl))]
  ·refine ⟨by rw [isV_len, hlen, Nat.mul_one], .inr ⟨g, b, putCells (Value.int .i64) b (srtI fs).toArray cur, rfl, ?_, h1, h2, by rw [putI_len]; exact h3, ?_⟩⟩
   ·simp only at hg
    show (grow (putRow (Value.int .i64) (Go.Sort.ahead W n) g b (srtI fs).toArray) os).heap[g]? = _
    rw [hheap g hgl, if_pos rfl, hg]
    rfl
   ·have := putI_take b (srtI fs) cur (by rw [hlen, ← h3]; omega)
    rw [hlen] at this
    rw [Nat.mul_one]; exact this
theorem search78 {E : Env} {H : List SO} {W : World} {i ver : Nat} {A : Option Addr} {c : Nat} {zs : List Int} (hW : HeapOk E H W) (hi : nth H i = some (.own 3 ver 1 A zs.length c (isV zs))) (hn : zs.length ≤ 1000000000) (h0 : 0 < zs.length) (hs : zs.Pairwise (· ≤ ·)) (x : Int) :
  CallsV Tryz.prog 78 [.slice A zs.length c, .int .i64 x] W fun v W' => v = .tuple #[.int .i64 (posI zs x), .bool (zs.contains x)] ∧ Fresh W W' := by
 have he0 := hW.ents i _ hi
 obtain ⟨hl, ⟨h1, h2, h3⟩ | ⟨g, b, cur, rfl, hg, h1, h2, h3, h4⟩⟩ := he0
 ·omega
 have hc : ∀ j, j < zs.length → W.cell? ⟨g, b + j, none⟩ = some (.int .i64 (zs.getD j 0)) := by
  intro j hj
  have hv : (isV zs)[j]? = some (.int .i64 (zs.getD j 0)) := by
   unfold isV
   rw [List.getElem?_map, List.getElem?_eq_getElem hj, List.getD_eq_getElem?_getD, List.getElem?_eq_getElem hj]; rfl
  rw [← h4, List.getElem?_take, if_pos (by omega), List.getElem?_drop] at hv
  simp only [World.cell?]
  simp only at hg
  rw [hg]
  simpa using hv
 have h := Any.slices_BinarySearch_int lays78 g b zs.length c zs x W (Nat.le_refl _) (by omega) hc (by rw [List.take_length]; exact hs)
 change Calls Tryz.prog 78 _ _ _ at h
 refine Calls.mono h ?_
 rintro e w' ⟨rfl, q, rfl⟩
 rw [List.take_length]
 exact ⟨rfl, ⟨rfl, rfl, rfl, Nat.le_refl _, fun _ _ => rfl⟩⟩
end Go.Proofs.YtlbiogokpadaoaaGreatDoor
namespace Go.Proofs.YtlbiogokpadaoaaGreatDoor
open Go Go.Sx Go.Isa
set_option maxRecDepth 100000
theorem branch99 (op : Int) (w : World) : CallsV Tryz.prog 99 [.int .i64 op] w fun v w' => v = .bool (brB op) ∧ Fresh w w' := by
 refine calls_go (keep := K99) (nt := 9) (svs := [.val (.int .i64 op)]) Tryz.func99 x99 n99 (by simp) (by simp [IsL, Is]) fun R hR => ?_
 (refine Y_go 600 ?_; dsimp only [X99, numF, Nat.reduceAdd, zq9r, zq9q, Y_k, zq4u, zq8p, zq6p, YK, zq8t, zq9i, normF, zq6n, Nat.reduceBEq, zq6l, zq6k, zq8a, zq87, zq9y, t99n0, T99n0, zq8o, zq50, zq6q, zq04, zq92, zq9b, zq0i, zq9h, Y_gk, zq6d, YR, zq69, zq9f, zq4v, zq0b, zq9x, YS, zq6b, zq0c])
 refine ⟨fun h => ret_rule (vs := [.bool (decide (op ≤ 16))]) r99 rfl rfl fun W hW => hR _ _ ⟨?_, hW.fresh'⟩, fun h => ret_rule (vs := [.bool false]) r99 rfl rfl fun W hW => hR _ _ ⟨?_, hW.fresh'⟩⟩
 ·unfold brB; rw [show decide (13 ≤ op) = true from h]; rfl
 ·unfold brB; rw [show decide (13 ≤ op) = false from h]; rfl
theorem ends79 (x : In) (w : World) (hG : ShAt w) : CallsV Tryz.prog 79 [In.val x] w fun v w' => v = .bool (endsB x) ∧ Fresh w w' := by
 refine calls_go (keep := K79) (nt := 16) (svs := [.agg (In.sv x)]) Tryz.func79 x79 n79 (by simp) (by simp only [IsL]; exact ⟨_, _, In.is _ x, rfl, rfl⟩) fun R hR => ?_
 (refine Y_go 600 ?_; dsimp only [X79, In.sv, numF, Nat.reduceAdd, zq9r, zq9q, Y_k, zq5f, zq8o, zq6n, Nat.reduceBEq, zq6k, zq7t, List.length_cons, List.length_nil, zq8l, zq73, zq8m, zq8k, zq0a, zq1z, List.nil_append, YK, zq8t, zq4u, zq8p, zq6p, zq9i, normF, zq6l, zq8a, zq8c, zq88, zq9y, t79n0, T79n0, zq5c, zq1o, nth, zq1k, dropL, takeL, zq19, zq17, zq9j])
 intro g
 cases hb : legalB x with
 | false =>
  refine call_val (vs := [In.val x]) rfl (fun W hW => legal21 x W (hG.keep hW.fresh')) fun v hv => ⟨.bf, by rw [hv, hb]; simp [Is], ?_⟩
  (refine Y_go 600 ?_; dsimp only [zq8t, Y_k, zq53, zq8o, zq6n, Nat.reduceBEq, zq6k, zq0n, YK, zq4u, Y_gk, zq6a, YS, zq6l, zq4v, zq8p, zq6o, zq0b, zq9l, zq9i, normF, zq89, zq8c, zq88, zq9x])
  exact ret_rule (vs := [.bool true]) r79 rfl rfl fun W hW => hR _ _ ⟨by unfold endsB; rw [hb]; rfl, hW.fresh'⟩
 | true =>
  refine call_val (vs := [In.val x]) rfl (fun W hW => legal21 x W (hG.keep hW.fresh')) fun v hv => ⟨.bt, by rw [hv, hb]; simp [Is], ?_⟩
  (refine Y_go 600 ?_; dsimp only [zq8t, Y_k, zq53, zq8o, zq6n, Nat.reduceBEq, zq6k, zq0m, YK, zq4u, Y_gk, zq6c, YR, zq5a, zq6l, zq14, Nat.add_zero, zq5c, zq1o, nth, zq1k, List.length_cons, List.length_nil, Nat.reduceAdd, dropL, takeL, zq19, zq18, zq50, zq8p, zq6q, zq04, zq92, zq9b, zq0i, zq9c, zq4v, zq6o, zq0c, zq6e, YS, zq6a, zq9l, zq0b, zq9i, normF, zq89, zq8c, zq88, zq9x, YG])
  refine ⟨fun h => ret_rule (vs := [.bool true]) r79 rfl rfl fun W hW => hR _ _ ⟨by unfold endsB; rw [hb, h]; rfl, hW.fresh'⟩, fun h => ?_⟩
  refine call_val (vs := [.int .i64 x.op]) rfl (fun W hW => branch99 x.op W) fun v hv => ⟨.val (.bool (brB x.op)), by rw [hv]; simp [Is], ?_⟩
  (refine Y_go 600 ?_; dsimp only [zq8t, Y_k, zq4v, zq8p, zq6o, zq8o, zq6n, Nat.reduceBEq, zq6k, zq6l, zq0c, YK, zq4u, zq9i, normF, zq87, zq8c, zq88, zq9x])
  exact ret_rule (vs := [.bool (brB x.op)]) r79 rfl rfl fun W hW => hR _ _ ⟨by unfold endsB; rw [hb, h]; rfl, hW.fresh'⟩
theorem find47 {E : Env} {H : List SO} {W : World} {i ver : Nat} {A : Option Addr} {c : Nat} {zs : List Int} (hW : HeapOk E H W) (hi : nth H i = some (.own 3 ver 1 A zs.length c (isV zs))) (hn : zs.length ≤ 1000000000) (h0 : 0 < zs.length) (hs : zs.Pairwise (· ≤ ·)) (x : Int) :
  CallsV Tryz.prog 47 [.slice A zs.length c, .int .i64 x] W fun v W' => v = .int .i64 (posI zs x) ∧ Fresh W W' := by
 refine calls_go (keep := K47) (nt := 14) (svs := [.val (.slice A zs.length c), .val (.int .i64 x)]) Tryz.func47 x47 n47 (by simp) (by simp [IsL, Is]) fun R hR => ?_
 (refine Y_go 600 ?_; dsimp only [X47, numF, Nat.reduceAdd, zq9r, zq9q, Y_k, zq4u, zq8p, zq6q, YK, zq8t, zq9i, normF, zq6n, Nat.reduceBEq, zq6l, zq6k, zq6m, zq86, zq87, zq9y, t47n1, T47n1, zq8o, zq9j])
 refine call_val (vs := [.slice A zs.length c, .int .i64 x]) rfl (fun W2 hW2 => search78 (hW.freshK hW2.fresh') hi hn h0 hs x) fun v hv => ⟨.tup [.val (.int .i64 (posI zs x)), .val (.bool (zs.contains x))], by rw [hv]; simp [Is, IsL], ?_⟩
 (refine Y_go 600 ?_; dsimp only [zq8t, Y_k, zq4u, zq8o, zq6n, Nat.reduceBEq, zq6k, YK, zq5j, zq2f, nth, zq2e, zq6l, zq9i, normF, zq87, zq9y, t47n0, T47n0, zq9r, zq9q, zq9x])
 exact ret_rule (vs := [.int .i64 (posI zs x)]) r47 rfl rfl fun W2 hW2 => hR _ _ ⟨rfl, hW2.fresh'⟩
end Go.Proofs.YtlbiogokpadaoaaGreatDoor
