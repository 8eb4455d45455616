/- slices.Sort at numbers: the kit's shelf contract, laid at this program (text printed by tools/ShText), as the engine's. -/
import Derived.Shelf.Sort.Plain
import Derived.Shelf.Slices.In.SortNone
import Derived.Test.YtbkpiljencaoeaaProg
import Derived.Test.YtbkpiljencaoeaaGrCmp
import Derived.KernelRfl
set_option linter.unusedSimpArgs false
set_option linter.unusedVariables false
set_option linter.unnecessarySimpa false
namespace Go.Proofs.Ytbkpiljencaoeaa
open Go Go.Sx Go.Gr Go.Proofs Go.Shelf Go.RowKit Go.Sort
set_option maxRecDepth 1000000
set_option linter.unusedVariables false
def lays44_ren : Go.Shelf.Ren := ⟨fun | 125 => 67 | 128 => 86 | 129 => 87 | 189 => 44 | 215 => 96 | 216 => 83 | 257 => 66 | 294 => 77 | 295 => 78 | 296 => 79 | 297 => 80 | 298 => 81 | 299 => 82 | 300 => 84 | 301 => 85 | 328 => 91 | 329 => 92 | 330 => 93 | 331 => 94 | 332 => 95 | 343 => 97 | n => n, fun | 28 => 24 | 46 => 119 | 51 => 138 | 53 => 51 | 131 => 135 | 182 => 129 | 183 => 130 | 218 => 141 | 222 => 145 | 228 => 147 | 229 => 148 | n => n, fun | n => n⟩
theorem lays44 : Go.Proofs.Lays.n189 Try.prog lays44_ren := {
 mixed := by kernel_rfl,
 f125 := by first | exact Try.func67.trans (congrArg some (by kernel_rfl)) | exact ⟨Try.f67.name, by kernel_rfl, Try.func67.trans (congrArg some (by kernel_rfl))⟩,
 f128 := by first | exact Try.func86.trans (congrArg some (by kernel_rfl)) | exact ⟨Try.f86.name, by kernel_rfl, Try.func86.trans (congrArg some (by kernel_rfl))⟩,
 f129 := by first | exact Try.func87.trans (congrArg some (by kernel_rfl)) | exact ⟨Try.f87.name, by kernel_rfl, Try.func87.trans (congrArg some (by kernel_rfl))⟩,
 f189 := by first | exact Try.func44.trans (congrArg some (by kernel_rfl)) | exact ⟨Try.f44.name, by kernel_rfl, Try.func44.trans (congrArg some (by kernel_rfl))⟩,
 f215 := by first | exact Try.func96.trans (congrArg some (by kernel_rfl)) | exact ⟨Try.f96.name, by kernel_rfl, Try.func96.trans (congrArg some (by kernel_rfl))⟩,
 f216 := by first | exact Try.func83.trans (congrArg some (by kernel_rfl)) | exact ⟨Try.f83.name, by kernel_rfl, Try.func83.trans (congrArg some (by kernel_rfl))⟩,
 f257 := by first | exact Try.func66.trans (congrArg some (by kernel_rfl)) | exact ⟨Try.f66.name, by kernel_rfl, Try.func66.trans (congrArg some (by kernel_rfl))⟩,
 f294 := by first | exact Try.func77.trans (congrArg some (by kernel_rfl)) | exact ⟨Try.f77.name, by kernel_rfl, Try.func77.trans (congrArg some (by kernel_rfl))⟩,
 f295 := by first | exact Try.func78.trans (congrArg some (by kernel_rfl)) | exact ⟨Try.f78.name, by kernel_rfl, Try.func78.trans (congrArg some (by kernel_rfl))⟩,
 f296 := by first | exact Try.func79.trans (congrArg some (by kernel_rfl)) | exact ⟨Try.f79.name, by kernel_rfl, Try.func79.trans (congrArg some (by kernel_rfl))⟩,
 f297 := by first | exact Try.func80.trans (congrArg some (by kernel_rfl)) | exact ⟨Try.f80.name, by kernel_rfl, Try.func80.trans (congrArg some (by kernel_rfl))⟩,
 f298 := by first | exact Try.func81.trans (congrArg some (by kernel_rfl)) | exact ⟨Try.f81.name, by kernel_rfl, Try.func81.trans (congrArg some (by kernel_rfl))⟩,
 f299 := by first | exact Try.func82.trans (congrArg some (by kernel_rfl)) | exact ⟨Try.f82.name, by kernel_rfl, Try.func82.trans (congrArg some (by kernel_rfl))⟩,
 f300 := by first | exact Try.func84.trans (congrArg some (by kernel_rfl)) | exact ⟨Try.f84.name, by kernel_rfl, Try.func84.trans (congrArg some (by kernel_rfl))⟩,
 f301 := by first | exact Try.func85.trans (congrArg some (by kernel_rfl)) | exact ⟨Try.f85.name, by kernel_rfl, Try.func85.trans (congrArg some (by kernel_rfl))⟩,
 f328 := by first | exact Try.func91.trans (congrArg some (by kernel_rfl)) | exact ⟨Try.f91.name, by kernel_rfl, Try.func91.trans (congrArg some (by kernel_rfl))⟩,
 f329 := by first | exact Try.func92.trans (congrArg some (by kernel_rfl)) | exact ⟨Try.f92.name, by kernel_rfl, Try.func92.trans (congrArg some (by kernel_rfl))⟩,
 f330 := by first | exact Try.func93.trans (congrArg some (by kernel_rfl)) | exact ⟨Try.f93.name, by kernel_rfl, Try.func93.trans (congrArg some (by kernel_rfl))⟩,
 f331 := by first | exact Try.func94.trans (congrArg some (by kernel_rfl)) | exact ⟨Try.f94.name, by kernel_rfl, Try.func94.trans (congrArg some (by kernel_rfl))⟩,
 f332 := by first | exact Try.func95.trans (congrArg some (by kernel_rfl)) | exact ⟨Try.f95.name, by kernel_rfl, Try.func95.trans (congrArg some (by kernel_rfl))⟩,
 f343 := by first | exact Try.func97.trans (congrArg some (by kernel_rfl)) | exact ⟨Try.f97.name, by kernel_rfl, Try.func97.trans (congrArg some (by kernel_rfl))⟩,
 t0 := Try.underlying0,
 a0 := Try.isAgg0,
 z0 := Try.sizeOf0,
 v0 := Try.zeroValue0,
 t3 := Try.underlying3,
 a3 := Try.isAgg3,
 z3 := Try.sizeOf3,
 v3 := Try.zeroValue3,
 t4 := Try.underlying4,
 a4 := Try.isAgg4,
 z4 := Try.sizeOf4,
 v4 := Try.zeroValue4,
 t5 := Try.underlying5,
 a5 := Try.isAgg5,
 z5 := Try.sizeOf5,
 v5 := Try.zeroValue5,
 t9 := Try.underlying9,
 a9 := Try.isAgg9,
 z9 := Try.sizeOf9,
 v9 := Try.zeroValue9,
 t28 := Try.underlying24,
 a28 := Try.isAgg24,
 z28 := Try.sizeOf24,
 v28 := Try.zeroValue24,
 t46 := Try.underlying119,
 a46 := Try.isAgg119,
 z46 := Try.sizeOf119,
 v46 := Try.zeroValue119,
 t51 := Try.underlying138,
 a51 := Try.isAgg138,
 z51 := Try.sizeOf138,
 v51 := Try.zeroValue138,
 t53 := Try.underlying51,
 a53 := Try.isAgg51,
 z53 := Try.sizeOf51,
 v53 := Try.zeroValue51,
 t131 := Try.underlying135,
 a131 := Try.isAgg135,
 z131 := Try.sizeOf135,
 v131 := Try.zeroValue135,
 t182 := Try.underlying129,
 a182 := Try.isAgg129,
 z182 := Try.sizeOf129,
 v182 := Try.zeroValue129,
 t183 := Try.underlying130,
 a183 := Try.isAgg130,
 z183 := Try.sizeOf130,
 v183 := Try.zeroValue130,
 t218 := Try.underlying141,
 a218 := Try.isAgg141,
 z218 := Try.sizeOf141,
 v218 := Try.zeroValue141,
 t222 := Try.underlying145,
 a222 := Try.isAgg145,
 z222 := Try.sizeOf145,
 v222 := Try.zeroValue145,
 t228 := Try.underlying147,
 a228 := Try.isAgg147,
 z228 := Try.sizeOf147,
 v228 := Try.zeroValue147,
 t229 := Try.underlying148,
 a229 := Try.isAgg148,
 z229 := Try.sizeOf148,
 v229 := Try.zeroValue148 }
theorem heapI_put (w : World) (blk off : Nat) (F : Array Int) (j : Nat) : (putRow (Value.int .i64) w blk off F).heap[j]? = if blk = j then (w.heap[j]?).map (onCells (putCells (Value.int .i64) off F)) else w.heap[j]? := by
 simp [putRow, mapBlock, Array.getElem?_modify]
theorem putI_len (off : Nat) (F : Array Int) (c : Array Value) : (putCells (Value.int .i64) off F c).size = c.size := by simp [putCells]
theorem putI_take (off : Nat) (l : List Int) (c : Array Value) (h : off + l.length ≤ c.size) : ((putCells (Value.int .i64) off l.toArray c).toList.drop off).take l.length = isV l := by
 apply List.ext_getElem?
 intro j
 rw [List.getElem?_take]
 by_cases hj : j < l.length
 ·rw [if_pos hj, List.getElem?_drop, Array.getElem?_toList]
  simp only [putCells, Array.getElem?_mapIdx]
  rw [Array.getElem?_eq_getElem (by omega), Option.map_some, if_pos (by simp only [List.size_toArray]; omega)]
  unfold isV
  rw [List.getElem?_map, List.getElem?_eq_getElem hj]
  have e : off + j - off = j := by omega
  rw [e]
  have h2 : (l.toArray)[j]! = l[j] := by rw [getElem!_pos l.toArray j (by simpa using hj)]; simp
  rw [h2]; rfl
 ·rw [if_neg hj, List.getElem?_eq_none (by rw [isV_len]; omega)]
theorem sort44 {E : Env} {H : List SO} {W : World} {i ver : Nat} {A : Option Addr} {c : Nat} {fs : List Int} (hW : HeapOk E H W) (hi : nth H i = some (.own 3 ver 1 A fs.length c (isV fs))) (hn : fs.length ≤ 1000000000) :
  CallsV Try.prog 44 [.slice A fs.length c] W fun v W' => v = .tuple #[] ∧ HeapOk E (setn H i (.own 3 ver 1 A fs.length c (isV (srtI fs)))) W' := by
 have hlen : (srtI fs).length = fs.length := List.length_mergeSort _
 have hext : HExt H (setn H i (.own 3 ver 1 A fs.length c (isV (srtI fs)))) := HExt.setOwn hi (Nat.le_refl _) fun _ => ⟨rfl, rfl, rfl⟩
 have he0 := hW.ents i _ hi
 obtain ⟨hl, ⟨h1, h2, h3⟩ | ⟨g, b, cur, rfl, hg, h1, h2, h3, h4⟩⟩ := he0
 ·have h0 : fs = [] := List.length_eq_zero_iff.1 h1
  subst h0
  have h := Any.slices_Sort_int_none lays44 A c W
  change Calls Try.prog 44 _ _ _ at h
  refine Calls.mono h ?_
  rintro e w' ⟨rfl, rfl⟩
  refine ⟨rfl, hW.set hi hext (fun g hg => .inl hg) (fun _ _ _ => rfl) (Nat.le_refl _) rfl rfl rfl ?_⟩
  have h9 : srtI [] = [] := by simp [srtI]
  rw [h9]
  exact EntryOk.mono (by rw [h9] at hext; exact hext) (fun _ _ => rfl) (hW.ents i _ hi)
 ·have hgl : g < W.heap.size := by
   rcases Nat.lt_or_ge g W.heap.size with h | h
   ·exact h
   ·simp only at hg
    rw [Array.getElem?_eq_none h] at hg
    cases hg
  have hcell : ∀ j v, (isV fs)[j]? = some v → cur[b + j]? = some v := by
   intro j v hj
   rw [← h4, List.getElem?_take] at hj
   split at hj
   ·rw [List.getElem?_drop] at hj
    simpa using hj
   ·cases hj
  have hH : Holds (Value.int .i64) W g b fs.toArray := by
   intro j hj
   have hj' : j < fs.length := by simpa using hj
   have hv : (isV fs)[j]? = some (.int .i64 (fs.toArray)[j]!) := by
    rw [getElem!_pos fs.toArray j hj]
    unfold isV
    rw [List.getElem?_map, List.getElem?_eq_getElem hj']
    simp
   refine ⟨?_, ?_⟩
   ·simp only [World.cell?]
    simp only at hg
    rw [hg]
    simpa using hcell j _ hv
   ·simp only [World.frozen?]
    simp only at hg
    rw [hg]
    simp
  have h := Any.slices_Sort_int lays44 g b c fs W hH hgl (by omega)
  change Calls Try.prog 44 _ _ _ at h
  refine Calls.mono h ?_
  rintro e w' ⟨rfl, n, os, rfl⟩
  change _ ∧ HeapOk E _ (grow (putRow (Value.int .i64) (Go.Sort.ahead W n) g b (srtI fs).toArray) os)
  have hheap : ∀ j, j < W.heap.size → (grow (putRow (Value.int .i64) (Go.Sort.ahead W n) g b (srtI fs).toArray) os).heap[j]? = if g = j then (W.heap[j]?).map (onCells (putCells (Value.int .i64) b (srtI fs).toArray)) else W.heap[j]? := by
   intro j hj
   show ((putRow (Value.int .i64) (Go.Sort.ahead W n) g b (srtI fs).toArray).heap ++ os)[j]? = _
   rw [Array.getElem?_append_left (by rw [size_putRow]; exact hj), heapI_put]
   rfl
  have hsz : W.heap.size ≤ (grow (putRow (Value.int .i64) (Go.Sort.ahead W n) g b (srtI fs).toArray) os).heap.size := by
   show _ ≤ ((putRow (Value.int .i64) (Go.Sort.ahead W n) g b (srtI fs).toArray).heap ++ os).size
   rw [Array.size_append, size_putRow]; exact Nat.le_add_right _ _
  refine ⟨rfl, hW.set hi hext (fun g' hg' => .inl hg') (fun j hj hlt => ?_) hsz rfl rfl rfl ?_⟩
  ·rw [hheap j hlt, if_neg (fun e => hj (by rw [← e]; rfl))]
  ·refine ⟨by rw [isV_len, hlen, Nat.mul_one], .inr ⟨g, b, putCells (Value.int .i64) b (srtI fs).toArray cur, rfl, ?_, h1, h2, by rw [putI_len]; exact h3, ?_⟩⟩
   ·simp only at hg
    show (grow (putRow (Value.int .i64) (Go.Sort.ahead W n) g b (srtI fs).toArray) os).heap[g]? = _
    rw [hheap g hgl, if_pos rfl, hg]
    rfl
   ·have := putI_take b (srtI fs) cur (by rw [hlen, ← h3]; omega)
    rw [hlen] at this
    rw [Nat.mul_one]; exact this
end Go.Proofs.Ytbkpiljencaoeaa
