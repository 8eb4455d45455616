/- slices.SortFunc at entries, by lines. -/
import Derived.Test.YtimmobbginjkfaaCaSrt1
import Derived.Test.YtimmobbginjkfaaCaSrtL
import Derived.Test.YtimmobbginjkfaaSxGhost
set_option linter.unusedSimpArgs false
set_option linter.unusedVariables false
set_option linter.unnecessarySimpa false
namespace Go.Proofs.Ytimmobbginjkfaa
open Go Go.Sx Go.Ca Go.Proofs Go.Shelf Go.RowKit Go.Sort
set_option maxRecDepth 100000
set_option linter.unusedVariables false
theorem cmpLays26 (blk off size : Nat) (w : World) : CmpLays Try.prog 26 #[] enV 21 cmpE blk off size w :=
 fun _ _ _ _ x y => closure26 x y _
theorem lt_cmpE (x y : En) : ltOf cmpE x y = decide (x.line < y.line) := by
 unfold ltOf cmpE
 rw [decide_eq_decide]
 by_cases h1 : x.line < y.line
 ·simp [h1]
 ·by_cases h2 : y.line < x.line
  ·simp [h1, h2]
  ·simp [h1, h2]
theorem swo_cmpE : SWO (ltOf cmpE) where
 irrefl x := by rw [lt_cmpE]; simp
 trans x y z h1 h2 := by rw [lt_cmpE] at *; simp at *; omega
 ntrans x y z h1 h2 := by rw [lt_cmpE] at *; simp at *; omega
def esV (l : List En) : List Value := l.flatMap enV
theorem esV_len (l : List En) : (esV l).length = l.length * 21 := flat_len (f := enV) (sz := 21) (fun _ => rfl) l
theorem esV_get (l : List En) {i k : Nat} (hi : i < l.length) (hk : k < 21) : (esV l)[i * 21 + k]? = (enV l[i])[k]? := flat_get (f := enV) (sz := 21) (fun _ => rfl) l hi hk
theorem flat_es (l : List En) : Go.Sort.flatK enV 21 l.toArray = (esV l).toArray := by
 apply Array.ext_getElem?
 intro t
 by_cases h : t < l.length * 21
 ·have hq : t / 21 < l.length := by omega
  have hr : t % 21 < 21 := by omega
  have e := esV_get l hq hr
  rw [show t / 21 * 21 + t % 21 = t by omega] at e
  have e2 : (esV l).toArray[t]? = (esV l)[t]? := by simp
  rw [e2, e]
  unfold Go.Sort.flatK
  rw [Array.getElem?_map, Array.getElem?_range]
  have e3 : (l.toArray)[t / 21]! = l[t / 21] := by
   rw [getElem!_pos l.toArray (t / 21) (by simpa using hq)]
   simp
  have h21 : t % 21 < (enV l[t / 21]).length := hr
  simp only [List.size_toArray, h, if_true, Option.map_some]
  rw [e3, List.getElem?_eq_getElem h21, getElem!_pos (enV l[t / 21]) (t % 21) h21]
 ·have e2 : (esV l).toArray[t]? = (esV l)[t]? := by simp
  rw [e2, Array.getElem?_eq_none (by simp [Go.Sort.flatK]; omega), List.getElem?_eq_none (by rw [esV_len]; omega)]
theorem heap_put (w : World) (blk off : Nat) (F : Array Value) (j : Nat) : (putRow id w blk off F).heap[j]? = if blk = j then (w.heap[j]?).map (onCells (putCells id off F)) else w.heap[j]? := by
 simp [putRow, mapBlock, Array.getElem?_modify]
theorem putCells_len (off : Nat) (F : Array Value) (c : Array Value) : (putCells id off F c).size = c.size := by simp [putCells]
theorem putCells_take (off : Nat) (F : Array Value) (c : Array Value) (h : off + F.size ≤ c.size) : ((putCells id off F c).toList.drop off).take F.size = F.toList := by
 apply List.ext_getElem?
 intro j
 rw [List.getElem?_take]
 by_cases hj : j < F.size
 ·rw [if_pos hj, List.getElem?_drop, Array.getElem?_toList, Array.getElem?_toList]
  simp only [putCells, Array.getElem?_mapIdx]
  rw [Array.getElem?_eq_getElem (by omega), Array.getElem?_eq_getElem hj, Option.map_some, if_pos (by omega)]
  simp [getElem!_pos F j hj]
 ·rw [if_neg hj, Array.getElem?_toList, Array.getElem?_eq_none (by omega)]
theorem sort25 {E : Env} {H : List SO} {W : World} {i ver : Nat} {A : Option Addr} {c : Nat} {fs : List En} (hW : HeapOk E H W) (hi : nth H i = some (.own 44 ver 21 A fs.length c (esV fs))) (hn : fs.length ≤ 1000000000) :
  CallsV Try.prog 25 [.slice A fs.length c, .func (.func 26) #[] #[]] W fun v W' => v = .tuple #[] ∧ ∃ gs : List En, gs.Perm fs ∧ (gs.Pairwise fun x y => x.line ≤ y.line) ∧ HeapOk E (setn H i (.own 44 ver 21 A fs.length c (esV gs))) W' := by
 have hext : ∀ gs, HExt H (setn H i (.own 44 ver 21 A fs.length c (esV gs))) := fun gs => HExt.setOwn hi (Nat.le_refl _) fun _ => ⟨rfl, rfl, rfl⟩
 have he0 := hW.ents i _ hi
 obtain ⟨hl, ⟨h1, h2, h3⟩ | ⟨g, b, cur, rfl, hg, h1, h2, h3, h4⟩⟩ := he0
 ·have h0 : fs = [] := List.length_eq_zero_iff.1 h1
  subst h0
  have h := AnyF.slices_SortFunc_none lays25 A c (.func (.func 26) #[] #[]) W
  change Calls Try.prog 25 _ _ _ at h
  refine Calls.mono h ?_
  rintro e w' ⟨rfl, rfl⟩
  refine ⟨rfl, [], .refl _, .nil, hW.set hi (hext []) (fun g hg => .inl hg) (fun _ _ _ => rfl) (Nat.le_refl _) rfl rfl rfl ?_⟩
  exact EntryOk.mono (hext []) (fun _ _ => rfl) (hW.ents i _ hi)
 ·have hgl : g < W.heap.size := by
   rcases Nat.lt_or_ge g W.heap.size with h | h
   ·exact h
   ·simp only at hg
    rw [Array.getElem?_eq_none h] at hg
    cases hg
  have hcell : ∀ j v, (esV fs)[j]? = some v → cur[b + j]? = some v := by
   intro j v hj
   rw [← h4, List.getElem?_take] at hj
   split at hj
   ·rw [List.getElem?_drop] at hj
    simpa using hj
   ·cases hj
  have hH : HoldsK enV 21 W g b fs.toArray := by
   unfold HoldsK
   rw [flat_es]
   intro j hj
   have hj' : j < (esV fs).length := by simpa using hj
   have hv : (esV fs)[j]? = some (esV fs).toArray[j]! := by
    rw [getElem!_pos (esV fs).toArray j hj]
    simp
   refine ⟨?_, ?_⟩
   ·simp only [World.cell?]
    simp only at hg
    rw [hg]
    simpa using hcell j _ hv
   ·simp only [World.frozen?]
    simp only at hg
    rw [hg]
    simp
  have h := AnyQ.slices_SortFunc lays25 21 (fun _ => rfl) (fun _ => rfl) enV (fun _ => rfl) (fun x v hv => by simp only [enV, List.mem_cons, List.not_mem_nil, or_false] at hv; rcases hv with rfl | rfl | rfl | rfl | rfl | rfl | rfl | rfl | rfl | rfl | rfl | rfl | rfl | rfl | rfl | rfl | rfl | rfl | rfl | rfl | rfl <;> rfl) cmpE swo_cmpE 26 #[] g b c fs.toArray W (enters_of Try.func26 (by kernel_rfl) rfl) (cmpLays26 g b _ W) hH hgl (by simp; omega)
  change Calls Try.prog 25 _ _ _ at h
  refine Calls.mono (args := #[.slice (some ⟨g, b, none⟩) fs.length c, .func (.func 26) #[] #[]]) h ?_
  rintro e w' ⟨rfl, d', n, os, hp, hs, rfl⟩
  obtain ⟨gs, rfl⟩ : ∃ gs : List En, d' = gs.toArray := ⟨d'.toList, by simp⟩
  obtain ⟨hlen0, _, hperm0⟩ := hp
  have hlen : gs.length = fs.length := by simpa using hlen0
  have hperm : gs.Perm fs := by
   have e1 : gs.toArray.extract 0 fs.toArray.size = gs.toArray := by rw [← hlen0]; exact Array.extract_size
   rw [e1, Array.extract_size] at hperm0
   simpa using hperm0
  have hsrt : gs.Pairwise fun x y => x.line ≤ y.line := by
   rw [List.pairwise_iff_getElem]
   intro i j hi hj hij
   have h9 := hs i j (Nat.zero_le _) hij (by simp; omega)
   rw [lt_cmpE, getElem!_pos gs.toArray i (by simpa using hi), getElem!_pos gs.toArray j (by simpa using hj)] at h9
   simp at h9
   exact h9
  have hheap : ∀ j, j < W.heap.size → (sortWorldK enV 21 W g b n gs.toArray os).heap[j]? = if g = j then (W.heap[j]?).map (onCells (putCells id b (esV gs).toArray)) else W.heap[j]? := by
   intro j hj
   unfold sortWorldK putRowK
   rw [flat_es]
   show ((putRow id (Go.Sort.ahead W n) g b (esV gs).toArray).heap ++ os)[j]? = _
   rw [Array.getElem?_append_left (by rw [size_putRow]; exact hj), heap_put]
   rfl
  have hsz : W.heap.size ≤ (sortWorldK enV 21 W g b n gs.toArray os).heap.size := size_sortWorldK_c _ _ _ _ _ _ _ _
  refine ⟨rfl, gs, hperm, hsrt, hW.set hi (hext gs) (fun g' hg' => .inl hg') (fun j hj hlt => ?_) hsz rfl rfl rfl ?_⟩
  ·rw [hheap j hlt, if_neg (fun e => hj (by rw [← e]; rfl))]
  ·refine ⟨by rw [esV_len, hlen], .inr ⟨g, b, putCells id b (esV gs).toArray cur, rfl, ?_, h1, h2, by rw [putCells_len]; exact h3, ?_⟩⟩
   ·show (sortWorldK enV 21 W g b n gs.toArray os).heap[g]? = _
    simp only at hg
    rw [hheap g hgl, if_pos rfl, hg]
    rfl
   ·have := putCells_take b (esV gs).toArray cur (by simp only [List.size_toArray]; rw [esV_len, hlen, ← h3]; omega)
    simp only [List.size_toArray] at this
    rw [esV_len, hlen] at this
    exact this
end Go.Proofs.Ytimmobbginjkfaa
