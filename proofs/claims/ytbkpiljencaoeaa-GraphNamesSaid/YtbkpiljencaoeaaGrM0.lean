/- graph.made (1): the map and its family of slices; the second loop, which puts them in order. -/
import Derived.Test.YtbkpiljencaoeaaGrCmp
import Derived.Test.YtbkpiljencaoeaaGrPlain
import Derived.Test.YtbkpiljencaoeaaGrSrt
import Derived.Test.YtbkpiljencaoeaaSxGhost
import Derived.Test.YtbkpiljencaoeaaGrCode
set_option linter.unusedSimpArgs false
set_option linter.unusedVariables false
set_option linter.unnecessarySimpa false
namespace Go.Proofs.Ytbkpiljencaoeaa
open Go Go.Sx Go.Gr
set_option maxRecDepth 100000
structure NHd where
 A : Option Addr
 c : Nat
deriving Inhabited
def edV (e : Ed) : List Value := [.int .i64 e.1, .int .i64 e.2]
def cellsD (l : List Ed) : List Value := l.flatMap edV
theorem cellsD_len (l : List Ed) : (cellsD l).length = l.length * 2 := flat_len (f := edV) (sz := 2) (fun _ => rfl) l
theorem cellsD_get (l : List Ed) {i k : Nat} (hi : i < l.length) (hk : k < 2) : (cellsD l)[i * 2 + k]? = (edV l[i])[k]? := flat_get (f := edV) (sz := 2) (fun _ => rfl) l hi hk
def kvZ (f : Int → List Int) (z : List (Int × NHd)) : List (Value × Value) := z.map fun p => (.int .i64 p.1, .slice p.2.A (f p.1).length p.2.c)
def famZ (f : Int → List Int) (z : List (Int × NHd)) : List SO := z.map fun p => .own 3 0 1 p.2.A (f p.1).length p.2.c (isV (f p.1))
theorem famZ_res (H : List SO) (f : Int → List Int) : ∀ z : List (Int × NHd), resH H (famZ f z) = famZ f z
 | [] => rfl
 | p :: z => by
  have ih := famZ_res H f z
  unfold famZ at *
  simp only [List.map_cons, resH, resO]; rw [ih]
theorem famZ_shut (f : Int → List Int) (z : List (Int × NHd)) : ∀ e ∈ famZ f z, scpO 0 e = true := by
 intro e he
 obtain ⟨p, _, rfl⟩ := List.mem_map.1 he
 rfl
theorem kvZ_keys (f : Int → List Int) (z : List (Int × NHd)) : ∀ p ∈ kvZ f z, keyIs (.int .i64) p.1 = true := by
 intro p hp
 obtain ⟨q, _, rfl⟩ := List.mem_map.1 hp
 rfl
theorem keyB_intZ (a b : Int) : keyB (.int .i64 a) (.int .i64 b) = (a == b) := rfl
theorem mget_none (f : Int → List Int) : ∀ (z : List (Int × NHd)) (k : Int), k ∉ z.map (·.1) → mget (kvZ f z) (.int .i64 k) = none
 | [], k, _ => rfl
 | p :: z, k, h => by
  simp only [List.map_cons, List.mem_cons, not_or] at h
  show (match keyB (.int .i64 k) (.int .i64 p.1) with | true => _ | false => mget (kvZ f z) (.int .i64 k)) = none
  rw [keyB_intZ, show (k == p.1) = false by simpa using h.1]
  exact mget_none f z k h.2
theorem mget_some (f : Int → List Int) : ∀ {z : List (Int × NHd)} {i : Nat} {k : Int} {d : NHd}, (z.map (·.1)).Nodup → z[i]? = some (k, d) → mget (kvZ f z) (.int .i64 k) = some (.slice d.A (f k).length d.c)
 | p :: z, 0, k, d, _, h => by
  simp at h; subst h
  show (match keyB (.int .i64 k) (.int .i64 k) with | true => some _ | false => _) = _
  rw [keyB_intZ, beq_self_eq_true]
 | p :: z, i + 1, k, d, hn, h => by
  simp only [List.map_cons, List.nodup_cons] at hn
  have h' : z[i]? = some (k, d) := by simpa using h
  have hne : ¬ k = p.1 := fun e => hn.1 (by rw [← e]; exact List.mem_map.2 ⟨(k, d), List.mem_of_getElem? h', rfl⟩)
  show (match keyB (.int .i64 k) (.int .i64 p.1) with | true => _ | false => mget (kvZ f z) (.int .i64 k)) = _
  rw [keyB_intZ, show (k == p.1) = false by simpa using hne]
  exact mget_some f hn.2 h'
theorem kvZ_congr {f f' : Int → List Int} {z : List (Int × NHd)} (h : ∀ p ∈ z, f p.1 = f' p.1) : kvZ f z = kvZ f' z := List.map_congr_left fun p hp => by rw [h p hp]
theorem famZ_congr {f f' : Int → List Int} {z : List (Int × NHd)} (h : ∀ p ∈ z, f p.1 = f' p.1) : famZ f z = famZ f' z := List.map_congr_left fun p hp => by rw [h p hp]
theorem mput_new (f : Int → List Int) (u : Value) : ∀ (z : List (Int × NHd)) (k : Int), k ∉ z.map (·.1) → mput (kvZ f z) (.int .i64 k) u = kvZ f z ++ [(.int .i64 k, u)]
 | [], k, _ => rfl
 | p :: z, k, h => by
  simp only [List.map_cons, List.mem_cons, not_or] at h
  show (match keyB (.int .i64 k) (.int .i64 p.1) with | true => _ | false => (Value.int .i64 p.1, Value.slice p.2.A (f p.1).length p.2.c) :: mput (kvZ f z) (.int .i64 k) u) = _
  rw [keyB_intZ, show (k == p.1) = false by simpa using h.1]
  simp only [mput_new f u z k h.2]; rfl
theorem mput_set (f : Int → List Int) (u : Value) : ∀ {z : List (Int × NHd)} {i : Nat} {k : Int} {d : NHd}, (z.map (·.1)).Nodup → z[i]? = some (k, d) → mput (kvZ f z) (.int .i64 k) u = (kvZ f z).set i (.int .i64 k, u)
 | p :: z, 0, k, d, _, h => by
  simp at h; subst h
  show (match keyB (.int .i64 k) (.int .i64 k) with | true => _ | false => _) = _
  rw [keyB_intZ, beq_self_eq_true]; rfl
 | p :: z, i + 1, k, d, hn, h => by
  simp only [List.map_cons, List.nodup_cons] at hn
  have h' : z[i]? = some (k, d) := by simpa using h
  have hne : ¬ k = p.1 := fun e => hn.1 (by rw [← e]; exact List.mem_map.2 ⟨(k, d), List.mem_of_getElem? h', rfl⟩)
  show (match keyB (.int .i64 k) (.int .i64 p.1) with | true => _ | false => (Value.int .i64 p.1, Value.slice p.2.A (f p.1).length p.2.c) :: mput (kvZ f z) (.int .i64 k) u) = _
  rw [keyB_intZ, show (k == p.1) = false by simpa using hne]
  simp only [mput_set f u hn.2 h']; rfl
theorem erase_ne {z : List (Int × NHd)} {i : Nat} {k : Int} {d : NHd} (hn : (z.map (·.1)).Nodup) (h : z[i]? = some (k, d)) : ∀ p ∈ z.eraseIdx i, p.1 ≠ k := by
 intro p hp e
 have hperm := (perm_erase' h).map (·.1)
 have := hperm.nodup_iff.1 hn
 simp only [List.map_cons, List.nodup_cons] at this
 exact this.1 (List.mem_map.2 ⟨p, hp, e⟩)
theorem perm_setZ {α : Type} : ∀ {l : List α} {i : Nat} {a : α}, i < l.length → (l.set i a).Perm (a :: l.eraseIdx i)
 | b :: l, 0, a, h => .refl _
 | b :: l, i + 1, a, h => by
  have := perm_setZ (l := l) (i := i) (a := a) (by simpa using h)
  exact (this.cons b).trans (List.Perm.swap a b _)
 | [], _, _, h => by simp at h
theorem kvZ_set {f f' : Int → List Int} {z : List (Int × NHd)} {i : Nat} {k : Int} {d d' : NHd} (hn : (z.map (·.1)).Nodup) (h : z[i]? = some (k, d)) (hf : ∀ x, x ≠ k → f x = f' x) : (kvZ f z).set i (.int .i64 k, .slice d'.A (f' k).length d'.c) = kvZ f' (z.set i (k, d')) := by
 unfold kvZ
 rw [List.map_set]
 apply List.ext_getElem?
 intro j
 rw [List.getElem?_set, List.getElem?_set]
 have hil := (List.getElem?_eq_some_iff.1 h).1
 by_cases e : i = j
 ·subst e; rw [if_pos rfl, if_pos rfl, if_pos (by simpa using hil), if_pos (by simpa using hil)]
 ·rw [if_neg e, if_neg e, List.getElem?_map, List.getElem?_map]
  cases hj : z[j]? with
  | none => rfl
  | some p =>
   have hne : p.1 ≠ k := fun e2 => by
    have h1 : (z.map (·.1))[i]? = some k := by rw [List.getElem?_map, h]; rfl
    have h2 : (z.map (·.1))[j]? = some k := by rw [List.getElem?_map, hj, ← e2]; rfl
    have hj2 := (List.getElem?_eq_some_iff.1 h2).1
    have hi2 := (List.getElem?_eq_some_iff.1 h1).1
    exact e ((List.getElem?_inj hi2 hn).1 (h1.trans h2.symm))
   simp only [Option.map_some, hf p.1 hne]
theorem famZ_out (f : Int → List Int) {z : List (Int × NHd)} {i : Nat} {k : Int} {d : NHd} (h : z[i]? = some (k, d)) : (famZ f z).Perm (.own 3 0 1 d.A (f k).length d.c (isV (f k)) :: famZ f (z.eraseIdx i)) := (perm_erase' h).map fun p : Int × NHd => SO.own 3 0 1 p.2.A (f p.1).length p.2.c (isV (f p.1))
theorem famZ_in {f f' : Int → List Int} {z : List (Int × NHd)} {i : Nat} {k : Int} {d d' : NHd} (hn : (z.map (·.1)).Nodup) (h : z[i]? = some (k, d)) (hf : ∀ x, x ≠ k → f x = f' x) : (SO.own 3 0 1 d'.A (f' k).length d'.c (isV (f' k)) :: famZ f (z.eraseIdx i)).Perm (famZ f' (z.set i (k, d'))) := by
 rw [famZ_congr (f := f) (f' := f') fun p hp => hf p.1 (erase_ne hn h p hp)]
 exact ((perm_setZ (a := (k, d')) (List.getElem?_eq_some_iff.1 h).1).map fun p : Int × NHd => SO.own 3 0 1 p.2.A (f' p.1).length p.2.c (isV (f' p.1))).symm
def doneB (kb : List (Int × Nat)) (seen : Array Nat) (k : Int) : Bool := kb.any fun p => p.1 == k && seen.contains p.2
theorem doneB_nil (kb : List (Int × Nat)) (k : Int) : doneB kb #[] k = false := by
 unfold doneB
 rw [List.any_eq_false]
 intro p _ h
 rw [Bool.and_eq_true] at h
 exact absurd h.2 (by simp)
theorem seenP (seen : Array Nat) (b x : Nat) : (seen.push b).contains x = (seen.contains x || x == b) := by
 rw [Array.contains_push]
theorem doneB_all {kb : List (Int × Nat)} {seen : Array Nat} (h : ∀ p ∈ kb, seen.contains p.2 = true) {k : Int} (hk : k ∈ kb.map (·.1)) : doneB kb seen k = true := by
 obtain ⟨p, hp, rfl⟩ := List.mem_map.1 hk
 unfold doneB
 rw [List.any_eq_true]
 exact ⟨p, hp, by rw [h p hp, beq_self_eq_true]; rfl⟩
theorem kb_key {kb : List (Int × Nat)} (hn : (kb.map (·.1)).Nodup) {p q : Int × Nat} (hp : p ∈ kb) (hq : q ∈ kb) (h : p.1 = q.1) : p = q := by
 induction kb with
 | nil => cases hp
 | cons a l ih =>
  simp only [List.map_cons, List.nodup_cons] at hn
  rcases List.mem_cons.1 hp with rfl | hp'
  ·rcases List.mem_cons.1 hq with rfl | hq'
   ·rfl
   ·exact absurd (List.mem_map.2 ⟨q, hq', h.symm⟩) hn.1
  ·rcases List.mem_cons.1 hq with rfl | hq'
   ·exact absurd (List.mem_map.2 ⟨p, hp', h⟩) hn.1
   ·exact ih hn.2 hp' hq'
theorem doneB_not {kb : List (Int × Nat)} (hn : (kb.map (·.1)).Nodup) {seen : Array Nat} {k : Int} {b : Nat} (hp : (k, b) ∈ kb) (h : seen.contains b = false) : doneB kb seen k = false := by
 unfold doneB
 rw [List.any_eq_false]
 intro p hp' hk
 rw [Bool.and_eq_true, beq_iff_eq] at hk
 have := kb_key hn hp' hp hk.1
 subst this
 rw [h] at hk; exact absurd hk.2 (by decide)
theorem doneB_push_same {kb : List (Int × Nat)} {seen : Array Nat} {k : Int} {b : Nat} (hp : (k, b) ∈ kb) : doneB kb (seen.push b) k = true := by
 unfold doneB
 rw [List.any_eq_true]
 exact ⟨_, hp, by rw [seenP, beq_self_eq_true, beq_self_eq_true, Bool.or_true]; rfl⟩
theorem doneB_push {kb : List (Int × Nat)} (hb : ∀ p ∈ kb, ∀ q ∈ kb, p.2 = q.2 → p = q) {seen : Array Nat} {k : Int} {b : Nat} (hp : (k, b) ∈ kb) {x : Int} (hx : x ≠ k) : doneB kb (seen.push b) x = doneB kb seen x := by
 unfold doneB
 rw [Bool.eq_iff_iff, List.any_eq_true, List.any_eq_true]
 constructor
 ·rintro ⟨p, hp', h⟩
  rw [seenP, Bool.and_eq_true, Bool.or_eq_true, beq_iff_eq, beq_iff_eq] at h
  refine ⟨p, hp', ?_⟩
  obtain ⟨h1, h2 | h2⟩ := h
  ·rw [h1, h2, beq_self_eq_true]; rfl
  ·have := hb p hp' _ hp h2
   subst this
   exact absurd h1.symm hx
 ·rintro ⟨p, hp', h⟩
  rw [Bool.and_eq_true, beq_iff_eq] at h
  exact ⟨p, hp', by rw [seenP, h.1, h.2, beq_self_eq_true]; rfl⟩
def leftB (bs : List Nat) (seen : Array Nat) : Nat := (bs.filter fun b => !seen.contains b).length
theorem leftB_cons (x : Nat) (bs : List Nat) (seen : Array Nat) : leftB (x :: bs) seen = leftB bs seen + bif seen.contains x then 0 else 1 := by
 unfold leftB
 rw [List.filter_cons]
 cases seen.contains x <;> simp
theorem leftB_le (seen : Array Nat) (b : Nat) : ∀ bs, leftB bs (seen.push b) ≤ leftB bs seen
 | [] => by simp [leftB]
 | x :: bs => by
  have ih := leftB_le seen b bs
  rw [leftB_cons, leftB_cons, seenP]
  cases seen.contains x <;> cases x == b <;> simp <;> omega
theorem leftB_lt {seen : Array Nat} {b : Nat} (h : seen.contains b = false) : ∀ {bs : List Nat}, b ∈ bs → leftB bs (seen.push b) < leftB bs seen
 | x :: bs, hm => by
  have hle := leftB_le seen b bs
  rw [leftB_cons, leftB_cons, seenP]
  by_cases e : x = b
  ·subst e
   rw [h, beq_self_eq_true]; simp; omega
  ·have ih := leftB_lt h (bs := bs) (by rcases List.mem_cons.1 hm with r | r; exact absurd r.symm e; exact r)
   cases seen.contains x <;> cases x == b <;> simp <;> omega
def fD (l : List Ed) (kb : List (Int × Nat)) (seen : Array Nat) (k : Int) : List Int := if doneB kb seen k then nxU l k else nxR l k
mutual
theorem scp_grow {m m' : Nat} (h : m ≤ m') : ∀ (s : SV), scp m s = true → scp m' s = true
 | .unk, _ => rfl
 | .val _, _ => rfl
 | .opq _ _, _ => rfl
 | .bt, _ => rfl
 | .bf, _ => rfl
 | .ptr i off, k => by simp only [scp, decide_eq_true_eq] at k ⊢; omega
 | .adr A off, _ => rfl
 | .slc i off n c, k => by simp only [scp, decide_eq_true_eq] at k ⊢; omega
 | .own i ver, k => by simp only [scp, decide_eq_true_eq] at k ⊢; omega
 | .oad i ver off, k => by simp only [scp, decide_eq_true_eq] at k ⊢; omega
 | .mp i, k => by simp only [scp, decide_eq_true_eq] at k ⊢; omega
 | .agg l, k => by simp only [scp] at k ⊢; exact scpL_grow h l k
 | .tup l, k => by simp only [scp] at k ⊢; exact scpL_grow h l k
 | .fn f a b, k => by
  simp only [scp, Bool.and_eq_true] at k ⊢
  exact ⟨scpL_grow h a k.1, scpL_grow h b k.2⟩
theorem scpL_grow {m m' : Nat} (h : m ≤ m') : ∀ (l : List SV), scpL m l = true → scpL m' l = true
 | [], _ => rfl
 | s :: l, k => by
  simp only [scpL, Bool.and_eq_true] at k ⊢
  exact ⟨scp_grow h s k.1, scpL_grow h l k.2⟩
end
theorem scpO_grow {m m' : Nat} (h : m ≤ m') {e : SO} (he : scpO m e = true) : scpO m' e = true := by
 cases e with
 | cells g t l => exact scpL_grow h l he
 | _ => exact he
theorem rep_lose {E : Env} {F : List (Nat × SV)} {b r : List SO} {x : SO} {a : Act} {W : World} (rep : Rep E { F := F, H := b ++ x :: r } a W) (hF : leF b.length F F) (hb : b.all (scpO b.length) = true) (hx : scpO 0 x = true) (hr : ∀ e ∈ r, scpO 0 e = true) : Rep E { F := F, H := b ++ r } a W := by
 have r1 := Rep.fam' (r' := r ++ [x]) rep hF hb (fun e he => by
  rcases List.mem_cons.1 he with rfl | h
  ·exact hx
  ·exact hr e h) (by have := List.perm_append_comm (l₁ := [x]) (l₂ := r); exact this)
 refine ⟨r1.size, fun d => ?_, r1.defers, ?_⟩
 ·have h1 : Is (b ++ (r ++ [x])) (lk F d) (a.eval (.tmp d)) := r1.frame d
  have h2 : scp b.length (lk F d) = true := by
   rcases leF_spec hF d with h | ⟨_, h⟩
   ·rw [h]; rfl
   ·exact h
  exact (h1.pre _ h2).app
 ·have h1 : HeapOk E ((b ++ r) ++ [x]) W := by rw [List.append_assoc]; exact r1.heap
  refine h1.pre fun e he => ?_
  rcases List.mem_append.1 he with h | h
  ·have := List.all_eq_true.1 hb e h
   exact scpO_grow (by rw [List.length_append]; omega) this
  ·exact scpO_mono (hr e h)
theorem made24t {R : Value → World → Prop} (w : World) (n : Int) (l : List Ed) (gm gg : Nat) (z : List (Int × NHd)) (hz : z.map (·.1) = keysR l []) (hl : l.length ≤ 20000)
  (hR : ∀ W, HeapOk ⟨w, w.heap.size, [], 90, []⟩ ([.map gm (kvZ (nxU l) z), .cells gg 67 [.val (.int .i64 n), .mp 0]] ++ famZ (nxU l) z) W → R (.tuple #[.pointer (some ⟨gg, 0, none⟩), .int .i64 0]) W) :
  G (cxOf Try.prog Try.f24 K24 T24 R) ⟨w, w.heap.size, [], 90, []⟩ [.code (.ref 13)] { F := [(0, .val (.int .i64 n)), (6, .ptr 1 0)], H := [.map gm (kvZ (nxR l) z), .cells gg 67 [.val (.int .i64 n), .mp 0]] ++ famZ (nxR l) z } := by
 have hnd : (z.map (·.1)).Nodup := by rw [hz]; exact keysR_nodup _ _ (by simp)
 refine G.cut rfl (by (simp only [setn, List.nil_append, List.cons_append, leF, leH_nil, leH_cons, leF_nil, lk, scp, scpL, scpO, resF, resH, resO, resV, resVL, nth, Nat.reduceBEq, Nat.reduceLT, decide_true, decide_false, List.length, List.length_cons, List.length_nil, Nat.reduceAdd, Bool.and_self, Bool.and_true, and_true, true_and, numF] <;> try simp)) fun W0 hW0 hov => ?_
 refine G.openM 0 rfl fun es0 ck hkv0 ok0 => ?_
 generalize hbs : es0.toList.map (·.born) = bs at *
 have hkb : es0.toList.length = z.length := by
  have := congrArg List.length hkv0
  unfold kvE kvZ at this
  simpa using this
 have hbl : bs.length = z.length := by rw [← hbs, List.length_map]; exact hkb
 have hndb : bs.Nodup := by rw [← hbs]; exact ok0.nd
 have hok : ∀ es : Array MapEntry, es.toList.map (·.born) = bs → EsOk es ck := fun es he => by
  refine ⟨by rw [he]; exact hndb, fun e hm => ?_⟩
  have h1 : e.born ∈ es0.toList.map (·.born) := by rw [hbs, ← he]; exact List.mem_map.2 ⟨e, hm, rfl⟩
  obtain ⟨e', h2, h3⟩ := List.mem_map.1 h1
  rw [← h3]; exact ok0.lt e' h2
 (refine Y_go 8 ?_; dsimp only [setn, zq9y, t24n13, T24n13, zq9r, zq9q, Y_k, zq4u, zq8o, zq6n, Nat.reduceBEq, zq6l, zq6k, YK, zq8t, zq5i, zq29, zq5a, zq14, Nat.reduceAdd, zq5c, zq1o, nth, zq1k, List.length_cons, List.length_nil, dropL, takeL, zq19, zq18, Y_0])
 refine rngM_rule (i := 0) rfl rfl fun r => ?_
 dsimp only [List.length_cons, List.length_nil, Nat.reduceAdd, zq8t, List.cons_append, List.nil_append]
 (refine Y_go 600 ?_; dsimp only [zq9i, normF, zq6n, Nat.reduceBEq, zq6l, zq6k, zq6m, zq86, zq8c, zq87, zq9t, zq9v])
 refine loop_go (α := Array MapEntry × Array Nat) (fun q => q.1.toList.map (·.born) = bs ∧ kvE q.1 = kvZ (fD l ((z.map (·.1)).zip bs) q.2) z) (fun _ => ⟨w, w.heap.size, [], 90, []⟩)
  (fun q => { F := [(0, .val (.int .i64 n)), (6, .ptr 1 0), (74, .ptr 2 0)], H := [.obj gm (.map q.1 ck), .cells gg 67 [.val (.int .i64 n), .mp 0], .obj r (.mapIter (some gm) ck q.2 ck)] ++ famZ (fD l ((z.map (·.1)).zip bs) q.2) z }) (fun q => leftB bs q.2) (fun _ => rfl) ?start ?round
 case start =>
  intro a W rep
  refine ⟨(es0, #[]), ⟨hbs, ?_⟩, ?_⟩
  ·rw [hkv0]
   exact kvZ_congr fun p hp => by unfold fD; rw [doneB_nil]; rfl
  ·have e1 : famZ (fD l ((z.map (·.1)).zip bs) #[]) z = famZ (nxR l) z := famZ_congr fun p hp => by unfold fD; rw [doneB_nil]; rfl
   simp only [e1]
   have r1 : Rep ⟨W0, W0.heap.size, fps [.map gm (kvZ (nxR l) z), .cells gg 67 [.val (.int .i64 n), .mp 0]], 90, []⟩ { F := [(0, .val (.int .i64 n)), (6, .ptr 1 0), (74, .ptr 2 0)], H := [.obj gm (.map es0 ck), .cells gg 67 [.val (.int .i64 n), .mp 0], .obj r (.mapIter (some gm) ck #[] ck)] } a W := rep.le (by (simp only [setn, List.nil_append, List.cons_append, leF, leH_nil, leH_cons, leF_nil, lk, scp, scpL, scpO, resF, resH, resO, resV, resVL, nth, Nat.reduceBEq, Nat.reduceLT, decide_true, decide_false, List.length, List.length_cons, List.length_nil, Nat.reduceAdd, Bool.and_self, Bool.and_true, and_true, true_and, numF] <;> try simp)) (by (simp only [setn, List.nil_append, List.cons_append, leF, leH_nil, leH_cons, leF_nil, lk, scp, scpL, scpO, resF, resH, resO, resV, resVL, nth, Nat.reduceBEq, Nat.reduceLT, decide_true, decide_false, List.length, List.length_cons, List.length_nil, Nat.reduceAdd, Bool.and_self, Bool.and_true, and_true, true_and, numF] <;> try simp))
   exact Rep.back hW0 (famZ_shut _ _) r1 (Over.refl _) rfl rfl
 case round =>
  rintro ⟨es, seen⟩ ⟨hb, hkv⟩ I again
  simp only at hb hkv ⊢
  (refine Y_go 3 ?_; dsimp only [List.cons_append, List.nil_append, zq9y, t24n11, T24n11, zq9r, zq9q, Y_0])
  have okE := hok es hb
  refine nxtM_rule (i := 0) (j := 2) rfl rfl rfl okE.lt (Nat.le_refl _) (fun hall => ?_) fun e he hse _ => ?_
  ·dsimp only [zq8t]
   (refine Y_go 600 ?_; dsimp only [Y_k, zq5j, zq8o, zq6n, Nat.reduceBEq, zq6k, zq2f, nth, zq2e, YK, zq8t, zq9i, normF, zq6l, zq6m, zq8a, zq8c, zq86, zq87, zq9y, t24n10, T24n10, zq9r, zq9s, zq6g, YC, zq9u, popTo, zq6i, YP, t24n12, T24n12, zq9q, zq4u, zq8p, zq6q, zq9x])
   have hdn : ∀ p ∈ z, fD l ((z.map (·.1)).zip bs) seen p.1 = nxU l p.1 := fun p hp => by
    unfold fD
    have h1 : ∀ q ∈ (z.map (·.1)).zip bs, seen.contains q.2 = true := fun q hq => by
     have := (List.of_mem_zip hq).2
     rw [← hb] at this
     obtain ⟨e, he, heq⟩ := List.mem_map.1 this
     rw [← heq]; exact hall e he
    rw [doneB_all h1 (by
     rw [List.map_fst_zip (by rw [List.length_map]; omega)]
     exact List.mem_map.2 ⟨p, hp, rfl⟩)]
    rfl
   have main : RetG (cxOf Try.prog Try.f24 K24 T24 R) ⟨w, w.heap.size, [], 90, []⟩ { F := [(4, .ptr 1 0), (5, .val (.int .i64 0))], H := [.map gm (kvZ (nxU l) z), .cells gg 67 [.val (.int .i64 n), .mp 0]] ++ famZ (nxU l) z } := ret_rule (vs := [.pointer (some ⟨gg, 0, none⟩), .int .i64 0]) r24 rfl rfl hR
   intro a W rep
   have r1 := rep.shutM 0 rfl okE
   rw [hkv, kvZ_congr hdn, famZ_congr hdn] at r1
   have r2 : Rep ⟨w, w.heap.size, [], 90, []⟩ { F := [(4, .ptr 1 0), (5, .val (.int .i64 0))], H := [.map gm (kvZ (nxU l) z), .cells gg 67 [.val (.int .i64 n), .mp 0]] ++ .obj r (.mapIter (some gm) ck seen ck) :: famZ (nxU l) z } a W := Rep.few r1 2 (by (simp only [setn, List.nil_append, List.cons_append, leF, leH_nil, leH_cons, leF_nil, lk, scp, scpL, scpO, resF, resH, resO, resV, resVL, nth, Nat.reduceBEq, Nat.reduceLT, decide_true, decide_false, List.length, List.length_cons, List.length_nil, Nat.reduceAdd, Bool.and_self, Bool.and_true, and_true, true_and, numF] <;> try simp))
   exact main a W (rep_lose r2 (by (simp only [setn, List.nil_append, List.cons_append, leF, leH_nil, leH_cons, leF_nil, lk, scp, scpL, scpO, resF, resH, resO, resV, resVL, nth, Nat.reduceBEq, Nat.reduceLT, decide_true, decide_false, List.length, List.length_cons, List.length_nil, Nat.reduceAdd, Bool.and_self, Bool.and_true, and_true, true_and, numF] <;> try simp)) rfl rfl (famZ_shut _ _))
  ·have hkl : (kvE es)[0]? = (kvE es)[0]? := rfl
   obtain ⟨j, hj⟩ := List.getElem?_of_mem he
   have hjk : (kvE es)[j]? = some (e.key, e.val) := by unfold kvE; rw [List.getElem?_map, hj]; rfl
   have hjb : bs[j]? = some e.born := by rw [← hb, List.getElem?_map, hj]; rfl
   obtain ⟨k, d, hjz, hek, hev⟩ : ∃ k d, z[j]? = some (k, d) ∧ e.key = .int .i64 k ∧ e.val = .slice d.A (fD l ((z.map (·.1)).zip bs) seen k).length d.c := by
    rw [hkv] at hjk
    unfold kvZ at hjk
    rw [List.getElem?_map] at hjk
    cases hq : z[j]? with
    | none => rw [hq] at hjk; cases hjk
    | some p => rw [hq] at hjk; simp only [Option.map_some, Option.some.injEq, Prod.mk.injEq] at hjk; exact ⟨p.1, p.2, rfl, hjk.1.symm, hjk.2.symm⟩
   have hkz : (k, e.born) ∈ (z.map (·.1)).zip bs := by
    refine List.mem_of_getElem? (i := j) ?_
    rw [List.getElem?_zip_eq_some]
    exact ⟨by rw [List.getElem?_map, hjz]; rfl, hjb⟩
   have hfk : fD l ((z.map (·.1)).zip bs) seen k = nxR l k := by
    unfold fD
    rw [doneB_not (by rw [List.map_fst_zip (by rw [List.length_map]; omega)]; exact hnd) hkz hse]; rfl
   rw [hfk] at hev
   have hpb : ∀ p ∈ (z.map (·.1)).zip bs, ∀ q ∈ (z.map (·.1)).zip bs, p.2 = q.2 → p = q := by
    intro p hp q hq e
    obtain ⟨a, ha⟩ := List.getElem?_of_mem hp
    obtain ⟨b, hb'⟩ := List.getElem?_of_mem hq
    obtain ⟨p1, p2⟩ := p
    obtain ⟨q1, q2⟩ := q
    rw [List.getElem?_zip_eq_some] at ha hb'
    simp only at e ha hb'
    have hab : a = b := (List.getElem?_inj (List.getElem?_eq_some_iff.1 ha.2).1 hndb).1 (by rw [ha.2, hb'.2, e])
    subst hab
    have := ha.1.symm.trans hb'.1
    simp only [Option.some.injEq] at this
    rw [this, e]
   have hfo : ∀ x, x ≠ k → fD l ((z.map (·.1)).zip bs) seen x = fD l ((z.map (·.1)).zip bs) (seen.push e.born) x := fun x hx => by
    unfold fD
    rw [doneB_push hpb hkz hx]
   dsimp only [zq8t, setn]
   (refine Y_go 10 ?_; dsimp only [Y_k, zq5j, zq8o, zq6n, Nat.reduceBEq, zq6k, zq2f, nth, zq2e, YK, zq8t, zq9i, normF, zq6l, zq6m, zq89, zq8c, zq86, zq87, zq9y, t24n10, T24n10, zq9r, zq9s, zq6f, YC, zq9p, t24n9, T24n9, zq9t, zq9q, Y_0])
   refine entM_rule (e := e) (i := 0) (j := 2) rfl rfl rfl he okE.nd ?_
   rw [hek, hev]
   dsimp only [zq8t]
   (refine Y_go 600 ?_; dsimp only [Y_k, zq5j, zq8o, zq6n, Nat.reduceBEq, zq6k, zq2f, nth, zq2e, YK, zq8t, zq6l, zq4u, zq9i, normF, zq6m, zq89, zq8c, zq86, zq87, zq9y, t24n8, T24n8, zq9r, zq9q, zq9j])
   refine G.le (E' := ⟨w, w.heap.size, [], 90, []⟩) rfl (s' := { F := [(80, .val (.slice d.A (nxR l k).length d.c)), (0, .val (.int .i64 n)), (6, .ptr 1 0), (9, .val (.int .i64 k)), (10, .val (.slice d.A (nxR l k).length d.c)), (74, .ptr 2 0)], H := [.obj gm (.map es ck), .cells gg 67 [.val (.int .i64 n), .mp 0], .obj r (.mapIter (some gm) ck (seen.push e.born) ck), .own 3 0 1 d.A (nxR l k).length d.c (isV (nxR l k))] ++ famZ (fD l ((z.map (·.1)).zip bs) seen) (z.eraseIdx j) }) (fun a W rep => Rep.fam' (b := [.obj gm (.map es ck), .cells gg 67 [.val (.int .i64 n), .mp 0], .obj r (.mapIter (some gm) ck (seen.push e.born) ck)]) (Rep.few rep 3 (by (simp only [setn, List.nil_append, List.cons_append, leF, leH_nil, leH_cons, leF_nil, lk, scp, scpL, scpO, resF, resH, resO, resV, resVL, nth, Nat.reduceBEq, Nat.reduceLT, decide_true, decide_false, List.length, List.length_cons, List.length_nil, Nat.reduceAdd, Bool.and_self, Bool.and_true, and_true, true_and, numF] <;> try simp))) (by (simp only [setn, List.nil_append, List.cons_append, leF, leH_nil, leH_cons, leF_nil, lk, scp, scpL, scpO, resF, resH, resO, resV, resVL, nth, Nat.reduceBEq, Nat.reduceLT, decide_true, decide_false, List.length, List.length_cons, List.length_nil, Nat.reduceAdd, Bool.and_self, Bool.and_true, and_true, true_and, numF] <;> try simp)) rfl (famZ_shut _ _) (by have := famZ_out (fD l ((z.map (·.1)).zip bs) seen) hjz; rw [hfk] at this; exact this)) ?_
   have hfl : (nxR l k).length ≤ 20000 := Nat.le_trans (nxR_len l k) hl
   have hL := srtI_len (nxR l k)
   refine call_rule (vs := [.slice d.A (nxR l k).length d.c]) rfl (R := fun W v W' => v = .tuple #[] ∧ HeapOk ⟨w, w.heap.size, [], 90, []⟩ ([.obj gm (.map es ck), .cells gg 67 [.val (.int .i64 n), .mp 0], .obj r (.mapIter (some gm) ck (seen.push e.born) ck), .own 3 0 1 d.A (nxR l k).length d.c (isV (srtI (nxR l k)))] ++ famZ (fD l ((z.map (·.1)).zip bs) seen) (z.eraseIdx j)) W') (fun W hW => sort44 hW (i := 3) rfl (by omega)) fun W v W' hW ⟨hv, hW'⟩ => ⟨.tup [], _, by rw [hv]; simp [Is, IsL], HExt.setOwn (i := 3) rfl (Nat.le_refl _) fun _ => ⟨rfl, rfl, rfl⟩, hW', ?_⟩
   dsimp only [List.cons_append, List.nil_append, zq8t, setn]
   (refine Y_go 600 ?_; dsimp only [zq9i, normF, zq6n, Nat.reduceBEq, zq6l, zq6k, zq6m, zq86, zq8c, zq87, zq9y, t24n7, T24n7, zq9q, Y_k, zq4u, zq8o, YK, zq8t, zq5i, zq29, zq5a, zq14, Nat.reduceAdd, zq5c, zq1o, nth, zq1k, List.length_cons, List.length_nil, dropL, takeL, zq19, zq18, zq9j])
   refine call_rule (vs := [.slice d.A (nxR l k).length d.c]) rfl (R := fun W v W' => v = .slice d.A (nxU l k).length d.c ∧ HeapOk ⟨w, w.heap.size, [], 90, []⟩ ([.obj gm (.map es ck), .cells gg 67 [.val (.int .i64 n), .mp 0], .obj r (.mapIter (some gm) ck (seen.push e.born) ck), .own 3 1 1 d.A (nxU l k).length d.c (isV (nxU l k))] ++ famZ (fD l ((z.map (·.1)).zip bs) seen) (z.eraseIdx j)) W') (fun W hW => ?_) fun W v W' hW ⟨hv, hW'⟩ => ⟨.val (.slice d.A (nxU l k).length d.c), _, by rw [hv]; rfl, HExt.setOwn (i := 3) rfl (Nat.le_succ _) fun h => absurd h (by decide), hW', ?_⟩
   ·have := compact45 (fs := srtI (nxR l k)) (A := d.A) (c := d.c) (i := 3) (ver := 0) hW (by rw [hL]; rfl) (by omega)
    rw [hL] at this
    exact this.mono fun v W' ⟨h1, _, h2⟩ => ⟨h1, h2⟩
   dsimp only [zq8t, setn]
   (refine still_y (by dsimp only [zq6n, Nat.reduceBEq, zq6l, zq6k, zq5c, zq8o, zq1o, nth, zq1k, List.length_cons, List.length_nil, Nat.reduceAdd, dropL, takeL, zq19, zq18]; exact ⟨rfl, det_of_den rfl⟩) ?_)
   refine mupdO_rule (i := 0) (w := .int .i64 k) (u := .slice d.A (nxU l k).length d.c) rfl rfl rfl rfl rfl ?_ ?_ fun es' hb' hkv' => ?_
   ·intro e he
    have h1 : (e.key, e.val) ∈ kvE es := List.mem_map.2 ⟨e, he, rfl⟩
    rw [hkv] at h1
    exact kvZ_keys _ _ _ h1
   ·rw [hkv, mget_some _ hnd hjz]; rfl
   dsimp only [zq8s, setn]
   (refine Y_go 600 ?_; dsimp only [zq9i, normF, zq6n, Nat.reduceBEq, zq6l, zq6k, zq6m, zq86, zq8c, zq87, zqa1, zqa2])
   refine lend_rule fun a W rep => again (es', seen.push e.born) ⟨by rw [← hb]; exact hb', ?_⟩ (leftB_lt hse (by rw [← hb]; exact List.mem_map.2 ⟨e, he, rfl⟩)) a W ?_
   ·have hf1 : fD l ((z.map (·.1)).zip bs) (seen.push e.born) k = nxU l k := by unfold fD; rw [doneB_push_same hkz]; rfl
    have hset : z.set j (k, d) = z := by
     apply List.ext_getElem?
     intro m
     rw [List.getElem?_set]
     split
     ·rename_i q; subst q
      rw [hjz, if_pos (List.getElem?_eq_some_iff.1 hjz).1]
     ·rfl
    rw [hkv', hkv, mput_set _ _ hnd hjz, ← hf1]
    have := kvZ_set (d' := d) hnd hjz hfo
    rw [hset] at this
    exact this
   ·simp only
    have r1 := rep.res
    have hf1 : fD l ((z.map (·.1)).zip bs) (seen.push e.born) k = nxU l k := by unfold fD; rw [doneB_push_same hkz]; rfl
    have hset : z.set j (k, d) = z := by
     apply List.ext_getElem?
     intro m
     rw [List.getElem?_set]
     split
     ·rename_i q; subst q
      rw [hjz, if_pos (List.getElem?_eq_some_iff.1 hjz).1]
     ·rfl
    simp only [resH, resO, resVL, resV, famZ_res, resF] at r1
    have r2 : Rep ⟨w, w.heap.size, [], 90, []⟩ { F := [(0, .val (.int .i64 n)), (6, .ptr 1 0), (74, .ptr 2 0)], H := [.obj gm (.map es' ck), .cells gg 67 [.val (.int .i64 n), .mp 0], .obj r (.mapIter (some gm) ck (seen.push e.born) ck)] ++ .own 3 0 1 d.A (nxU l k).length d.c (isV (nxU l k)) :: famZ (fD l ((z.map (·.1)).zip bs) seen) (z.eraseIdx j) } a W := Rep.few r1 3 (by (simp only [setn, List.nil_append, List.cons_append, leF, leH_nil, leH_cons, leF_nil, lk, scp, scpL, scpO, resF, resH, resO, resV, resVL, nth, Nat.reduceBEq, Nat.reduceLT, decide_true, decide_false, List.length, List.length_cons, List.length_nil, Nat.reduceAdd, Bool.and_self, Bool.and_true, and_true, true_and, numF] <;> try simp))
    refine Rep.fam' r2 (by (simp only [setn, List.nil_append, List.cons_append, leF, leH_nil, leH_cons, leF_nil, lk, scp, scpL, scpO, resF, resH, resO, resV, resVL, nth, Nat.reduceBEq, Nat.reduceLT, decide_true, decide_false, List.length, List.length_cons, List.length_nil, Nat.reduceAdd, Bool.and_self, Bool.and_true, and_true, true_and, numF] <;> try simp)) rfl (fun e he => ?_) ?_
    ·rcases List.mem_cons.1 he with rfl | h
     ·rfl
     ·exact famZ_shut _ _ e h
    ·have := famZ_in (d' := d) hnd hjz hfo
     rw [hset, hf1] at this
     exact this
end Go.Proofs.Ytbkpiljencaoeaa
