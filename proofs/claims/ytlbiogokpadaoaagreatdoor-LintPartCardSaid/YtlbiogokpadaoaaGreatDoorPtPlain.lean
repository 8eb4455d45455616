/- What is put behind a program whose ways never go out of it makes no difference: the plain law. -/
import Derived.Test.YtlbiogokpadaoaaGreatDoorLpLook
set_option linter.unusedSimpArgs false
set_option linter.unusedVariables false
set_option linter.unnecessarySimpa false
namespace Go.Proofs.YtlbiogokpadaoaaGreatDoor
open Go Go.Sx Go.Isa Go.Lint
set_option maxRecDepth 100000
theorem lt2_uniq : ∀ (fs gs : List (Int × Int)), fs.Pairwise lt2 → gs.Pairwise lt2 → (∀ x, x ∈ fs ↔ x ∈ gs) → fs = gs := by
 intro fs
 induction fs with
 | nil =>
  intro gs _ _ h
  cases gs with
  | nil => rfl
  | cons y r => have := (h y).2 (by simp); simp at this
 | cons x r ih =>
  intro gs h1 h2 h
  cases gs with
  | nil => have := (h x).1 (by simp); simp at this
  | cons y t =>
   have a1 := List.pairwise_cons.1 h1
   have a2 := List.pairwise_cons.1 h2
   have hxy : x = y := by
    rcases List.mem_cons.1 ((h x).1 (by simp)) with e | e
    ·exact e
    ·rcases List.mem_cons.1 ((h y).2 (by simp)) with e' | e'
     ·exact e'.symm
     ·have q1 := a2.1 x e
      have q2 := a1.1 y e'
      unfold lt2 at q1 q2; omega
   subst hxy
   rw [ih t a1.2 a2.2 fun z => ?_]
   have hz := h z
   rw [List.mem_cons, List.mem_cons] at hz
   constructor
   ·intro hzr
    rcases hz.1 (.inr hzr) with e | e
    ·subst e; have := a1.1 _ hzr; unfold lt2 at this; omega
    ·exact e
   ·intro hzt
    rcases hz.2 (.inr hzt) with e | e
    ·subst e; have := a2.1 _ hzt; unfold lt2 at this; omega
    ·exact e
structure Shut (l : List In) : Prop where
 far : ∀ x ∈ l, legalB x = true → ¬ (13 ≤ x.op ∧ x.op ≤ 16 ∧ (l.length : Int) ≤ x.imm ∧ x.imm ≤ 1024)
 ne : 0 < l.length
 last : ∀ x, l[l.length - 1]? = some x → x.op = 1 ∨ x.op = 13
theorem nxt_in {l : List In} (hs : Shut l) {s n : Spot} {x : In} (h0 : 0 ≤ s.1) (hx : l[s.1.toNat]? = some x) (hlg : legalB x = true) (hn : n ∈ nxt x s) : 0 ≤ n.1 ∧ n.1 < l.length := by
 have hlt := some_lt hx
 have step : x.op ≠ 1 → x.op ≠ 13 → s.1 + 1 < l.length := fun h1 h2 => by
  rcases Nat.lt_or_ge (s.1.toNat + 1) l.length with h | h
  ·omega
  ·have e : s.1.toNat = l.length - 1 := by omega
   have := hs.last x (by rw [← e]; exact hx)
   omega
 unfold nxt at hn
 split at hn
 ·simp at hn
 split at hn
 ·simp at hn
 split at hn
 ·simp at hn
 split at hn
 ·rw [List.mem_singleton] at hn
  subst hn
  exact ⟨by show 0 ≤ s.1 + 1; omega, step (by assumption) (by omega)⟩
 split at hn
 ·rename_i hbr
  rcases List.mem_append.1 hn with hn | hn
  ·split at hn
   ·simp at hn
   ·rename_i him
    rw [List.mem_singleton] at hn
    subst hn
    have := hs.far x (List.mem_of_getElem? hx) hlg
    exact ⟨by show 0 ≤ x.imm; omega, by show x.imm < _; omega⟩
  ·split at hn
   ·simp at hn
   ·rw [List.mem_singleton] at hn
    subst hn
    exact ⟨by show 0 ≤ s.1 + 1; omega, step (by assumption) (by assumption)⟩
 ·rw [List.mem_singleton] at hn
  subst hn
  exact ⟨by show 0 ≤ s.1 + 1; omega, step (by assumption) (by omega)⟩
theorem shut_reach {l : List In} (hs : Shut l) {s : Spot} (h : Go.Lint.Reach l s) : 0 ≤ s.1 ∧ s.1 < l.length := by
 induction h with
 | start => exact ⟨Int.le_refl _, by have := hs.ne; show (0 : Int) < l.length; omega⟩
 | step s n x _ hx hlg hn ih => exact nxt_in hs ih.1 hx hlg hn
theorem app_get {l m : List In} {i : Nat} (h : i < l.length) : (l ++ m)[i]? = l[i]? := List.getElem?_append_left h
theorem reach_app {l m : List In} (hs : Shut l) {s : Spot} : Go.Lint.Reach (l ++ m) s ↔ Go.Lint.Reach l s := by
 constructor
 ·intro h
  induction h with
  | start => exact .start
  | step s n x _ hx hlg hn ih =>
   have := shut_reach hs ih
   rw [app_get (by omega)] at hx
   exact .step s n x ih hx hlg hn
 ·intro h
  induction h with
  | start => exact .start
  | step s n x h hx hlg hn ih =>
   have := shut_reach hs h
   exact .step s n x ih (by rw [app_get (by omega)]; exact hx) hlg hn
theorem unset_app {l m : List In} (hs : Shut l) {r : Nat} {s : Spot} : Unset (l ++ m) r s ↔ Unset l r s := by
 constructor
 ·intro h
  induction h with
  | start => exact .start
  | step s n x h hx hlg hb hn ih =>
   have := shut_reach hs ih.reach
   rw [app_get (by omega)] at hx
   exact .step s n x ih hx hlg hb hn
 ·intro h
  induction h with
  | start => exact .start
  | step s n x h hx hlg hb hn ih =>
   have := shut_reach hs h.reach
   exact .step s n x ih (by rw [app_get (by omega)]; exact hx) hlg hb hn
theorem bad_app {l m : List In} (hs : Shut l) {c p : Int} : BadP (l ++ m) c p ↔ BadP l c p ∨ (c = 8 ∧ (l.length : Int) ≤ p ∧ p < l.length + m.length) := by
 have hlen : (l ++ m).length = l.length + m.length := List.length_append
 have wb : WalkBad (l ++ m) c p ↔ WalkBad l c p := by
  constructor
  ·rintro ⟨s, x, hr, hp, hx, h⟩
   have hr := (reach_app hs).1 hr
   have hb := shut_reach hs hr
   rw [app_get (by omega)] at hx
   refine ⟨s, x, hr, hp, hx, ?_⟩
   rcases h with h | ⟨h1, h | ⟨_, n, hn, _, h⟩⟩
   ·exact .inl h
   ·exact .inr ⟨h1, .inl h⟩
   ·have := nxt_in hs hb.1 hx h1 hn
    rw [hlen] at h; omega
  ·rintro ⟨s, x, hr, hp, hx, h⟩
   have hb := shut_reach hs hr
   refine ⟨s, x, (reach_app hs).2 hr, hp, by rw [app_get (by omega)]; exact hx, ?_⟩
   rcases h with h | ⟨h1, h | ⟨_, n, hn, _, h⟩⟩
   ·exact .inl h
   ·exact .inr ⟨h1, .inl h⟩
   ·have := nxt_in hs hb.1 hx h1 hn
    omega
 unfold BadP
 rw [wb]
 constructor
 ·rintro (h | ⟨h7, x, h0, hx, hlg, r, b, hr, hrd, hu⟩ | ⟨h8, h0, hlt, n1, n2⟩)
  ·exact .inl (.inl h)
  ·have hu := (unset_app hs).1 hu
   have hb := shut_reach hs hu.reach
   rw [app_get (by have : p < l.length := hb.2
                   omega)] at hx
   exact .inl (.inr (.inl ⟨h7, x, h0, hx, hlg, r, b, hr, hrd, hu⟩))
  ·rw [hlen] at hlt
   by_cases hp : p < l.length
   ·exact .inl (.inr (.inr ⟨h8, h0, hp, fun h => n1 ((reach_app hs).2 h), fun h => n2 ((reach_app hs).2 h)⟩))
   ·exact .inr ⟨h8, by omega, by omega⟩
 ·rintro ((h | ⟨h7, x, h0, hx, hlg, r, b, hr, hrd, hu⟩ | ⟨h8, h0, hlt, n1, n2⟩) | ⟨h8, h1, h2⟩)
  ·exact .inl h
  ·have := some_lt hx
   exact .inr (.inl ⟨h7, x, h0, by rw [app_get (by omega)]; exact hx, hlg, r, b, hr, hrd, (unset_app hs).2 hu⟩)
  ·exact .inr (.inr ⟨h8, h0, by rw [hlen]; omega, fun h => n1 ((reach_app hs).1 h), fun h => n2 ((reach_app hs).1 h)⟩)
  ·refine .inr (.inr ⟨h8, by omega, by rw [hlen]; omega, fun h => ?_, fun h => ?_⟩)
   ·have hb := shut_reach hs ((reach_app hs).1 h)
    have : p < l.length := hb.2
    omega
   ·have hb := shut_reach hs ((reach_app hs).1 h)
    have : p < l.length := hb.2
    omega
def newP (n m : Nat) : List (Int × Int) := (List.range m).map fun k : Nat => (8, ((n + k : Nat) : Int))
def inP (n : Nat) (x : Int × Int) : Bool := decide (x.2 < n)
theorem found_app {l m : List In} (hl : l.length ≤ 1024) (hs : Shut l) {fs gs : List (Int × Int)} (hf : FoundOk l fs) (hg : FoundOk (l ++ m) gs) : gs.filter (inP l.length) = fs ∧ (gs.filter fun x => !inP l.length x) = newP l.length m.length := by
 have hin : ∀ c p, BadP l c p → p < l.length := fun c p h => (bad_fits hl h).2.1
 constructor
 ·refine lt2_uniq _ _ (hg.up.filter _) hf.up fun ⟨c, p⟩ => ?_
  rw [List.mem_filter, hg.mem, hf.mem, bad_app hs]
  unfold inP
  simp only [decide_eq_true_eq]
  constructor
  ·rintro ⟨h | ⟨_, h, _⟩, h2⟩
   ·exact h
   ·omega
  ·exact fun h => ⟨.inl h, hin c p h⟩
 ·refine lt2_uniq _ _ (hg.up.filter _) ?_ fun ⟨c, p⟩ => ?_
  ·unfold newP
   rw [List.pairwise_map]
   refine List.pairwise_lt_range.imp fun h => ?_
   unfold lt2; simp; omega
  ·rw [List.mem_filter, hg.mem, bad_app hs]
   unfold inP newP
   simp only [Bool.not_eq_true', decide_eq_false_iff_not, List.mem_map, List.mem_range, Prod.mk.injEq]
   constructor
   ·rintro ⟨h | ⟨h8, h1, h2⟩, h3⟩
    ·exact absurd (hin c p h) h3
    ·exact ⟨(p - l.length).toNat, by omega, h8.symm, by omega⟩
   ·rintro ⟨k, h1, h2, h3⟩
    exact ⟨.inr ⟨h2.symm, by omega, by omega⟩, by omega⟩
end Go.Proofs.YtlbiogokpadaoaaGreatDoor
