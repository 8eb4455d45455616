/- opt's drop in plain words: what is left, and where its ways go. -/
import Derived.Test.YtlbiogokpadaoaaGreatDoorIsaSpec
import Derived.Test.YtlbiogokpadaoaaGreatDoorLpPlain
set_option linter.unusedSimpArgs false
set_option linter.unusedVariables false
set_option linter.unnecessarySimpa false
namespace Go.Proofs.YtlbiogokpadaoaaGreatDoor
open Go Go.Sx Go.Isa
def leftN (gone : Nat → Bool) : Nat → Nat
 | 0 => 0
 | n + 1 => leftN gone n + (if gone n = true then 0 else 1)
def adjI (gone : Nat → Bool) (len : Nat) (x : In) : In := if goK x ≠ 0 ∧ x.imm < len then { x with imm := leftN gone x.imm.toNat } else x
def dropTo (gone : Nat → Bool) (l : List In) : Nat → List In
 | 0 => []
 | i + 1 => dropTo gone l i ++ (match l[i]? with | some x => (if gone i = true then [] else [adjI gone l.length x]) | none => [])
def dropP (gone : Nat → Bool) (l : List In) : List In := dropTo gone l l.length
theorem leftN_le (gone : Nat → Bool) : ∀ n, leftN gone n ≤ n
 | 0 => Nat.le_refl _
 | n + 1 => by have := leftN_le gone n; simp only [leftN]; split <;> omega
theorem dropTo_len (gone : Nat → Bool) (l : List In) : ∀ i, i ≤ l.length → (dropTo gone l i).length = leftN gone i
 | 0, _ => rfl
 | i + 1, h => by
  have := dropTo_len gone l i (by omega)
  have hx : l[i]? = some (l[i]'(by omega)) := List.getElem?_eq_getElem (by omega)
  simp only [dropTo, leftN, hx, List.length_append, this]
  split <;> simp
end Go.Proofs.YtlbiogokpadaoaaGreatDoor
namespace Go.Proofs.YtlbiogokpadaoaaGreatDoor
open Go Go.Sx Go.Isa
theorem leftN_all {gone : Nat → Bool} : ∀ n, leftN gone n = n → ∀ k, k < n → gone k = false
 | 0, _, k, hk => absurd hk (by omega)
 | n + 1, h, k, hk => by
  have h1 := leftN_le gone n
  simp only [leftN] at h
  split at h
  ·omega
  ·rename_i hn
   by_cases e : k = n
   ·subst e; simpa using hn
   ·exact leftN_all n (by omega) k (by omega)
theorem leftN_none {gone : Nat → Bool} : ∀ n, (∀ k, k < n → gone k = false) → leftN gone n = n
 | 0, _ => rfl
 | n + 1, h => by
  simp only [leftN, leftN_none n (fun k hk => h k (by omega)), h n (by omega)]
  simp
theorem leftN_step {gone : Nat → Bool} {n : Nat} (h : gone n = false) : leftN gone (n + 1) = leftN gone n + 1 := by simp [leftN, h]
theorem dropP_len (gone : Nat → Bool) (l : List In) : (dropP gone l).length = leftN gone l.length := dropTo_len gone l _ (Nat.le_refl _)
theorem dropP_le (gone : Nat → Bool) (l : List In) : (dropP gone l).length ≤ l.length := by rw [dropP_len]; exact leftN_le _ _
theorem adjI_same {gone : Nat → Bool} {l : List In} (h : ∀ k, k < l.length → gone k = false) (x : In) : adjI gone l.length x = x := by
 unfold adjI
 split
 ·rename_i hx
  have h0 := goK_imm hx.1
  rw [leftN_none _ fun k hk => h k (by omega)]
  cases x
  simp only [In.mk.injEq, true_and]
  simp only at h0
  omega
 ·rfl
theorem dropTo_same {gone : Nat → Bool} {l : List In} (h : ∀ k, k < l.length → gone k = false) : ∀ i, i ≤ l.length → dropTo gone l i = l.take i
 | 0, _ => rfl
 | i + 1, hi => by
  have hx : l[i]? = some (l[i]'(by omega)) := List.getElem?_eq_getElem (by omega)
  simp only [dropTo, dropTo_same h i (by omega), hx, h i (by omega), adjI_same h]
  rw [List.take_add_one, hx]
  simp
theorem dropP_same {gone : Nat → Bool} {l : List In} (h : (dropP gone l).length = l.length) : dropP gone l = l := by
 rw [dropP_len] at h
 unfold dropP
 rw [dropTo_same (fun k hk => leftN_all _ h k hk) _ (Nat.le_refl _), List.take_length]
def skipB (l : List In) (i : Nat) : Bool := match l[i]? with | some x => decide (goK x = 1 ∧ x.imm = (i : Int) + 1) | none => false
def skip1 (l : List In) : List In := dropP (skipB l) l
def skipN : Nat → List In → List In
 | 0, l => l
 | n + 1, l => skipN n (skip1 l)
def skipL (l : List In) : List In := skipN l.length l
theorem skip1_le (l : List In) : (skip1 l).length ≤ l.length := dropP_le _ _
theorem skipN_fix {l : List In} (h : (skip1 l).length = l.length) : ∀ n, skipN n l = l
 | 0 => rfl
 | n + 1 => by
  have e : skip1 l = l := dropP_same h
  simp only [skipN, e, skipN_fix h n]
theorem skipN_any : ∀ (k n : Nat) (l : List In), l.length ≤ k → l.length ≤ n → skipN k l = skipN n l
 | 0, n, l, hk, _ => by
  have h : (skip1 l).length = l.length := by have := skip1_le l; omega
  rw [skipN_fix h, skipN_fix h]
 | k + 1, 0, l, _, hn => by
  have h : (skip1 l).length = l.length := by have := skip1_le l; omega
  rw [skipN_fix h, skipN_fix h]
 | k + 1, n + 1, l, hk, hn => by
  by_cases h : (skip1 l).length = l.length
  ·rw [skipN_fix h, skipN_fix h]
  ·have := skip1_le l
   simp only [skipN]
   exact skipN_any k n _ (by omega) (by omega)
theorem skipL_of {n : Nat} {l : List In} (h : l.length ≤ n) : skipN n l = skipL l := skipN_any _ _ _ h (Nat.le_refl _)
theorem skipL_fix {l : List In} (h : (skip1 l).length = l.length) : skipL l = l := skipN_fix h _
theorem skipL_step (l : List In) : skipL (skip1 l) = skipL l := by
 rw [← skipL_of (n := l.length) (skip1_le l), ← skipL_of (n := l.length + 1) (l := l) (by omega)]
 rfl
theorem skipN_len : ∀ (n : Nat) (l : List In), (skipN n l).length ≤ l.length
 | 0, _ => Nat.le_refl _
 | n + 1, l => Nat.le_trans (skipN_len n _) (skip1_le l)
theorem skipL_len (l : List In) : (skipL l).length ≤ l.length := skipN_len _ _
theorem skipN_succ' (n : Nat) : ∀ l : List In, skipN (n + 1) l = skip1 (skipN n l) := by
 induction n with
 | zero => intro l; rfl
 | succ n ih => intro l; rw [skipN, ih]; rfl
end Go.Proofs.YtlbiogokpadaoaaGreatDoor
namespace Go.Proofs.YtlbiogokpadaoaaGreatDoor
open Go Go.Sx Go.Isa
def Chn (l : List In) : List Int → Int → Prop
 | [], _ => True
 | q :: led, p => (∃ x, l[q.toNat]? = some x ∧ goK x = 1 ∧ x.imm = p) ∧ Chn l led q
theorem ledOk1 {cs : List In} {p : Int} (h : 0 ≤ p) : LedOk cs [] p := ⟨List.nodup_nil, by simp, by simp, h⟩
theorem chn_from {l : List In} : ∀ {led : List Int} {p : Int}, LedOk l led p → Chn l led p → ∀ r, r ∈ p :: led → ∃ led', (∀ q ∈ led', q ∈ led) ∧ LedOk l led' p ∧ r ∈ p :: led' ∧ thr l l.length [] r = thr l l.length led' p
 | led, p, h, hc, r, hr => by
  rcases List.mem_cons.1 hr with e | hr
  ·subst e
   exact ⟨[], by simp, ledOk1 h.p0, by simp, rfl⟩
  ·match led, h, hc, hr with
   | q :: led2, h, ⟨⟨x, hx, hg, him⟩, hc2⟩, hr =>
    have hnd := List.nodup_cons.1 h.nd
    have hq := h.rg q (by simp)
    have h2 : LedOk l led2 q := ⟨hnd.2, fun s hs => h.rg s (List.mem_cons_of_mem _ hs), hnd.1, hq.1⟩
    obtain ⟨led', hsub, hok, hm, he⟩ := chn_from h2 hc2 r hr
    have hno : p ∉ q :: led' := fun hp => h.no (by
     rcases List.mem_cons.1 hp with e | hp
     ·subst e; simp
     ·exact List.mem_cons_of_mem _ (hsub p hp))
    have hst := thr_all hok hx ⟨hg, by rw [him]; exact hno⟩
    rw [him] at hst
    refine ⟨q :: led', fun s hs => ?_, hok.step hq.2 hno h.p0, ?_, he.trans hst⟩
    ·rcases List.mem_cons.1 hs with e | hs
     ·subst e; simp
     ·exact List.mem_cons_of_mem _ (hsub s hs)
    ·exact List.mem_cons_of_mem _ hm
def EndAt (l : List In) (q : Int) : Prop := ∀ x, l[q.toNat]? = some x → goK x = 1 → thr l l.length [] x.imm = q
theorem thr_endAt {l : List In} : ∀ (n : Nat) (led : List Int) (p : Int), LedOk l led p → Chn l led p → l.length ≤ led.length + n → EndAt l (thr l n led p)
 | 0, led, p, h, _, hn => by
  intro x hx _
  exfalso
  have hx : l[p.toNat]? = some x := hx
  have hp := at_of h.p0 hx
  have := nodup_range l.length (p :: led) (List.nodup_cons.2 ⟨h.no, h.nd⟩) (fun r hr => by
   rcases List.mem_cons.1 hr with rfl | hr
   ·exact ⟨h.p0, hp⟩
   ·exact h.rg r hr)
  simp at this; omega
 | n + 1, led, p, h, hc, hn => by
  cases hx : l[p.toNat]? with
  | none => rw [thr_end hx]; intro x hx'; rw [hx] at hx'; cases hx'
  | some x =>
   by_cases hg : goK x = 1 ∧ x.imm ∉ p :: led
   ·rw [thr_on hx hg]
    have hp := at_of h.p0 hx
    exact thr_endAt n _ _ (h.step hp hg.2 (goK_imm (by rw [hg.1]; decide)).1) ⟨⟨x, hx, hg.1, rfl⟩, hc⟩ (by simp; omega)
   ·rw [thr_stop hx hg]
    intro y hy hgy
    rw [hx] at hy; injection hy with hy; subst hy
    have hin : x.imm ∈ p :: led := Classical.byContradiction fun hh => hg ⟨hgy, hh⟩
    obtain ⟨led', hsub, hok, hm, he⟩ := chn_from h hc _ hin
    rw [he, thr_stop hx fun hh => hh.2 hm]
theorem legal_imm (x : In) (q : Int) : legalB { x with imm := q } = legalB x := rfl
theorem goK_imm2 (x : In) {q : Int} (h0 : 0 ≤ q) (h1 : q ≤ 1024) (hx : goK x ≠ 0) : goK { x with imm := q } = goK x := by
 have hi := goK_imm hx
 unfold goK
 rw [legal_imm]
 simp only [h0, h1, hi, and_true]
theorem goK_thrI (l : List In) (x : In) : goK (thrI l x) = goK x := by
 unfold thrI
 split
 ·rfl
 ·rename_i h
  have hi := goK_imm h
  have := thr_rg l l.length [] x.imm hi.1 hi.2
  exact goK_imm2 x this.1 this.2 h
theorem thrI_op (l : List In) (x : In) : (thrI l x).op = x.op := by unfold thrI; split <;> rfl
theorem threadL_idem (l : List In) : threadL (threadL l) = threadL l := by
 have hlen := threadL_len l
 unfold threadL at *
 rw [List.map_map]
 refine List.map_congr_left fun x _ => ?_
 show thrI (l.map (thrI l)) (thrI l x) = thrI l x
 by_cases hg : goK x = 0
 ·have e : thrI l x = x := by unfold thrI; rw [if_pos hg]
  rw [e]
  unfold thrI
  rw [if_pos hg]
 ·have hi := goK_imm hg
  have hq := thr_rg l l.length [] x.imm hi.1 hi.2
  have hend := thr_endAt (l := l) l.length [] x.imm (ledOk1 hi.1) trivial (Nat.le_add_left _ _)
  have e : thrI l x = { x with imm := thr l l.length [] x.imm } := by unfold thrI; rw [if_neg hg]
  have hgt := goK_thrI l x
  generalize thr l l.length [] x.imm = q at *
  rw [e] at hgt ⊢
  have : thr (l.map (thrI l)) (l.map (thrI l)).length [] q = q := by
   cases hx : l[q.toNat]? with
   | none => exact thr_end (by rw [List.getElem?_map, hx]; rfl)
   | some y =>
    have hy : (l.map (thrI l))[q.toNat]? = some (thrI l y) := by rw [List.getElem?_map, hx]; rfl
    refine thr_stop hy fun hh => ?_
    have h1 : goK y = 1 := by rw [← goK_thrI l y]; exact hh.1
    have h2 := hend y hx h1
    have h3 : (thrI l y).imm = q := by
     unfold thrI
     rw [if_neg (by rw [h1]; decide)]
     exact h2
    exact hh.2 (by rw [h3]; simp)
  have e2 : ∀ (m : List In) (z : In), goK z ≠ 0 → thrI m z = { z with imm := thr m m.length [] z.imm } := fun m z hz => by unfold thrI; rw [if_neg hz]
  rw [e2 _ _ (by rw [hgt]; exact hg)]
  simp only [this]
theorem skip1_skipL (l : List In) : skip1 (skipL l) = skipL l := by
 have h := skipN_succ' l.length l
 rw [← skipL_of (n := l.length + 1) (l := l) (by omega)] at *
 rw [h]
 have h2 : skipN (l.length + 1) l = skipN l.length l := skipN_any _ _ _ (by omega) (Nat.le_refl _)
 rw [← h, h2, ← skipN_succ']
 exact h2
theorem skipL_idem (l : List In) : skipL (skipL l) = skipL l := skipL_fix (by rw [skip1_skipL])
end Go.Proofs.YtlbiogokpadaoaaGreatDoor
namespace Go.Proofs.YtlbiogokpadaoaaGreatDoor
open Go Go.Sx Go.Isa Go.Lint
open Classical in
noncomputable def neverB (l : List In) (i : Nat) : Bool := decide (¬ Go.Lint.Reach l ((i : Int), false) ∧ ¬ Go.Lint.Reach l ((i : Int), true))
noncomputable def trimL (l : List In) : List In := dropP (neverB l) l
theorem never_of {l : List In} {i : Nat} : neverB l i = false ↔ ∃ b, Go.Lint.Reach l ((i : Int), b) := by
 unfold neverB
 rw [decide_eq_false_iff_not]
 constructor
 ·intro h
  by_cases h1 : Go.Lint.Reach l ((i : Int), false)
  ·exact ⟨_, h1⟩
  ·exact ⟨true, Classical.byContradiction fun h2 => h ⟨h1, h2⟩⟩
 ·rintro ⟨b, hb⟩ ⟨h1, h2⟩
  cases b
  ·exact h1 hb
  ·exact h2 hb
theorem trimL_len (l : List In) : (trimL l).length ≤ l.length := dropP_le _ _
theorem dropTo_at {gone : Nat → Bool} {l : List In} : ∀ (i n : Nat) (x : In), i < n → n ≤ l.length → l[i]? = some x → gone i = false → (dropTo gone l n)[leftN gone i]? = some (adjI gone l.length x)
 | i, 0, _, h, _, _, _ => by omega
 | i, n + 1, x, h, hn, hx, hg => by
  have hlen := dropTo_len gone l n (by omega)
  simp only [dropTo]
  by_cases e : i = n
  ·subst e
   rw [hx, List.getElem?_append_right (by rw [hlen]; exact Nat.le_refl _), hlen, Nat.sub_self]
   simp only [hg]
   rfl
  ·have hm := dropTo_at i n x (by omega) (by omega) hx hg
   rw [List.getElem?_append_left (List.getElem?_eq_some_iff.1 hm).1, hm]
theorem dropP_at {gone : Nat → Bool} {l : List In} {i : Nat} {x : In} (hx : l[i]? = some x) (hg : gone i = false) : (dropP gone l)[leftN gone i]? = some (adjI gone l.length x) :=
 dropTo_at i l.length x (List.getElem?_eq_some_iff.1 hx).1 (Nat.le_refl _) hx hg
theorem left_onto {gone : Nat → Bool} : ∀ (n k : Nat), k < leftN gone n → ∃ i, i < n ∧ gone i = false ∧ leftN gone i = k
 | 0, k, h => absurd h (Nat.not_lt_zero _)
 | n + 1, k, h => by
  by_cases hk : k < leftN gone n
  ·obtain ⟨i, h1, h2, h3⟩ := left_onto n k hk
   exact ⟨i, by omega, h2, h3⟩
  ·cases hg : gone n with
   | true => simp [leftN, hg] at h; omega
   | false =>
    rw [leftN_step hg] at h
    exact ⟨n, by omega, hg, by omega⟩
theorem adjI_op (gone : Nat → Bool) (n : Nat) (x : In) : (adjI gone n x).op = x.op := by unfold adjI; split <;> rfl
theorem adjI_legal (gone : Nat → Bool) (n : Nat) (x : In) : legalB (adjI gone n x) = legalB x := by unfold adjI; split <;> rfl
theorem reach_left {l : List In} (hl : l.length ≤ 1024) {s : Spot} (h : Go.Lint.Reach l s) : 0 ≤ s.1 ∧ (s.1 < l.length → Go.Lint.Reach (trimL l) ((leftN (neverB l) s.1.toNat : Nat), s.2)) := by
 induction h with
 | start => exact ⟨Int.le_refl _, fun _ => .start⟩
 | step s n x hr hx hlg hn ih =>
  obtain ⟨h0, ih⟩ := ih
  have hn0 := (Go.Lint.nxt_range h0 hx hl hn).1
  refine ⟨hn0, fun hlt => ?_⟩
  have hs : s.1.toNat < l.length := (List.getElem?_eq_some_iff.1 hx).1
  have hs' : s.1 < l.length := by omega
  have es : ((s.1.toNat : Nat) : Int) = s.1 := by omega
  have en : ((n.1.toNat : Nat) : Int) = n.1 := by omega
  have hg : neverB l s.1.toNat = false := never_of.2 ⟨s.2, by rw [es]; exact hr⟩
  have hat := dropP_at hx hg
  refine .step _ _ (adjI (neverB l) l.length x) (ih hs') (by simpa [trimL] using hat) (by rw [adjI_legal]; exact hlg) ?_
  have hop := adjI_op (neverB l) l.length x
  have st := leftN_step hg
  have e1 : ∀ b : Bool, n = (s.1 + 1, b) → (((leftN (neverB l) n.1.toNat : Nat) : Int), n.2) = (((leftN (neverB l) s.1.toNat : Nat) : Int) + 1, b) := by
   rintro b rfl
   have : (s.1 + 1).toNat = s.1.toNat + 1 := by omega
   simp only [this, st]
   simp
  have e2 : ∀ b : Bool, n = (x.imm, b) → 13 ≤ x.op → x.op ≤ 16 → x.imm ≤ 1024 → (((leftN (neverB l) n.1.toNat : Nat) : Int), n.2) = ((adjI (neverB l) l.length x).imm, b) := by
   rintro b rfl h1 h2 h3
   have hk : goK x ≠ 0 := by
    have : goK x = if x.op = 13 then 1 else if 14 ≤ x.op ∧ x.op ≤ 16 then 2 else 0 := by unfold goK; rw [if_pos ⟨hlg, hn0, h3⟩]
    rw [this]
    split
    ·decide
    ·rw [if_pos (by omega)]; decide
   have hlt : x.imm < l.length := hlt
   unfold adjI
   rw [if_pos ⟨hk, hlt⟩]
  have e3 : 13 ≤ x.op → x.op ≤ 16 → ¬ (x.imm < 0 ∨ 1024 < x.imm) → ¬ ((adjI (neverB l) l.length x).imm < 0 ∨ 1024 < (adjI (neverB l) l.length x).imm) := by
   intro _ _ h3
   unfold adjI
   split
   ·have := leftN_le (neverB l) x.imm.toNat
    show ¬ (((leftN (neverB l) x.imm.toNat : Nat) : Int) < 0 ∨ 1024 < ((leftN (neverB l) x.imm.toNat : Nat) : Int))
    omega
   ·exact h3
  generalize (((leftN (neverB l) n.1.toNat : Nat) : Int), n.2) = q at *
  unfold nxt at hn ⊢
  rw [hop]
  split at hn
  ·simp at hn
  rw [if_neg (by assumption)]
  split at hn
  ·simp at hn
  rw [if_neg (by assumption)]
  split at hn
  ·simp at hn
  rw [if_neg (by assumption)]
  split at hn
  ·rw [if_pos (by assumption)]
   rw [List.mem_singleton] at hn ⊢
   exact e1 _ hn
  rw [if_neg (by assumption)]
  split at hn
  ·rename_i hbr
   rw [if_pos hbr]
   rcases List.mem_append.1 hn with hn | hn
   ·refine List.mem_append_left _ ?_
    split at hn
    ·simp at hn
    ·rename_i h3
     rw [if_neg (e3 hbr.1 hbr.2 h3), List.mem_singleton]
     exact e2 _ (List.mem_singleton.1 hn) hbr.1 hbr.2 (by omega)
   ·refine List.mem_append_right _ ?_
    split at hn
    ·simp at hn
    ·rw [if_neg (by assumption), List.mem_singleton]
     exact e1 _ (List.mem_singleton.1 hn)
  ·rw [if_neg (by assumption)]
   rw [List.mem_singleton] at hn ⊢
   exact e1 _ hn
theorem trimL_reached {l : List In} (hl : l.length ≤ 1024) (k : Nat) (hk : k < (trimL l).length) : neverB (trimL l) k = false := by
 rw [trimL, dropP_len] at hk
 obtain ⟨i, hi, hg, rfl⟩ := left_onto _ _ hk
 obtain ⟨b, hb⟩ := never_of.1 hg
 exact never_of.2 ⟨b, (reach_left hl hb).2 (by show (i : Int) < l.length; omega)⟩
theorem trimL_idem {l : List In} (hl : l.length ≤ 1024) : trimL (trimL l) = trimL l := by
 conv => lhs; rw [trimL]
 refine dropP_same ?_
 rw [dropP_len]
 exact leftN_none _ fun k hk => trimL_reached hl k hk
end Go.Proofs.YtlbiogokpadaoaaGreatDoor
