/- The plain law of CachePlays: a cache and the document's list hold the same, and answer the same. -/
import Derived.Test.YtimmobbginjkfaaCpW5
import Derived.Test.YtimmobbginjkfaaCaLaw
import Derived.Test.YtimmobbginjkfaaCaLaw6
set_option linter.unusedSimpArgs false
set_option linter.unusedVariables false
set_option linter.unnecessarySimpa false
namespace Go.Proofs.Ytimmobbginjkfaa
open Go Go.Sx Go.Ca
structure St (c : Ca) : Prop where
 fr : ∀ (j : Nat), j < c.n → (c.sl j).st = 0 → c.sl j = zE
 le : ∀ (j : Nat), j < c.n → (c.sl j).st ≠ 0 → (c.sl j).used ≤ c.uses
 ne : ∀ (j k : Nat), j < c.n → k < c.n → (c.sl j).st ≠ 0 → (c.sl k).st ≠ 0 → (c.sl j).used = (c.sl k).used → j = k
structure Rel (c : Ca) (D : Dc) : Prop where
 s : D.sets = c.sets
 w : D.ways = c.ways
 u : D.uses = c.uses
 p : D.es.Perm (hlTo c c.n)
 o : D.es.Pairwise fun x y => x.line < y.line
theorem st_zero {c : Ca} (h : ∀ j, c.sl j = zE) : St c :=
 ⟨fun j _ _ => h j, fun j _ hs => absurd (by rw [h j]; rfl) hs, fun j _ _ _ hs => absurd (by rw [h j]; rfl) hs⟩
theorem St.use {c : Ca} (s : St c) {j : Nat} {e : En} (h1 : e.st ≠ 0) (h2 : e.used = c.uses + 1) : St { c with uses := c.uses + 1, sl := upd c.sl j e } := by
 refine ⟨fun k hk hs => ?_, fun k hk hs => ?_, fun k m hk hm h3 h4 he => ?_⟩
 ·by_cases e1 : k = j
  ·subst e1; exact absurd (by simpa only [upd_at] using hs) h1
  ·simp only [upd_ne _ _ e1] at hs ⊢; exact s.fr k hk hs
 ·by_cases e1 : k = j
  ·subst e1; simp only [upd_at, h2]; omega
  ·simp only [upd_ne _ _ e1] at hs ⊢; have := s.le k hk hs; omega
 ·by_cases e1 : k = j
  ·by_cases e2 : m = j
   ·rw [e1, e2]
   ·simp only [e1, upd_at, upd_ne _ _ e2, h2] at he h4
    have := s.le m hm h4; omega
  ·by_cases e2 : m = j
   ·simp only [e2, upd_at, upd_ne _ _ e1, h2] at he h3
    have := s.le k hk h3; omega
   ·simp only [upd_ne _ _ e1, upd_ne _ _ e2] at he h3 h4
    exact s.ne k m hk hm h3 h4 he
theorem St.same {c : Ca} (s : St c) {j : Nat} {e : En} (h0 : (c.sl j).st ≠ 0) (h1 : e.st ≠ 0) (h2 : e.used = (c.sl j).used) : St { c with sl := upd c.sl j e } := by
 have hu : ∀ k, (upd c.sl j e k).used = (c.sl k).used := fun k => by
  by_cases e1 : k = j
  ·subst e1; rw [upd_at, h2]
  ·rw [upd_ne _ _ e1]
 have hs : ∀ k, (upd c.sl j e k).st ≠ 0 ↔ (c.sl k).st ≠ 0 := fun k => by
  by_cases e1 : k = j
  ·subst e1; rw [upd_at]; exact ⟨fun _ => h0, fun _ => h1⟩
  ·rw [upd_ne _ _ e1]
 refine ⟨fun k hk h => ?_, fun k hk h => ?_, fun k m hk hm h3 h4 he => ?_⟩
 ·by_cases e1 : k = j
  ·subst e1; exact absurd (by simpa only [upd_at] using h) h1
  ·simp only [upd_ne _ _ e1] at h ⊢; exact s.fr k hk h
 ·show (upd c.sl j e k).used ≤ c.uses
  rw [hu]; exact s.le k hk ((hs k).1 h)
 ·exact s.ne k m hk hm ((hs k).1 h3) ((hs m).1 h4) (by rw [← hu, ← hu]; exact he)
theorem St.gone {c : Ca} (s : St c) (j : Nat) : St { c with sl := upd c.sl j zE } := by
 have hh : ∀ k, (upd c.sl j zE k).st ≠ 0 → upd c.sl j zE k = c.sl k := fun k h => by
  by_cases e1 : k = j
  ·subst e1; exact absurd (by rw [upd_at]; rfl) h
  ·exact upd_ne _ _ e1
 refine ⟨fun k hk h => ?_, fun k hk h => ?_, fun k m hk hm h3 h4 he => ?_⟩
 ·by_cases e1 : k = j
  ·subst e1; exact upd_at _ _ _
  ·simp only [upd_ne _ _ e1] at h ⊢; exact s.fr k hk h
 ·have e1 := hh k h
  show (upd c.sl j zE k).used ≤ c.uses
  have h : (upd c.sl j zE k).st ≠ 0 := h
  rw [e1] at h ⊢; exact s.le k hk h
 ·have e1 := hh k h3
  have e2 := hh m h4
  have h3 : (upd c.sl j zE k).st ≠ 0 := h3
  have h4 : (upd c.sl j zE m).st ≠ 0 := h4
  have he : (upd c.sl j zE k).used = (upd c.sl j zE m).used := he
  rw [e1] at h3 he; rw [e2] at h4 he
  exact s.ne k m hk hm h3 h4 he
theorem St.gen {c : Ca} (s : St c) {g : En → En} (h1 : ∀ e, (g e).st = e.st ∧ (g e).used = e.used) (h2 : ∀ e, e.st = 0 → g e = e) (i : Nat) : St (genTo g c i) := by
 have hl : ∀ k, ((genTo g c i).sl k).st = (c.sl k).st ∧ ((genTo g c i).sl k).used = (c.sl k).used ∧ ((c.sl k).st = 0 → (genTo g c i).sl k = c.sl k) := fun k => by
  simp only [genTo]
  split
  ·exact ⟨(h1 _).1, (h1 _).2, h2 _⟩
  ·exact ⟨rfl, rfl, fun _ => rfl⟩
 refine ⟨fun k hk h => ?_, fun k hk h => ?_, fun k m hk hm h3 h4 he => ?_⟩
 ·obtain ⟨a, b, d⟩ := hl k
  rw [a] at h
  rw [d h]; exact s.fr k hk h
 ·obtain ⟨a, b, d⟩ := hl k
  rw [a] at h
  rw [b]; exact s.le k hk h
 ·rw [(hl k).1] at h3; rw [(hl m).1] at h4; rw [(hl k).2.1, (hl m).2.1] at he
  exact s.ne k m hk hm h3 h4 he
theorem Rel.nn {c : Ca} {D : Dc} (iv : Inv c) (r : Rel c D) : ∀ e ∈ D.es, 0 ≤ e.line := fun e he => by
 obtain ⟨j, hj, rfl, hs⟩ := hl_mem (r.p.mem_iff.1 he)
 exact (iv.lo j hj hs).1
theorem at_rel {c : Ca} {D : Dc} (ok : CaOk c) (r : Rel c D) {line : Int} {j : Nat} (h : atC c line = some j) : ∃ (i : Nat) (hi : i < D.es.length), atL D.es line = some i ∧ D.es[i] = c.sl j := by
 obtain ⟨h1, h2, _⟩ := atC_lt ok h
 simp only [hitB, Bool.and_eq_true, bne_iff_ne, ne_eq, beq_iff_eq] at h2
 obtain ⟨i, hi, he⟩ := List.mem_iff_getElem.1 (r.p.mem_iff.2 (mem_hl h1 h2.1))
 refine ⟨i, hi, atL_is hi (by rw [he]; exact h2.2) (fun k hk hk2 => ?_), he⟩
 have := List.pairwise_iff_getElem.1 r.o k i hk2 hi hk
 rw [he, h2.2] at this
 omega
theorem at_none {c : Ca} {D : Dc} (iv : Inv c) (r : Rel c D) {line : Int} (h : atC c line = none) : atL D.es line = none := by
 refine atL_no fun k hk he => ?_
 obtain ⟨j, hj, e, hs⟩ := hl_mem (r.p.mem_iff.1 (List.getElem_mem hk))
 rw [← e] at hs he
 exact atC_none iv h hj hs he
theorem in_rel {c : Ca} {D : Dc} (ok : CaOk c) (r : Rel c D) {line st : Int} {j : Nat} (h : inC c line st = some j) : ∃ (i : Nat) (hi : i < D.es.length), atL D.es line = some i ∧ inL D.es line st = some i ∧ D.es[i] = c.sl j := by
 obtain ⟨h1, _⟩ := inC_at h
 obtain ⟨i, hi, h2, h3⟩ := at_rel ok r h1
 refine ⟨i, hi, h2, ?_, h3⟩
 unfold inL inC at *
 rw [h2]
 rw [h1] at h
 simp only [getD_is hi, h3] at h ⊢
 split at h
 ·cases h
 ·rename_i h4; rw [if_neg h4]
theorem in_none {c : Ca} {D : Dc} (ok : CaOk c) (iv : Inv c) (r : Rel c D) {line st : Int} (h : inC c line st = none) : inL D.es line st = none := by
 unfold inL inC at *
 cases hq : atC c line with
 | none => rw [at_none iv r hq]
 | some j =>
  obtain ⟨i, hi, h2, h3⟩ := at_rel ok r hq
  rw [h2]
  rw [hq] at h
  simp only [getD_is hi, h3] at h ⊢
  split at h
  ·rename_i h4; rw [if_pos h4]
  ·cases h
theorem inE_rel {c : Ca} {D : Dc} (ok : CaOk c) (iv : Inv c) (r : Rel c D) (line st : Int) : inE c line st = inLE D.es line st := by
 unfold inE inLE
 cases h : inC c line st with
 | none => rw [in_none ok iv r h]
 | some j => obtain ⟨i, hi, _, h2, _⟩ := in_rel ok r h; rw [h2]
theorem hl_map {c : Ca} (iv : Inv c) {j : Nat} (hj : j < c.n) (hs : (c.sl j).st ≠ 0) {e : En} (he : e.st ≠ 0) : ∀ i, i ≤ c.n → hlTo { c with sl := upd c.sl j e } i = (hlTo c i).map fun x => if x.line = (c.sl j).line then e else x
 | 0, _ => rfl
 | i + 1, hi => by
  have ih := hl_map iv hj hs he i (by omega)
  rw [hlTo_succ, hlTo_succ, ih, List.map_append]
  congr 1
  by_cases e1 : i = j
  ·subst e1
   simp only [upd_at]
   rw [if_pos (by simpa using he), if_pos (by simpa using hs)]
   simp
  ·simp only [upd_ne _ _ e1]
   split
   ·rename_i h
    have hh : (c.sl i).st ≠ 0 := by simpa using h
    simp only [List.map_cons, List.map_nil]
    rw [if_neg fun hl => e1 (iv.one i j hi hj hh hs hl)]
   ·rfl
theorem set_map {l : List En} (o : l.Pairwise fun x y => x.line < y.line) {i : Nat} (hi : i < l.length) (e : En) : l.set i e = l.map fun x => if x.line = l[i].line then e else x := by
 apply List.ext_getElem
 ·simp
 intro k h1 h2
 rw [List.getElem_set, List.getElem_map]
 have hk : k < l.length := by simpa using h2
 split
 ·rename_i h; subst h; simp
 ·rename_i h
  rw [if_neg]
  intro hl
  rcases Nat.lt_or_gt_of_ne h with hlt | hlt
  ·have := List.pairwise_iff_getElem.1 o i k hi hk hlt; omega
  ·have := List.pairwise_iff_getElem.1 o k i hk hi hlt; omega
theorem Rel.turn {c : Ca} {D : Dc} (iv : Inv c) (r : Rel c D) {j i : Nat} (hj : j < c.n) (hs : (c.sl j).st ≠ 0) (hi : i < D.es.length) (hij : D.es[i] = c.sl j) {e : En} (he : e.st ≠ 0) (hl : e.line = (c.sl j).line) (u : Int) : Rel { c with uses := u, sl := upd c.sl j e } { D with uses := u, es := D.es.set i e } := by
 have h1 := hl_map iv hj hs he c.n (Nat.le_refl _)
 have h2 := set_map r.o hi e
 rw [hij] at h2
 refine ⟨r.s, r.w, rfl, ?_, ?_⟩
 ·show (D.es.set i e).Perm (hlTo { c with sl := upd c.sl j e } c.n)
  rw [h1, h2]
  exact r.p.map _
 ·show (D.es.set i e).Pairwise _
  rw [h2, List.pairwise_map]
  have hg : ∀ x : En, (if x.line = (c.sl j).line then e else x).line = x.line := fun x => by
   split
   ·rename_i h; rw [hl, h]
   ·rfl
  exact r.o.imp fun {a b} h => by rw [hg, hg]; exact h
theorem hl_gen {c : Ca} {g f : En → En} (h1 : ∀ e, (g e).st = e.st) (h2 : ∀ e, e.st ≠ 0 → g e = f e) : ∀ i, i ≤ c.n → hlTo (genTo g c c.n) i = (hlTo c i).map f
 | 0, _ => rfl
 | i + 1, hi => by
  rw [hlTo_succ, hlTo_succ, hl_gen h1 h2 i (by omega), List.map_append]
  congr 1
  have e : (genTo g c c.n).sl i = g (c.sl i) := by simp only [genTo]; rw [if_pos (by omega)]
  rw [e, h1]
  split
  ·rename_i h
   rw [h2 _ (by simpa using h)]; rfl
  ·rfl
theorem Rel.gen {c : Ca} {D : Dc} (r : Rel c D) {g f : En → En} (h1 : ∀ e, (g e).st = e.st) (h2 : ∀ e, e.st ≠ 0 → g e = f e) (h3 : ∀ e, (f e).line = e.line) : Rel (genTo g c c.n) { D with es := D.es.map f } := by
 refine ⟨r.s, r.w, r.u, ?_, ?_⟩
 ·show (D.es.map f).Perm (hlTo (genTo g c c.n) c.n)
  rw [hl_gen h1 h2 c.n (Nat.le_refl _)]
  exact r.p.map _
 ·show (D.es.map f).Pairwise _
  rw [List.pairwise_map]
  exact r.o.imp fun {a b} h => by rw [h3, h3]; exact h
theorem hl_less {c : Ca} (iv : Inv c) {j : Nat} (hj : j < c.n) (hs : (c.sl j).st ≠ 0) : ∀ i, i ≤ c.n → hlTo { c with sl := upd c.sl j zE } i = (hlTo c i).filter fun x => x.line != (c.sl j).line
 | 0, _ => rfl
 | i + 1, hi => by
  have ih := hl_less iv hj hs i (by omega)
  rw [hlTo_succ, hlTo_succ, ih, List.filter_append]
  congr 1
  by_cases e1 : i = j
  ·subst e1
   simp only [upd_at]
   rw [if_neg (by simp [zE]), if_pos (by simpa using hs)]
   simp
  ·simp only [upd_ne _ _ e1]
   split
   ·rename_i h
    have hh : (c.sl i).st ≠ 0 := by simpa using h
    have : (c.sl i).line ≠ (c.sl j).line := fun hl => e1 (iv.one i j hi hj hh hs hl)
    simp [this]
   ·rfl
theorem drop_filter {l : List En} (o : l.Pairwise fun x y => x.line < y.line) {i : Nat} (hi : i < l.length) : l.take i ++ l.drop (i + 1) = l.filter fun x => x.line != l[i].line := by
 have e : l = l.take i ++ l[i] :: l.drop (i + 1) := by rw [← List.drop_eq_getElem_cons hi, List.take_append_drop]
 have o2 := o
 rw [e, List.pairwise_append] at o2
 obtain ⟨_, h2, h3⟩ := o2
 have h2 := (List.pairwise_cons.1 h2).1
 generalize hx : l[i] = x at *
 have ht : (l.take i).filter (fun y => y.line != x.line) = l.take i := List.filter_eq_self.2 fun y hy => by
  have := h3 y hy x (by simp)
  simp only [bne_iff_ne, ne_eq]; omega
 have hd : (l.drop (i + 1)).filter (fun y => y.line != x.line) = l.drop (i + 1) := List.filter_eq_self.2 fun y hy => by
  have := h2 y hy
  simp only [bne_iff_ne, ne_eq]; omega
 have e3 := congrArg (List.filter (fun y : En => y.line != x.line)) e
 rw [List.filter_append, List.filter_cons_of_neg (by simp), ht, hd] at e3
 exact e3.symm
theorem Rel.less {c : Ca} {D : Dc} (iv : Inv c) (r : Rel c D) {j i : Nat} (hj : j < c.n) (hs : (c.sl j).st ≠ 0) (hi : i < D.es.length) (hij : D.es[i] = c.sl j) : Rel { c with sl := upd c.sl j zE } (dropI D i) := by
 have h1 := hl_less iv hj hs c.n (Nat.le_refl _)
 have h2 := drop_filter r.o hi
 rw [hij] at h2
 refine ⟨r.s, r.w, r.u, ?_, ?_⟩
 ·show (D.es.take i ++ D.es.drop (i + 1)).Perm (hlTo { c with sl := upd c.sl j zE } c.n)
  rw [h1, h2]
  exact r.p.filter _
 ·show (D.es.take i ++ D.es.drop (i + 1)).Pairwise _
  rw [h2]
  exact r.o.filter _
theorem hl_more {c : Ca} {j : Nat} (hf : (c.sl j).st = 0) {e : En} (he : e.st ≠ 0) : ∀ i, (hlTo { c with sl := upd c.sl j e } i).Perm (if j < i then e :: hlTo c i else hlTo c i)
 | 0 => by simp [hlTo]
 | i + 1 => by
  have ih := hl_more (c := c) hf he i
  rw [hlTo_succ, hlTo_succ]
  by_cases e1 : i = j
  ·subst e1
   rw [if_neg (by omega)] at ih
   simp only [upd_at]
   rw [if_pos (by simpa using he), if_pos (by omega), if_neg (by simp [hf]), List.append_nil]
   exact (List.perm_append_comm.trans (List.Perm.cons _ ih))
  ·simp only [upd_ne _ _ e1]
   generalize (if ((c.sl i).st != 0) = true then [c.sl i] else []) = X
   by_cases h : j < i
   ·rw [if_pos h] at ih
    rw [if_pos (by omega)]
    exact ih.append_right _
   ·rw [if_neg h] at ih
    rw [if_neg (by omega)]
    exact ih.append_right _
theorem put_split (line : Int) : ∀ (l : List En), (∀ x ∈ l.take (putAt l line), x.line < line) ∧ ∀ h : putAt l line < l.length, ¬ (l[putAt l line]'h).line < line
 | [] => ⟨by simp [putAt], fun h => by simp at h⟩
 | y :: l => by
  by_cases h : y.line < line
  ·have e : putAt (y :: l) line = putAt l line + 1 := by
    unfold putAt; rw [List.takeWhile_cons_of_pos (by simpa using h)]; rfl
   obtain ⟨h1, h2⟩ := put_split line l
   refine ⟨fun x hx => ?_, fun hh => ?_⟩
   ·rw [e, List.take_succ_cons] at hx
    rcases List.mem_cons.1 hx with rfl | hx
    ·exact h
    ·exact h1 x hx
   ·have hl : putAt l line < l.length := by rw [e] at hh; simpa using hh
    have e2 : (y :: l)[putAt (y :: l) line]'hh = l[putAt l line] := by simp only [e]; rfl
    rw [e2]; exact h2 hl
  ·have e : putAt (y :: l) line = 0 := by
    unfold putAt; rw [List.takeWhile_cons_of_neg (by simpa using h)]; rfl
   refine ⟨fun x hx => by rw [e] at hx; simp at hx, fun hh => ?_⟩
   have e2 : (y :: l)[putAt (y :: l) line]'hh = y := by simp only [e]; rfl
   rw [e2]; exact h
theorem put_sorted {l : List En} (o : l.Pairwise fun x y => x.line < y.line) {e : En} (hne : ∀ x ∈ l, x.line ≠ e.line) : (l.take (putAt l e.line) ++ e :: l.drop (putAt l e.line)).Pairwise fun x y => x.line < y.line := by
 obtain ⟨ht, hn⟩ := put_split e.line l
 have hd : ∀ x ∈ l.drop (putAt l e.line), e.line < x.line := fun x hx => by
  obtain ⟨k, hk, rfl⟩ := List.mem_iff_getElem.1 hx
  rw [List.length_drop] at hk
  rw [List.getElem_drop]
  have h0 : putAt l e.line < l.length := by omega
  have h1 := hn h0
  have h2 := hne _ (List.getElem_mem h0)
  by_cases e0 : k = 0
  ·subst e0; simp only [Nat.add_zero]; omega
  ·have := List.pairwise_iff_getElem.1 o (putAt l e.line) (putAt l e.line + k) h0 (by omega) (by omega)
   omega
 rw [List.pairwise_append, List.pairwise_cons]
 refine ⟨o.sublist (List.take_sublist _ _), ⟨hd, o.sublist (List.drop_sublist _ _)⟩, fun a ha b hb => ?_⟩
 have h1 := ht a ha
 rcases List.mem_cons.1 hb with h | h
 ·subst h; exact h1
 ·have := hd b h; omega
theorem Rel.more {c : Ca} {D : Dc} (r : Rel c D) {j : Nat} (hj : j < c.n) (hf : (c.sl j).st = 0) {e : En} (he : e.st ≠ 0) (hne : ∀ x ∈ D.es, x.line ≠ e.line) (u : Int) : Rel { c with uses := u, sl := upd c.sl j e } (putI { D with uses := u } e) := by
 have h1 := hl_more hf he c.n
 rw [if_pos hj] at h1
 refine ⟨r.s, r.w, rfl, ?_, put_sorted r.o hne⟩
 show (D.es.take (putAt D.es e.line) ++ e :: D.es.drop (putAt D.es e.line)).Perm (hlTo { c with sl := upd c.sl j e } c.n)
 refine (List.perm_middle.trans ?_).trans h1.symm
 rw [List.take_append_drop]
 exact List.Perm.cons _ r.p
end Go.Proofs.Ytimmobbginjkfaa
