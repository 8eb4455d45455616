/- The plain law of histories (2): the document's way, from the first event on each time, comes to the same attempts. No program in sight. -/
import Derived.Test.YtbkpiljencaoeaaHsPlain
import Derived.Test.YtbkpiljencaoeaaGrPlain
set_option linter.unusedSimpArgs false
set_option linter.unusedVariables false
set_option linter.unnecessarySimpa false
namespace Go.Hs
def evA (h : List Ev) (n : Nat) : Ev := h.getD n default
theorem evA_get {h : List Ev} {n : Nat} {e : Ev} (he : h[n]? = some e) : evA h n = e := by unfold evA; rw [List.getD_eq_getElem?_getD, he]; rfl
theorem evA_lt {h : List Ev} {n : Nat} (hn : n < h.length) : evA h n = h[n] := evA_get (List.getElem?_eq_getElem hn)
def openR (h : List Ev) (c : Int) : Nat → Int
 | 0 => -1
 | n + 1 => if (evA h n).core = c ∧ ((evA h n).kind = 5 ∨ (evA h n).kind = 6) then -1 else if (evA h n).core = c ∧ (evA h n).kind = 1 then n else openR h c n
def may1 (h : List Ev) (o : Int) (e : Ev) : Bool :=
 !(decide (e.kind < 1) || (decide (e.kind > 8) || (decide (e.core < 0) || decide (e.core ≥ 4)))) &&
 (!(wordB e && decide (e.addr < 0)) &&
 (!(e.kind == 1 && (decide (o ≥ 0) || (decide (e.lane < 1) || (decide (e.lane > 4) || (decide (e.block < 0) || decide (e.tr < 0)))))) &&
 (!(plainB e && decide (o ≥ 0)) &&
 (!(decide (e.kind ≥ 2) && (decide (e.kind ≤ 6) && (decide (o < 0) || (!((evA h o.toNat).block == e.block) || !((evA h o.toNat).tr == e.tr))))) &&
 !(e.kind == 6 && (decide (e.code < 1) || decide (e.code > 8)))))))
def mayTo (h : List Ev) : Nat → Bool
 | 0 => true
 | n + 1 => mayTo h n && may1 h (openR h (evA h n).core n) (evA h n)
def mayL (h : List Ev) : Bool := mayTo h h.length
def ownB (x : At) (e : Ev) : Bool := e.core == x.core && (e.block == x.block && (e.tr == x.tr && (decide (e.kind ≥ 2) && decide (e.kind ≤ 6))))
def oneTo (h : List Ev) (k : Nat) : Nat → At
 | 0 => newA (evA h k) k
 | n + 1 => if k < n ∧ (oneTo h k n).to < 0 ∧ ownB (oneTo h k n) (evA h n) = true then hearA (oneTo h k n) n (evA h n) else oneTo h k n
def begs (h : List Ev) : Nat → List Nat
 | 0 => []
 | n + 1 => if (evA h n).kind = 1 then begs h n ++ [n] else begs h n
theorem begs_lt (h : List Ev) : ∀ (n k : Nat), k ∈ begs h n → k < n ∧ (evA h k).kind = 1
 | 0, k, hk => by simp [begs] at hk
 | n + 1, k, hk => by
  simp only [begs] at hk
  split at hk
  ·rename_i h1
   rcases List.mem_append.1 hk with h2 | h2
   ·have := begs_lt h n k h2; exact ⟨by omega, this.2⟩
   ·simp only [List.mem_singleton] at h2; subst h2; exact ⟨by omega, h1⟩
  ·have := begs_lt h n k hk; exact ⟨by omega, this.2⟩
theorem oneTo_new (h : List Ev) (k : Nat) : ∀ n, n ≤ k + 1 → oneTo h k n = newA (evA h k) k
 | 0, _ => rfl
 | n + 1, hn => by
  simp only [oneTo]
  rw [if_neg (by omega)]
  exact oneTo_new h k n (by omega)
structure Okh (h : List Ev) (s : St) (n : Nat) : Prop where
 ok : Ok s n
 opn : ∀ c, openR h c n = match opGet s.op c with | none => -1 | some i => (s.out.getD i default).frm
 outs : s.out = (begs h n).map fun k => oneTo h k n
theorem Okh.mt (h : List Ev) : Okh h ⟨[], []⟩ 0 := ⟨Ok.mt 0, fun _ => rfl, rfl⟩
theorem Okh.beg {h : List Ev} {s : St} {n : Nat} (k : Okh h s n) {i : Nat} {x : At} (hi : s.out[i]? = some x) : ∃ b, (begs h n)[i]? = some b ∧ x = oneTo h b n ∧ b < n ∧ (evA h b).kind = 1 := by
 rw [k.outs, List.getElem?_map] at hi
 cases hb : (begs h n)[i]? with
 | none => rw [hb] at hi; cases hi
 | some b =>
  rw [hb] at hi; injection hi with hi
  have := begs_lt h n b (List.mem_of_getElem? hb)
  exact ⟨b, rfl, hi.symm, this⟩
theorem word_iff (e : Ev) : wordB e = true ↔ e.kind = 2 ∨ e.kind = 3 ∨ e.kind = 7 ∨ e.kind = 8 := by
 unfold wordB plainB; simp
theorem plain_iff (e : Ev) : plainB e = true ↔ e.kind = 7 ∨ e.kind = 8 := by
 unfold plainB; simp
theorem oneTo_skip {h : List Ev} {k n : Nat} (hs : (oneTo h k n).to < 0 → ownB (oneTo h k n) (evA h n) = false) : oneTo h k (n + 1) = oneTo h k n := by
 simp only [oneTo]
 rw [if_neg]
 rintro ⟨_, h2, h3⟩
 rw [hs h2] at h3; cases h3
theorem map_set_ext {α β : Type} {f g : α → β} : ∀ {l : List α} {i : Nat} {y : β}, (∀ j a, l[j]? = some a → j ≠ i → f a = g a) → (∀ a, l[i]? = some a → f a = y) → l.map f = (l.map g).set i y
 | [], _, _, _, _ => rfl
 | a :: l, 0, y, h1, h2 => by
  simp only [List.map_cons, List.set_cons_zero]
  rw [h2 a rfl]
  congr 1
  exact List.map_congr_left fun b hb => by
   obtain ⟨j, hj⟩ := List.getElem?_of_mem hb
   exact h1 (j + 1) b (by simpa using hj) (by omega)
 | a :: l, i + 1, y, h1, h2 => by
  simp only [List.map_cons, List.set_cons_succ]
  rw [h1 0 a rfl (by omega)]
  congr 1
  exact map_set_ext (fun j b hj hne => h1 (j + 1) b (by simpa using hj) (by omega)) fun b hb => h2 b (by simpa using hb)
theorem Okh.step {h : List Ev} {s s' : St} {n : Nat} (k : Okh h s n) (hs : stepS s n (evA h n) = some s') : Okh h s' (n + 1) := by
 refine ⟨k.ok.step hs, ?_, ?_⟩
 ·intro c
  simp only [openR]
  unfold stepS at hs
  split at hs
  case isFalse => cases hs
  rename_i hm
  have hcr := may_core hm
  split at hs
  ·rename_i hp
   injection hs with hs; subst hs
   have := (plain_iff _).1 hp
   rw [if_neg (by omega), if_neg (by omega)]
   exact k.opn c
  ·rename_i hp
   have hp : plainB (evA h n) = false := by simpa using hp
   cases ho : opGet s.op (evA h n).core with
   | none =>
    rw [ho] at hs; simp only at hs; injection hs with hs; subst hs
    have hc : curA s (evA h n).core = none := by unfold curA; rw [ho]; rfl
    have hk := (may_begin hm hp).1.1 hc
    rw [if_neg (by omega)]
    by_cases e : (evA h n).core = c
    ·subst e
     rw [if_pos ⟨rfl, hk⟩]
     have : opGet (s.op ++ [((evA h n).core, s.out.length)]) (evA h n).core = some s.out.length := by
      refine opGet_of ((k.ok.step (e := evA h n) (s' := ⟨s.out ++ [newA (evA h n) n], s.op ++ [((evA h n).core, s.out.length)]⟩) ?_).keys) (by simp)
      unfold stepS; rw [if_pos hm, if_neg (by rw [hp]; simp), ho]
     simp only [this]
     rw [List.getD_eq_getElem?_getD]; simp [newA]
    ·rw [if_neg (by omega), k.opn c]
     have : opGet (s.op ++ [((evA h n).core, s.out.length)]) c = opGet s.op c := by
      have key : ∀ l : List (Int × Nat), opGet (l ++ [((evA h n).core, s.out.length)]) c = opGet l c := by
       intro l
       induction l with
       | nil => simp [opGet]; exact fun h => absurd h.symm e
       | cons p l ih => obtain ⟨q, v⟩ := p; simp only [List.cons_append, opGet, ih]
      exact key _
     simp only [this]
     cases hg : opGet s.op c with
     | none => rfl
     | some j =>
      obtain ⟨y, y1, y2, y3, y4, y5, y6⟩ := k.ok.cur hg
      simp only
      rw [List.getD_eq_getElem?_getD, List.getD_eq_getElem?_getD, List.getElem?_append_left y6]
   | some i =>
    rw [ho] at hs; simp only at hs; injection hs with hs; subst hs
    obtain ⟨x, h1, h2, h3, h4, h5, h6⟩ := k.ok.cur ho
    rw [h2]
    rw [h3] at hm
    have hk := may_own hm
    have hto := hear_to x n (evA h n)
    obtain ⟨c1, c2, c3, c4, c5⟩ := hear_core x n (evA h n)
    by_cases h56 : (evA h n).kind = 5 ∨ (evA h n).kind = 6
    ·rw [if_pos h56] at hto
     rw [if_pos (show (hearA x n (evA h n)).to ≥ 0 by rw [hto]; omega)]
     have hdel : ∀ c, opGet (opDel s.op (evA h n).core) c = if c = (evA h n).core then none else opGet s.op c := by
      intro c
      cases hg : opGet (opDel s.op (evA h n).core) c with
      | none =>
       split
       ·rfl
       ·rename_i hne
        cases hg2 : opGet s.op c with
        | none => rfl
        | some j => exact absurd rfl (opGet_none hg _ ((opDel_mem k.ok.keys _).2 ⟨opGet_mem hg2, hne⟩))
      | some j =>
       obtain ⟨m1, m2⟩ := (opDel_mem k.ok.keys _).1 (opGet_mem hg)
       rw [if_neg m2]
       exact (opGet_of k.ok.keys m1).symm
     simp only [hdel]
     by_cases e : (evA h n).core = c
     ·rw [if_pos ⟨e, h56⟩, if_pos e.symm]
     ·rw [if_neg (by omega), if_neg (by omega), if_neg (fun h => e h.symm), k.opn c]
      cases hg : opGet s.op c with
      | none => rfl
      | some j =>
       have hij : i ≠ j := by
        rintro rfl
        obtain ⟨y, y1, y2, y3, y4, y5, y6⟩ := k.ok.cur hg
        rw [h1] at y1; injection y1 with y1; subst y1
        exact e (by rw [← h4, y4])
       simp only
       rw [List.getD_eq_getElem?_getD, List.getD_eq_getElem?_getD, List.getElem?_set_ne hij]
    ·rw [if_neg h56] at hto
     rw [if_neg (show ¬ (hearA x n (evA h n)).to ≥ 0 by rw [hto, h5]; omega), if_neg (by omega), if_neg (by omega), k.opn c]
     cases hg : opGet s.op c with
     | none => rfl
     | some j =>
      simp only
      by_cases hij : i = j
      ·subst hij
       rw [h2, List.getD_eq_getElem?_getD, List.getElem?_set]
       simp [h6, c5]
      ·rw [List.getD_eq_getElem?_getD, List.getD_eq_getElem?_getD, List.getElem?_set_ne hij]
 ·simp only [begs]
  unfold stepS at hs
  split at hs
  case isFalse => cases hs
  rename_i hm
  have hcr := may_core hm
  have skip : ∀ b ∈ begs h n, ((oneTo h b n).to < 0 → ownB (oneTo h b n) (evA h n) = false) → oneTo h b (n + 1) = oneTo h b n := fun b _ hb => oneTo_skip hb
  split at hs
  ·rename_i hp
   injection hs with hs; subst hs
   have := (plain_iff _).1 hp
   rw [if_neg (by omega), k.outs]
   refine List.map_congr_left fun b hb => (skip b hb fun _ => ?_).symm
   unfold ownB
   rw [decide_eq_false (show ¬ (evA h n).kind ≤ 6 by omega)]; simp
  ·rename_i hp
   have hp : plainB (evA h n) = false := by simpa using hp
   cases ho : opGet s.op (evA h n).core with
   | none =>
    rw [ho] at hs; simp only at hs; injection hs with hs; subst hs
    have hc : curA s (evA h n).core = none := by unfold curA; rw [ho]; rfl
    have hk := (may_begin hm hp).1.1 hc
    rw [if_pos hk, List.map_append, List.map_cons, List.map_nil, oneTo_new h n (n + 1) (Nat.le_refl _)]
    show s.out ++ [newA (evA h n) n] = _
    congr 1
    rw [k.outs]
    refine List.map_congr_left fun b hb => (skip b hb fun _ => ?_).symm
    unfold ownB
    rw [decide_eq_false (show ¬ (evA h n).kind ≥ 2 by omega)]; simp
   | some i =>
    rw [ho] at hs; simp only at hs; injection hs with hs; subst hs
    obtain ⟨x, h1, h2, h3, h4, h5, h6⟩ := k.ok.cur ho
    rw [h3] at hm
    have hk := may_own hm
    have hne1 : ¬ (evA h n).kind = 1 := by omega
    rw [if_neg hne1, h2]
    symm
    show _ = s.out.set i _
    conv => rhs; rw [k.outs]
    refine map_set_ext (fun j b hj hne => ?_) fun b hb => ?_
    ·refine skip b (List.mem_of_getElem? hj) fun hto => ?_
     have hy : s.out[j]? = some (oneTo h b n) := by rw [k.outs, List.getElem?_map, hj]; rfl
     have hr := k.ok.rng _ (List.mem_of_getElem? hy)
     have hop := opGet_of k.ok.keys (k.ok.shut j _ hy (by omega))
     unfold ownB
     have : ((evA h n).core == (oneTo h b n).core) = false := by
      rw [beq_eq_false_iff_ne]
      intro e
      rw [← e, ho] at hop; injection hop with hop; exact hne hop.symm
     rw [this]; rfl
    ·obtain ⟨b', q1, q2, q3, q4⟩ := k.beg h1
     rw [hb] at q1; injection q1 with q1; subst q1
     simp only [oneTo]
     rw [if_pos, ← q2]
     refine ⟨q3, by rw [← q2]; omega, ?_⟩
     rw [← q2]
     unfold ownB
     rw [h4, hk.2.2.1, hk.2.2.2.1, decide_eq_true hk.1, decide_eq_true hk.2.1]; simp
end Go.Hs
namespace Go.Hs
end Go.Hs
namespace Go.Hs
def mGet : List Pr → Int → Option Int
 | [], _ => none
 | (q, v) :: l, a => if a = q then some v else mGet l a
def mPut : List Pr → Int → Int → List Pr
 | [], a, v => [(a, v)]
 | (q, u) :: l, a, v => if a = q then (a, v) :: l else (q, u) :: mPut l a v
def memF (m : List Pr) (a : Int) : Int := (mGet m a).getD 0
theorem mGet_put : ∀ (m : List Pr) (a v b : Int), mGet (mPut m a v) b = if b = a then some v else mGet m b
 | [], a, v, b => by simp [mPut, mGet]
 | (q, u) :: m, a, v, b => by
  simp only [mPut]
  split
  ·rename_i e
   subst e
   simp only [mGet]
   by_cases hb : b = a
   ·rw [if_pos hb, if_pos hb]
   ·rw [if_neg hb, if_neg hb, if_neg hb]
  ·rename_i e
   simp only [mGet, mGet_put m a v b]
   by_cases h : b = q
   ·subst h
    rw [if_pos rfl, if_neg (fun h => e h.symm), if_pos rfl]
   ·rw [if_neg h, if_neg h]
theorem memF_put (m : List Pr) (a v b : Int) : memF (mPut m a v) b = if b = a then v else memF m b := by
 unfold memF; rw [mGet_put]; split <;> rfl
def begTo (first : List Int) : Nat → List Pr
 | 0 => []
 | n + 1 => mPut (begTo first n) n (first.getD n 0)
def begL (first : List Int) : List Pr := begTo first first.length
def firF (first : List Int) (a : Int) : Int := if 0 ≤ a ∧ a < first.length then first.getD a.toNat 0 else 0
def putAll (m : List Pr) (l : List Pr) : List Pr := l.foldl (fun m p => mPut m p.1 p.2) m
theorem putAll_snoc (m l : List Pr) (p : Pr) : putAll m (l ++ [p]) = mPut (putAll m l) p.1 p.2 := by unfold putAll; rw [List.foldl_append]; rfl
def ptAt (l : List At) (n : Nat) : Option At := l.reverse.find? fun x => x.point == (n : Int)
def explB (m : List Pr) (e : Ev) : Option At → Bool
 | none => !(e.kind == 7) || memF m e.addr == e.value
 | some x => !x.odd && x.loads.all fun p => memF m p.1 == p.2
def goesM (m : List Pr) (e : Ev) : Option At → List Pr
 | none => if e.kind = 8 then mPut m e.addr e.value else m
 | some x => if x.com then putAll m x.stores else m
def hapB (h : List Ev) (l : List At) (n : Nat) : Bool := (ptAt l n).isSome || plainB (evA h n)
def memTo (h : List Ev) (l : List At) (m : List Pr) : Nat → List Pr
 | 0 => m
 | n + 1 => if hapB h l n then goesM (memTo h l m n) (evA h n) (ptAt l n) else memTo h l m n
def badAt (h : List Ev) (l : List At) (m : List Pr) (n : Nat) : Bool := hapB h l n && !explB (memTo h l m n) (evA h n) (ptAt l n)
end Go.Hs
namespace Go.Hs
theorem hear_pt (x : At) (n : Int) (e : Ev) : (hearA x n e).point = x.point ∨ ((hearA x n e).point = n ∧ (e.kind = 2 ∨ e.kind = 4 ∨ e.kind = 5)) := by
 unfold hearA loadA
 repeat' split
 all_goals first | exact .inl rfl | (right; exact ⟨rfl, by omega⟩)
theorem putS_keys {l : List Pr} {a v : Int} (h : (l.map (·.1)).Nodup) : ((putS l a v).map (·.1)).Nodup := by
 unfold putS
 split
 ·rename_i i hf
  obtain ⟨h1, h2, _⟩ := findN_some hf
  rw [List.map_set]
  have : (l.map (·.1)).set i a = l.map (·.1) := by
   apply List.ext_getElem?
   intro j
   rw [List.getElem?_set]
   by_cases e : i = j
   ·subst e
    rw [if_pos rfl, if_pos (by simpa using h1), List.getElem?_map, List.getElem?_eq_getElem h1]
    rw [List.getD_eq_getElem?_getD, List.getElem?_eq_getElem h1] at h2
    simp only [Option.getD_some] at h2
    simp [h2]
   ·rw [if_neg e]
  rw [this]; exact h
 ·rename_i hf
  rw [List.map_append, List.nodup_append]
  refine ⟨h, by simp, fun q hq r hr => ?_⟩
  simp only [List.map_cons, List.map_nil, List.mem_singleton] at hr
  subst hr
  obtain ⟨p, hp, rfl⟩ := List.mem_map.1 hq
  exact findN_none hf p hp
theorem hear_st {x : At} {n : Int} {e : Ev} (h : (x.stores.map (·.1)).Nodup) : ((hearA x n e).stores.map (·.1)).Nodup := by
 unfold hearA loadA
 repeat' split
 all_goals first | exact h | exact putS_keys h
theorem hear_ld {x : At} {n : Int} {e : Ev} (h : ∀ p ∈ x.loads, 0 ≤ p.1) (he : e.kind = 2 → 0 ≤ e.addr) : ∀ p ∈ (hearA x n e).loads, 0 ≤ p.1 := by
 unfold hearA loadA
 repeat' split
 all_goals first
  | exact h
  | (intro p hp
     rcases List.mem_append.1 hp with h1 | h1
     · exact h p h1
     · simp only [List.mem_singleton] at h1
       subst h1
       exact he ‹_›)
theorem hear_odd {x : At} {n : Int} {e : Ev} (h : x.odd = true → x.loads ≠ []) : (hearA x n e).odd = true → (hearA x n e).loads ≠ [] := by
 unfold hearA loadA
 repeat' split
 all_goals first
  | exact h
  | (rename_i hf
     intro _ hn
     have := (findN_some hf).1
     simp only at hn
     rw [hn] at this
     simp at this)
  | (intro _; simp)
  | skip
structure AtOk (h : List Ev) (n : Nat) (x : At) : Prop where
 pt : ∀ k : Nat, x.point = k → k < n ∧ ((evA h k).kind = 2 ∨ (evA h k).kind = 4 ∨ (evA h k).kind = 5)
 st : (x.stores.map (·.1)).Nodup
 ld : ∀ p ∈ x.loads, 0 ≤ p.1
 odd : x.odd = true → x.loads ≠ []
theorem AtOk.mono {h : List Ev} {n : Nat} {x : At} (k : AtOk h n x) : AtOk h (n + 1) x := ⟨fun m hm => ⟨by have := (k.pt m hm).1; omega, (k.pt m hm).2⟩, k.st, k.ld, k.odd⟩
theorem AtOk.hear {h : List Ev} {n : Nat} {x : At} (k : AtOk h n x) (he : (evA h n).kind = 2 → 0 ≤ (evA h n).addr) : AtOk h (n + 1) (hearA x n (evA h n)) := by
 refine ⟨fun m hm => ?_, hear_st k.st, hear_ld k.ld he, hear_odd k.odd⟩
 rcases hear_pt x n (evA h n) with h1 | ⟨h1, h2⟩
 ·rw [h1] at hm
  exact (k.mono).pt m hm
 ·rw [h1] at hm
  have : m = n := by omega
  subst this
  exact ⟨by omega, h2⟩
theorem may_addr {e : Ev} {x : Option At} (hm : mayB e x = true) (hw : wordB e = true) : 0 ≤ e.addr := by
 unfold mayB at hm
 split at hm
 ·cases hm
 ·rename_i g
  have : ¬ e.addr < 0 := fun hh => g (.inr (.inr (.inr (.inr ⟨hw, hh⟩))))
  omega
theorem sp_ats {h : List Ev} : ∀ {n : Nat} {s : St}, sp h n = some s → (∀ x ∈ s.out, AtOk h n x) ∧ ∀ (i j : Nat) (x y : At) (k : Nat), s.out[i]? = some x → s.out[j]? = some y → x.point = k → y.point = k → i = j
 | 0, s, hs => by simp only [sp] at hs; injection hs with hs; subst hs; simp
 | n + 1, s, hs => by
  simp only [sp] at hs
  split at hs
  ·rename_i s0 e h1 h2
   obtain ⟨ih, iu⟩ := sp_ats h1
   have ok := sp_ok h1
   have he : evA h n = e := evA_get h2
   unfold stepS at hs
   split at hs
   case isFalse => cases hs
   rename_i hm
   split at hs
   ·injection hs with hs; subst hs
    exact ⟨fun x hx => (ih x hx).mono, iu⟩
   ·cases ho : opGet s0.op e.core with
    | none =>
     rw [ho] at hs; simp only at hs; injection hs with hs; subst hs
     refine ⟨fun x hx => ?_, fun i j x y k hi hj hx hy => ?_⟩
     ·rcases List.mem_append.1 hx with h3 | h3
      ·exact (ih x h3).mono
      ·simp only [List.mem_singleton] at h3; subst h3
       exact ⟨fun m hm => by simp only [newA] at hm; omega, by simp [newA], by simp [newA], by simp [newA]⟩
     ·have nw : ∀ {i : Nat} {x : At}, (s0.out ++ [newA e n])[i]? = some x → x.point = k → s0.out[i]? = some x := fun {i} {x} hi hx => by
       by_cases hl : i < s0.out.length
       ·rw [List.getElem?_append_left hl] at hi; exact hi
       ·rw [List.getElem?_append_right (by omega)] at hi
        have hm := List.mem_of_getElem? hi
        simp only [List.mem_singleton] at hm
        subst hm
        simp only [newA] at hx
        omega
      exact iu i j x y k (nw hi hx) (nw hj hy) hx hy
    | some q =>
     rw [ho] at hs; simp only at hs; injection hs with hs; subst hs
     obtain ⟨y, y1, y2, y3, y4, y5, y6⟩ := ok.cur ho
     rw [y2]
     have hadr : (evA h n).kind = 2 → 0 ≤ (evA h n).addr := fun hk => by
      rw [he] at hk ⊢
      exact may_addr hm (by unfold wordB; rw [hk]; rfl)
     have hy := ih y (List.mem_of_getElem? y1)
     have hh := hy.hear hadr
     rw [he] at hh
     refine ⟨fun x hx => ?_, fun i j x z k hi hj hx hz => ?_⟩
     ·rcases List.mem_or_eq_of_mem_set hx with h3 | rfl
      ·exact (ih x h3).mono
      ·exact hh
     ·have key : ∀ {i : Nat} {x : At}, (s0.out.set q (hearA y n e))[i]? = some x → x.point = k → (i ≠ q ∧ s0.out[i]? = some x) ∨ (i = q ∧ (k = n ∨ y.point = k)) := fun {i} {x} hi hx => by
       rw [List.getElem?_set] at hi
       by_cases e1 : q = i
       ·subst e1
        rw [if_pos rfl, if_pos y6] at hi
        injection hi with hi
        subst hi
        right
        refine ⟨rfl, ?_⟩
        rcases hear_pt y n e with h3 | ⟨h3, _⟩
        ·right; rw [← h3]; exact hx
        ·left; rw [h3] at hx; omega
       ·rw [if_neg e1] at hi
        exact .inl ⟨fun e2 => e1 e2.symm, hi⟩
      have old : ∀ {i : Nat} {x : At}, s0.out[i]? = some x → x.point = k → k < n := fun {i} {x} hi hx => ((ih x (List.mem_of_getElem? hi)).pt k hx).1
      rcases key hi hx with ⟨a1, a2⟩ | ⟨a1, a2⟩ <;> rcases key hj hz with ⟨b1, b2⟩ | ⟨b1, b2⟩
      ·exact iu i j x z k a2 b2 hx hz
      ·exfalso
       have := old a2 hx
       rcases b2 with b2 | b2
       ·omega
       ·exact a1 (iu i q x y k a2 y1 hx b2)
      ·exfalso
       have := old b2 hz
       rcases a2 with a2 | a2
       ·omega
       ·exact b1 (iu j q z y k b2 y1 hz a2)
      ·omega
  ·cases hs
def putW (x : At) (a : Int) (k : Nat) (v : Int) : Int := if x.point = k ∧ x.com = true ∧ findI x.stores a ≥ 0 then (x.stores.getD (findI x.stores a).toNat (0, 0)).2 else v
def wrW (h : List Ev) (a : Int) (k : Nat) (v : Int) : Int := if (evA h k).kind = 8 ∧ (evA h k).addr = a then (evA h k).value else v
def wS (h : List Ev) (l : List At) (a : Int) (k : Nat) (v : Int) : Int := l.foldl (fun v x => putW x a k v) (wrW h a k v)
def wordTo (h : List Ev) (l : List At) (first : List Int) (a : Int) : Nat → Int
 | 0 => firF first a
 | k + 1 => wS h l a k (wordTo h l first a k)
def badX (h : List Ev) (l : List At) (first : List Int) (n : Nat) (x : At) : Bool := x.point == (n : Int) && x.loads.any fun p => x.odd || wordTo h l first p.1 n != p.2
def badE (h : List Ev) (l : List At) (first : List Int) (n : Nat) : Bool := ((evA h n).kind == 7 && wordTo h l first (evA h n).addr n != (evA h n).value) || l.any (badX h l first n)
def One (l : List At) (k : Nat) : Prop := ∀ (i j : Nat) (x y : At), l[i]? = some x → l[j]? = some y → x.point = k → y.point = k → i = j
theorem ptAt_some {l : List At} {k : Nat} {x : At} (h : ptAt l k = some x) : x ∈ l ∧ x.point = k := by
 unfold ptAt at h
 have h1 := List.mem_of_find?_eq_some h
 have h2 := List.find?_some h
 exact ⟨by simpa using h1, by simpa using h2⟩
theorem ptAt_none {l : List At} {k : Nat} (h : ptAt l k = none) : ∀ x ∈ l, x.point ≠ k := fun x hx e => by
 unfold ptAt at h
 have := List.find?_eq_none.1 h x (by simpa using hx)
 simp [e] at this
structure AtsOk (h : List Ev) (l : List At) : Prop where
 ok : ∀ x ∈ l, AtOk h h.length x
 one : ∀ k, One l k
theorem ats_of {h : List Ev} {l : List At} (hs : splitL h = some l) : AtsOk h l := by
 unfold splitL at hs
 cases hq : sp h h.length with
 | none => rw [hq] at hs; cases hs
 | some s =>
  rw [hq] at hs; injection hs with hs; subst hs
  exact ⟨(sp_ats hq).1, fun k i j x y a b c d => (sp_ats hq).2 i j x y k a b c d⟩
end Go.Hs
namespace Go.Hs
open Go.Gr
def namB (l : List Pr) (a : Int) : Bool := l.any fun p => p.1 == a
def outB (x : At) : Bool := !x.com || decide (x.point < 0)
def comL (l : List At) : List At := l.filter fun x => !outB x
def clsB (x y : At) : Bool := (x.stores.any fun p => namB y.loads p.1 || namB y.stores p.1) || y.stores.any fun p => namB x.loads p.1
def clsR (x y : At) : Bool := x.stores.any fun p => namB y.loads p.1 || namB y.stores p.1
theorem namB_mem {l : List Pr} {a : Int} : namB l a = true ↔ ∃ p ∈ l, p.1 = a := by
 unfold namB; rw [List.any_eq_true]; simp
theorem cls_eq (x y : At) : clsB x y = (clsR x y || clsR y x) := by
 have h : clsB x y = true ↔ (clsR x y || clsR y x) = true := by
  unfold clsB clsR
  simp only [Bool.or_eq_true, List.any_eq_true, namB_mem]
  constructor
  ·rintro (⟨p, hp, h⟩ | ⟨p, hp, h⟩)
   ·exact .inl ⟨p, hp, h⟩
   ·exact .inr ⟨p, hp, .inl h⟩
  ·rintro (⟨p, hp, h⟩ | ⟨p, hp, h | h⟩)
   ·exact .inl ⟨p, hp, h⟩
   ·exact .inr ⟨p, hp, h⟩
   ·obtain ⟨q, hq, e⟩ := h
    exact .inl ⟨q, hq, .inr ⟨p, hp, e.symm⟩⟩
 cases h1 : clsB x y <;> cases h2 : (clsR x y || clsR y x) <;> simp_all
def edC (x y : At) : Bool := decide (y.frm > x.to) || (decide (x.core = y.core) && decide (y.frm > x.frm)) || (decide (x.point < y.point) && clsB x y)
def edB (l : List At) (i k : Nat) : Bool := decide (i ≠ k) && edC (l.getD i default) (l.getD k default)
def edRow (l : List At) (i n : Nat) : List Ed := ((List.range n).filter (edB l i)).map fun k : Nat => ((i : Int), (k : Int))
def edAll (l : List At) (n : Nat) : List Ed := (List.range n).flatMap fun i => edRow l i l.length
def edL (l : List At) : List Ed := edAll l l.length
theorem edRow_succ (l : List At) (i n : Nat) : edRow l i (n + 1) = edRow l i n ++ if edB l i n then [((i : Int), (n : Int))] else [] := by
 unfold edRow
 rw [List.range_succ, List.filter_append, List.map_append]
 cases h : edB l i n <;> simp [List.filter, h]
theorem edRow_len (l : List At) (i n : Nat) : (edRow l i n).length ≤ n := by
 unfold edRow
 rw [List.length_map]
 exact Nat.le_trans (List.length_filter_le _ _) (by simp)
theorem edAll_succ (l : List At) (n : Nat) : edAll l (n + 1) = edAll l n ++ edRow l n l.length := by
 unfold edAll
 rw [List.range_succ, List.flatMap_append]; simp
theorem edAll_len (l : List At) (n : Nat) : (edAll l n).length ≤ n * l.length := by
 induction n with
 | zero => simp [edAll]
 | succ n ih =>
  rw [edAll_succ, List.length_append, Nat.succ_mul]
  have := edRow_len l n l.length
  omega
def comO (h : List Ev) : Option (List At) := match splitL h with
 | none => none
 | some l => if 500 < (comL l).length then none else some (comL l)
theorem comO_some {h : List Ev} {l : List At} (hs : comO h = some l) : ∃ l0, splitL h = some l0 ∧ l = comL l0 ∧ l.length ≤ 500 := by
 unfold comO at hs
 cases hq : splitL h with
 | none => rw [hq] at hs; cases hs
 | some l0 =>
  rw [hq] at hs
  simp only at hs
  split at hs
  ·cases hs
  ·injection hs with hs
   subst hs
   exact ⟨l0, rfl, rfl, by omega⟩
theorem comO_lens {h : List Ev} {l : List At} (hs : comO h = some l) : ∀ x ∈ l, x.loads.length ≤ h.length ∧ x.stores.length ≤ h.length := by
 obtain ⟨l0, h1, rfl, _⟩ := comO_some hs
 intro x hx
 have hx := (List.mem_filter.1 hx).1
 unfold splitL at h1
 cases hq : sp h h.length with
 | none => rw [hq] at h1; cases h1
 | some s =>
  rw [hq] at h1; injection h1 with h1
  have h1 : s.out = l0 := h1
  rw [← h1] at hx
  have := sp_lens hq x hx
  exact ⟨this.1, this.2.1⟩
def exM (l : List At) : List Pr → List Int → Bool
 | _, [] => true
 | m, n :: o => ((l.getD n.toNat default).loads.all fun p => memF m p.1 == p.2) && exM l (putAll m (l.getD n.toNat default).stores) o
def lastV (w : Int) (v : Int) (ss : List Pr) : Int := ss.foldl (fun v s => if s.1 = w then s.2 else v) v
theorem memF_putAll (ss : List Pr) (m : List Pr) (w : Int) : memF (putAll m ss) w = lastV w (memF m w) ss := by
 induction ss generalizing m with
 | nil => rfl
 | cons s ss ih =>
  have : putAll m (s :: ss) = putAll (mPut m s.1 s.2) ss := rfl
  rw [this, ih, memF_put]
  unfold lastV
  rw [List.foldl_cons]
  congr 1
  by_cases h : s.1 = w
  ·rw [if_pos h.symm, if_pos h]
  ·rw [if_neg (fun e => h e.symm), if_neg h]
theorem putAll_app (m a b : List Pr) : putAll m (a ++ b) = putAll (putAll m a) b := by
 unfold putAll; rw [List.foldl_append]
def stF (l : List At) (o : List Int) (i : Nat) : List Pr := (o.take i).flatMap fun n => (l.getD n.toNat default).stores
def okO (o : List Int) (n : Nat) : Prop := o.length = n ∧ o.Nodup ∧ ∀ x ∈ o, 0 ≤ x ∧ x < (n : Int)
instance (o : List Int) (n : Nat) : Decidable (okO o n) := by unfold okO; exact inferInstance
theorem inc_ge {s : List Int} (h : s.Pairwise (· < ·)) (h0 : ∀ x ∈ s, 0 ≤ x) : ∀ (i : Nat) (hi : i < s.length), (i : Int) ≤ s[i]
 | 0, hi => h0 _ (List.getElem_mem hi)
 | i + 1, hi => by
  have h1 := inc_ge h h0 i (by omega)
  have h2 := List.pairwise_iff_getElem.1 h i (i + 1) (by omega) hi (by omega)
  omega
theorem inc_le {s : List Int} {n : Int} (h : s.Pairwise (· < ·)) (h0 : ∀ x ∈ s, x < n) : ∀ (d i : Nat) (hi : i < s.length), i + d + 1 = s.length → s[i] + d < n
 | 0, i, hi, _ => by have := h0 _ (List.getElem_mem hi); omega
 | d + 1, i, hi, e => by
  have h1 := inc_le h h0 d (i + 1) (by omega) (by omega)
  have h2 := List.pairwise_iff_getElem.1 h i (i + 1) hi (by omega) (by omega)
  omega
theorem srtI_perm (o : List Int) : (srtI o).Perm o := List.mergeSort_perm _ _
theorem okO_srt {o : List Int} {n : Nat} (hn : o.length = n) : okO o n ↔ ∀ (i : Nat) (hi : i < (srtI o).length), (srtI o)[i] = (i : Int) := by
 have hl := srtI_len o
 constructor
 ·rintro ⟨_, hd, hb⟩ i hi
  have hp := srtI_perm o
  have hd2 : (srtI o).Nodup := hp.nodup_iff.2 hd
  have hup : (srtI o).Pairwise (· < ·) := by
   have h1 := srtI_up o
   refine (h1.and hd2).imp ?_
   rintro a b ⟨h1, h2⟩
   omega
  have h1 := inc_ge hup (fun x hx => (hb x (hp.mem_iff.1 hx)).1) i hi
  have h2 := inc_le hup (fun x hx => (hb x (hp.mem_iff.1 hx)).2) ((srtI o).length - 1 - i) i hi (by omega)
  omega
 ·intro h
  have hp := srtI_perm o
  refine ⟨hn, hp.nodup_iff.1 ?_, fun x hx => ?_⟩
  ·rw [List.Nodup, List.pairwise_iff_getElem]
   intro i j hi hj hij
   rw [h i hi, h j hj]; omega
  ·obtain ⟨i, hi, e⟩ := List.mem_iff_getElem.1 (hp.mem_iff.2 hx)
   rw [← e, h i hi]; omega
def exA (h : List Ev) (first : List Int) (o : List Int) : Bool × Int := match comO h with
 | none => (false, 120)
 | some l => if h.any plainB = true then (false, 120) else if okO o l.length then (exM l (begL first) o, 0) else (false, 2)
end Go.Hs
