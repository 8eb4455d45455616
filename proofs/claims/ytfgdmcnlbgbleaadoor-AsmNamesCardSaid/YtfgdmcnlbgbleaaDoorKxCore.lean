/- The runner, part 1: values, entries of memory, and what they say of a world. (The runner walks closed code by the kernel.) -/
import Derived.Test.YtfgdmcnlbgbleaaDoorSxRange
set_option linter.unusedSimpArgs false
set_option linter.unusedVariables false
set_option linter.unnecessarySimpa false
namespace Go.Kx
open Go
open Go.Sx (Grow Keep XC XS XI XK CK NK cmp theOrder Jump Ran)

inductive Tr (α : Type) where
  | e
  | n (x : Option α) (l r : Tr α)

def Tr.get {α : Type} : Tr α → Nat → Option α
  | .e, _ => none
  | .n x l r, i => match i with
    | 0 => x
    | k + 1 => match Nat.mod k 2 with
      | 0 => l.get (Nat.div k 2)
      | _ + 1 => r.get (Nat.div k 2)

def Tr.set {α : Type} : Nat → Tr α → Nat → α → Option (Tr α)
  | 0, _, _, _ => none
  | f + 1, .e, i, y => match i with
    | 0 => some (.n (some y) .e .e)
    | k + 1 => match Nat.mod k 2 with
      | 0 => (match Tr.set f .e (Nat.div k 2) y with | some l => some (.n none l .e) | none => none)
      | _ + 1 => (match Tr.set f .e (Nat.div k 2) y with | some r => some (.n none .e r) | none => none)
  | f + 1, .n x l r, i, y => match i with
    | 0 => some (.n (some y) l r)
    | k + 1 => match Nat.mod k 2 with
      | 0 => (match Tr.set f l (Nat.div k 2) y with | some l => some (.n x l r) | none => none)
      | _ + 1 => (match Tr.set f r (Nat.div k 2) y with | some r => some (.n x l r) | none => none)

theorem Tr.get_e {α : Type} (i : Nat) : (Tr.e : Tr α).get i = none := rfl

theorem half_ne {k j : Nat} (h : k ≠ j) (hm : k % 2 = j % 2) : Nat.div k 2 ≠ Nat.div j 2 := by show k / 2 ≠ j / 2; omega

theorem Tr.get_set' {α : Type} : ∀ (f : Nat) (t t' : Tr α) (i : Nat) (y : α), Tr.set f t i y = some t' → ∀ j, t'.get j = if j = i then some y else t.get j
  | 0, _, _, _, _, h => by simp [Tr.set] at h
  | f + 1, .e, t', i, y, h => by
    intro j
    cases i with
    | zero =>
      simp only [Tr.set, Option.some.injEq] at h; subst h
      cases j with
      | zero => simp [Tr.get]
      | succ j => simp only [Tr.get]; split <;> simp
    | succ k =>
      simp only [Tr.set] at h
      split at h
      · rename_i hk
        split at h
        · rename_i l hl
          injection h with h; subst h
          have ih := Tr.get_set' f _ _ _ _ hl
          cases j with
          | zero => simp [Tr.get]
          | succ j =>
            simp only [Tr.get]
            split
            · rename_i hj
              rw [ih]
              have hk : k % 2 = 0 := hk
              have hj : j % 2 = 0 := hj
              by_cases e : j = k
              · subst e; simp
              · rw [if_neg (half_ne e (by omega)), if_neg (by omega)]; try rfl
            · rename_i m hj
              have hk : k % 2 = 0 := hk
              have hj : j % 2 = m + 1 := hj
              rw [if_neg (by omega)]; try rfl
        · cases h
      · rename_i m0 hk
        split at h
        · rename_i l hl
          injection h with h; subst h
          have ih := Tr.get_set' f _ _ _ _ hl
          cases j with
          | zero => simp [Tr.get]
          | succ j =>
            have hk : k % 2 = m0 + 1 := hk
            simp only [Tr.get]
            split
            · rename_i hj
              have hj : j % 2 = 0 := hj
              rw [if_neg (by omega)]; try rfl
            · rename_i m hj
              rw [ih]
              have hj : j % 2 = m + 1 := hj
              by_cases e : j = k
              · subst e; simp
              · rw [if_neg (half_ne e (by omega)), if_neg (by omega)]; try rfl
        · cases h
  | f + 1, .n x l r, t', i, y, h => by
    intro j
    cases i with
    | zero =>
      simp only [Tr.set, Option.some.injEq] at h; subst h
      cases j with
      | zero => simp [Tr.get]
      | succ j => simp only [Tr.get]; split <;> simp
    | succ k =>
      simp only [Tr.set] at h
      split at h
      · rename_i hk
        split at h
        · rename_i l' hl
          injection h with h; subst h
          have ih := Tr.get_set' f _ _ _ _ hl
          cases j with
          | zero => simp [Tr.get]
          | succ j =>
            simp only [Tr.get]
            split
            · rename_i hj
              rw [ih]
              have hk : k % 2 = 0 := hk
              have hj : j % 2 = 0 := hj
              by_cases e : j = k
              · subst e; simp
              · rw [if_neg (half_ne e (by omega)), if_neg (by omega)]
            · rename_i m hj
              have hk : k % 2 = 0 := hk
              have hj : j % 2 = m + 1 := hj
              rw [if_neg (by omega)]
        · cases h
      · rename_i m0 hk
        split at h
        · rename_i l' hl
          injection h with h; subst h
          have ih := Tr.get_set' f _ _ _ _ hl
          cases j with
          | zero => simp [Tr.get]
          | succ j =>
            have hk : k % 2 = m0 + 1 := hk
            simp only [Tr.get]
            split
            · rename_i hj
              have hj : j % 2 = 0 := hj
              rw [if_neg (by omega)]
            · rename_i m hj
              rw [ih]
              have hj : j % 2 = m + 1 := hj
              by_cases e : j = k
              · subst e; simp
              · rw [if_neg (half_ne e (by omega)), if_neg (by omega)]
        · cases h

theorem Tr.get_set {α : Type} (f : Nat) {t t' : Tr α} {i : Nat} {y : α} (h : Tr.set f t i y = some t') (j : Nat) : t'.get j = if j = i then some y else t.get j := Tr.get_set' f t t' i y h j

inductive KV where
  | u
  | v (x : Value)
  | p (i off : Nat)
  | q (i ver off : Nat)
  | s (i off n c : Nat)
  | w (i ver o n : Nat)
  | m (i : Nat)
  | y (i : Nat)
  | a (l : List KV)
  | t (l : List KV)
  | f (fn : Fn) (first caps : List KV)
  | i (t : TypeId) (x : KV)
  | z (i off n : Nat)

inductive KO where
  | cells (t : TypeId) (l : List KV)
  | grow (t : TypeId) (sz ver : Nat) (l : List KV)
  | map (l : List (Value × KV))
  | str (s : ByteArray) (pos : Nat)
  | lp (nt : Nat) (F : Tr KV) (ps : List Nat) (as bd : XC) (st : LoopState) (pe : Option Jump)
  | df
  | frz (t : TypeId) (l : List KV)
  | gone

structure Gh where
  g : Nat
  c : Nat
  b : Nat

abbrev KH := Nat → Option KO

def KO.fix : KO → Bool
  | .grow .. => false
  | _ => true

def KO.fp (e : KO) (G : Gh) : Option Nat := match e with
  | .gone => none
  | _ => some G.g

def upd {α : Type} (f : Nat → α) (i : Nat) (x : α) : Nat → α := fun j => if j = i then x else f j
theorem upd_self {α : Type} (f : Nat → α) (i : Nat) (x : α) : upd f i x i = x := by simp [upd]
theorem upd_ne {α : Type} (f : Nat → α) {i j : Nat} (x : α) (h : j ≠ i) : upd f i x j = f j := by simp [upd, h]

def Fixd (h : KH) (i : Nat) : Prop := ∃ e, h i = some e ∧ e.fix = true

mutual
def Is (h : KH) (γ : Nat → Gh) : KV → Value → Prop
  | .u, _ => True
  | .v x, v => v = x
  | .p i off, v => Fixd h i ∧ v = .pointer (some ⟨(γ i).g, off, none⟩)
  | .q i ver off, v => (∃ A, v = .pointer A) ∧ ((∃ t sz ver' l, h i = some (.grow t sz ver' l) ∧ ver ≤ ver' ∧ (ver' = ver → v = .pointer (some ⟨(γ i).g, (γ i).b + off, none⟩))) ∨ h i = some .gone)
  | .s i off n c, v => Fixd h i ∧ v = .slice (some ⟨(γ i).g, off, none⟩) n c
  | .w i ver o n, v => (∃ A c, v = .slice A n c) ∧ ((∃ t sz ver' l, h i = some (.grow t sz ver' l) ∧ ver ≤ ver' ∧
      (ver' = ver → ∃ A, v = .slice (some A) n ((γ i).c - o) ∧ o + n ≤ (γ i).c ∧ (o < (γ i).c → A = ⟨(γ i).g, (γ i).b + o * sz, none⟩))) ∨ h i = some .gone)
  | .m i, v => Fixd h i ∧ v = .map (some (γ i).g)
  | .y i, v => Fixd h i ∧ v = .func (.yield (γ i).g) #[] #[]
  | .a l, v => ∃ vs, IsL h γ l vs ∧ v = .agg vs.toArray
  | .t l, v => ∃ vs, IsL h γ l vs ∧ v = .tuple vs.toArray
  | .f fn x y, v => ∃ xs ys, IsL h γ x xs ∧ IsL h γ y ys ∧ v = .func fn xs.toArray ys.toArray
  | .i t x, v => ∃ u, Is h γ x u ∧ v = .iface t u
  | .z i off n, v => Fixd h i ∧ ∃ c, v = .slice (some ⟨(γ i).g, off, none⟩) n c
def IsL (h : KH) (γ : Nat → Gh) : List KV → List Value → Prop
  | [], vs => vs = []
  | s :: l, vs => ∃ v r, Is h γ s v ∧ IsL h γ l r ∧ vs = v :: r
end

theorem IsL.nil {h : KH} {γ : Nat → Gh} : IsL h γ [] [] := by simp [IsL]
theorem IsL.cons {h : KH} {γ : Nat → Gh} {k : KV} {v : Value} {l : List KV} {r : List Value} (h1 : Is h γ k v) (h2 : IsL h γ l r) : IsL h γ (k :: l) (v :: r) := by
  simp only [IsL]; exact ⟨v, r, h1, h2, rfl⟩
theorem IsL.length {h : KH} {γ : Nat → Gh} : ∀ {l : List KV} {vs : List Value}, IsL h γ l vs → vs.length = l.length
  | [], _, k => by simp [IsL] at k; simp [k]
  | s :: l, _, k => by simp only [IsL] at k; obtain ⟨v, r, _, hr, rfl⟩ := k; simp [IsL.length hr]
theorem IsL.get {h : KH} {γ : Nat → Gh} : ∀ {l : List KV} {vs : List Value} {j : Nat} {k : KV}, IsL h γ l vs → l[j]? = some k → ∃ v, vs[j]? = some v ∧ Is h γ k v
  | [], _, j, k, _, hj => by simp at hj
  | s :: l, _, 0, k, hl, hj => by
    simp only [IsL] at hl; obtain ⟨v, r, hv, hr, rfl⟩ := hl
    simp at hj; subst hj; exact ⟨v, by simp, hv⟩
  | s :: l, _, j + 1, k, hl, hj => by
    simp only [IsL] at hl; obtain ⟨v, r, hv, hr, rfl⟩ := hl
    obtain ⟨u, hu, hi⟩ := IsL.get hr (j := j) (by simpa using hj)
    exact ⟨u, by simpa using hu, hi⟩
theorem IsL.append {h : KH} {γ : Nat → Gh} : ∀ {l m : List KV} {vs us : List Value}, IsL h γ l vs → IsL h γ m us → IsL h γ (l ++ m) (vs ++ us)
  | [], _, _, _, k, k2 => by simp [IsL] at k; subst k; simpa using k2
  | s :: l, _, _, _, k, k2 => by
    simp only [IsL] at k; obtain ⟨v, r, hv, hr, rfl⟩ := k
    exact IsL.cons hv (IsL.append hr k2)
theorem IsL.take {h : KH} {γ : Nat → Gh} : ∀ (n : Nat) {l : List KV} {vs : List Value}, IsL h γ l vs → IsL h γ (l.take n) (vs.take n)
  | 0, _, _, _ => by simp [IsL]
  | n + 1, [], _, k => by simp [IsL] at k; subst k; simp [IsL]
  | n + 1, s :: l, _, k => by
    simp only [IsL] at k; obtain ⟨v, r, hv, hr, rfl⟩ := k
    exact IsL.cons hv (IsL.take n hr)
theorem IsL.drop {h : KH} {γ : Nat → Gh} : ∀ (n : Nat) {l : List KV} {vs : List Value}, IsL h γ l vs → IsL h γ (l.drop n) (vs.drop n)
  | 0, _, _, k => k
  | n + 1, [], _, k => by simp [IsL] at k; subst k; simp [IsL]
  | n + 1, s :: l, _, k => by
    simp only [IsL] at k; obtain ⟨v, r, hv, hr, rfl⟩ := k
    exact IsL.drop n hr
theorem IsL.vals {h : KH} {γ : Nat → Gh} : ∀ (l : List Value), IsL h γ (l.map .v) l
  | [] => IsL.nil
  | v :: l => IsL.cons (by simp [Is]) (IsL.vals l)

structure Ext (h : KH) (γ : Nat → Gh) (h' : KH) (γ' : Nat → Gh) : Prop where
  fix : ∀ i, Fixd h i → Fixd h' i ∧ (γ' i).g = (γ i).g
  grow : ∀ i t sz ver l, h i = some (.grow t sz ver l) → (∃ t' ver' l', h' i = some (.grow t' sz ver' l') ∧ ver ≤ ver' ∧ (ver' = ver → γ' i = γ i)) ∨ h' i = some .gone
  gone : ∀ i, h i = some .gone → h' i = some .gone

theorem Ext.refl (h : KH) (γ : Nat → Gh) : Ext h γ h γ := ⟨fun _ k => ⟨k, rfl⟩, fun _ _ _ _ _ k => .inl ⟨_, _, _, k, Nat.le_refl _, fun _ => rfl⟩, fun _ k => k⟩
theorem Ext.trans {h1 h2 h3 : KH} {g1 g2 g3 : Nat → Gh} (x : Ext h1 g1 h2 g2) (y : Ext h2 g2 h3 g3) : Ext h1 g1 h3 g3 where
  fix i k := ⟨(y.fix i (x.fix i k).1).1, ((y.fix i (x.fix i k).1).2).trans (x.fix i k).2⟩
  grow i t sz ver l k := by
    rcases x.grow i t sz ver l k with ⟨t1, v1, l1, e1, le1, q1⟩ | hg
    · rcases y.grow i t1 sz v1 l1 e1 with ⟨t2, v2, l2, e2, le2, q2⟩ | hg
      · exact .inl ⟨t2, v2, l2, e2, Nat.le_trans le1 le2, fun e => (q2 (by omega)).trans (q1 (by omega))⟩
      · exact .inr hg
    · exact .inr (y.gone i hg)
  gone i k := y.gone i (x.gone i k)

mutual
theorem Is.ext {h h' : KH} {γ γ' : Nat → Gh} (x : Ext h γ h' γ') : ∀ (k : KV) {v : Value}, Is h γ k v → Is h' γ' k v
  | .u, _, _ => by simp [Is]
  | .v _, _, k => by simpa [Is] using k
  | .p i off, _, k => by simp only [Is] at *; rw [(x.fix i k.1).2]; exact ⟨(x.fix i k.1).1, k.2⟩
  | .q i ver off, _, k => by
    simp only [Is] at *
    obtain ⟨hs, ⟨t, sz, ver', l, he, hle, hv⟩ | hg⟩ := k
    · rcases x.grow i t sz ver' l he with ⟨t1, v1, l1, e1, le1, q1⟩ | hg
      · refine ⟨hs, .inl ⟨t1, sz, v1, l1, e1, Nat.le_trans hle le1, fun e => ?_⟩⟩
        rw [q1 (by omega)]; exact hv (by omega)
      · exact ⟨hs, .inr hg⟩
    · exact ⟨hs, .inr (x.gone i hg)⟩
  | .s i off n c, _, k => by simp only [Is] at *; rw [(x.fix i k.1).2]; exact ⟨(x.fix i k.1).1, k.2⟩
  | .w i ver o n, _, k => by
    simp only [Is] at *
    obtain ⟨hs, ⟨t, sz, ver', l, he, hle, hv⟩ | hg⟩ := k
    · rcases x.grow i t sz ver' l he with ⟨t1, v1, l1, e1, le1, q1⟩ | hg
      · refine ⟨hs, .inl ⟨t1, sz, v1, l1, e1, Nat.le_trans hle le1, fun e => ?_⟩⟩
        rw [q1 (by omega)]; exact hv (by omega)
      · exact ⟨hs, .inr hg⟩
    · exact ⟨hs, .inr (x.gone i hg)⟩
  | .m i, _, k => by simp only [Is] at *; rw [(x.fix i k.1).2]; exact ⟨(x.fix i k.1).1, k.2⟩
  | .y i, _, k => by simp only [Is] at *; rw [(x.fix i k.1).2]; exact ⟨(x.fix i k.1).1, k.2⟩
  | .a l, _, k => by simp only [Is] at *; obtain ⟨vs, hl, hv⟩ := k; exact ⟨vs, IsL.ext x l hl, hv⟩
  | .t l, _, k => by simp only [Is] at *; obtain ⟨vs, hl, hv⟩ := k; exact ⟨vs, IsL.ext x l hl, hv⟩
  | .f fn a b, _, k => by simp only [Is] at *; obtain ⟨p, q, hp, hq, hv⟩ := k; exact ⟨p, q, IsL.ext x a hp, IsL.ext x b hq, hv⟩
  | .i t a, _, k => by simp only [Is] at *; obtain ⟨u, hu, hv⟩ := k; exact ⟨u, Is.ext x a hu, hv⟩
  | .z i off n, _, k => by simp only [Is] at *; rw [(x.fix i k.1).2]; exact ⟨(x.fix i k.1).1, k.2⟩
theorem IsL.ext {h h' : KH} {γ γ' : Nat → Gh} (x : Ext h γ h' γ') : ∀ (l : List KV) {vs : List Value}, IsL h γ l vs → IsL h' γ' l vs
  | [], _, k => by simpa [IsL] using k
  | s :: l, _, k => by
    simp only [IsL] at *; obtain ⟨v, r, hv, hr, e⟩ := k
    exact ⟨v, r, Is.ext x s hv, IsL.ext x l hr, e⟩
end

def fg (F : Tr KV) (d : Nat) : KV := match F.get d with | some v => v | none => .u

def EntryOk (P : Program) (h : KH) (γ : Nat → Gh) (hp : Nat → Option Obj) (G : Gh) : KO → Prop
  | .cells t l => ∃ c : Array Value, hp G.g = some (.cells c t (0, 0)) ∧ IsL h γ l c.toList
  | .grow t sz ver l => ∃ cur : Array Value, hp G.g = some (.cells cur t (0, 0)) ∧ l.length ≤ G.c * sz ∧ G.b + G.c * sz = cur.size ∧ (G.c ≤ maxLen ∧ 0 < G.c ∧ (Nat.mod ver 2 = 0 → G.b = 0)) ∧ IsL h γ l ((cur.toList.drop G.b).take l.length)
  | .map l => ∃ (es : Array MapEntry) (ck : Nat), hp G.g = some (.map es ck) ∧ es.toList.map (·.key) = l.map (·.1) ∧ IsL h γ (l.map (·.2)) (es.toList.map (·.val))
  | .str s pos => hp G.g = some (.stringIter s pos)
  | .lp nt F ps as bd st pe => ∃ rec : Loop, hp G.g = some (.loop rec) ∧ rec.state = st ∧ rec.pending = pe.map Jump.code ∧ rec.params.toList = ps ∧ cmp P theOrder nt rec.assign = some as ∧ cmp P theOrder nt rec.body = some bd ∧
      rec.tmps.size = nt ∧ ∀ d, Is h γ (fg F d) (rec.tmps.getD d undef)
  | .df => hp G.g = some (.deferred (some []))
  | .frz t l => ∃ (c : Array Value) (fz : Nat × Nat), hp G.g = some (.cells c t fz) ∧ l.length ≤ c.size ∧ IsL h γ l (c.toList.take l.length)
  | .gone => True

theorem EntryOk.mono {P : Program} {h h' : KH} {γ γ' : Nat → Gh} {hp hp' : Nat → Option Obj} {G : Gh} {e : KO} (x : Ext h γ h' γ') (hh : ∀ g, e.fp G = some g → hp' g = hp g) (k : EntryOk P h γ hp G e) : EntryOk P h' γ' hp' G e := by
  cases e with
  | cells t l => obtain ⟨c, hc, hl⟩ := k; exact ⟨c, (hh _ rfl).trans hc, hl.ext x⟩
  | grow t sz ver l =>
    obtain ⟨cur, hc, r1, r2, r3, hl⟩ := k
    exact ⟨cur, (hh _ rfl).trans hc, r1, r2, r3, hl.ext x⟩
  | map l => obtain ⟨es, ck, hc, r1, hl⟩ := k; exact ⟨es, ck, (hh _ rfl).trans hc, r1, hl.ext x⟩
  | str s pos => exact (hh _ rfl).trans k
  | lp nt F ps as bd st pe => obtain ⟨rec, hc, r1, r2, r3, r4, r5, r6, r7⟩ := k; exact ⟨rec, (hh _ rfl).trans hc, r1, r2, r3, r4, r5, r6, fun d => (r7 d).ext x⟩
  | df => exact (hh _ rfl).trans k
  | frz t l => obtain ⟨c, fz, hc, r1, hl⟩ := k; exact ⟨c, fz, (hh _ rfl).trans hc, r1, hl.ext x⟩
  | gone => trivial

structure KE where
  b : World
  N : Nat
  G : List (Nat × List Value)

def KE.Ok (E : KE) : Prop := ∀ g l, (g, l) ∈ E.G → g < E.N ∧ ∀ j u, l[j]? = some u → E.b.cell? ⟨g, j, none⟩ = some u

structure HeapOk (E : KE) (P : Program) (h : KH) (γ : Nat → Gh) (W : World) : Prop where
  keep : Keep (· < E.N) E.b W
  floor : E.N ≤ W.heap.size
  ents : ∀ i e, h i = some e → EntryOk P h γ (fun g => W.heap[g]?) (γ i) e
  fresh : ∀ i e g, h i = some e → e.fp (γ i) = some g → E.N ≤ g ∧ g < W.heap.size
  dist : ∀ i j e e' g, i ≠ j → h i = some e → h j = some e' → e.fp (γ i) = some g → e'.fp (γ j) ≠ some g

section
variable {E : KE} {P : Program} {h : KH} {γ : Nat → Gh} {W W' : World}

theorem HeapOk.drawn (k : HeapOk E P h γ W) (hh : W'.heap = W.heap) (ho : W'.os = W.os) (ht : W'.tape = W.tape) (hu : W'.output = W.output) : HeapOk E P h γ W' where
  keep := ⟨ho.trans k.keep.os, ht.trans k.keep.tape, hu.trans k.keep.output, by rw [hh]; exact k.keep.size, fun j hj => by rw [hh]; exact k.keep.block j hj⟩
  floor := by rw [hh]; exact k.floor
  ents i e hi := by rw [hh]; exact k.ents i e hi
  fresh i e g hi hf := by rw [hh]; exact k.fresh i e g hi hf
  dist := k.dist

theorem HeapOk.put (k : HeapOk E P h γ W) {i : Nat} {e' : KO} {G' : Gh} (x : Ext h γ (upd h i (some e')) (upd γ i G'))
    (hs : W.heap.size ≤ W'.heap.size) (ho : W'.os = W.os) (ht : W'.tape = W.tape) (hu : W'.output = W.output)
    (hw : ∀ j, j < W.heap.size → (∀ e, h i = some e → e.fp (γ i) ≠ some j) → W'.heap[j]? = W.heap[j]?)
    (hf : ∀ g, e'.fp G' = some g → ((∃ e, h i = some e ∧ e.fp (γ i) = some g) ∨ W.heap.size ≤ g) ∧ g < W'.heap.size)
    (he : EntryOk P (upd h i (some e')) (upd γ i G') (fun g => W'.heap[g]?) G' e') : HeapOk E P (upd h i (some e')) (upd γ i G') W' where
  keep := k.keep.trans ⟨ho, ht, hu, hs, fun j hj => hw j (Nat.lt_of_lt_of_le hj k.floor) fun e he hfp => by have := (k.fresh i e j he hfp).1; omega⟩
  floor := Nat.le_trans k.floor hs
  ents j e1 hj := by
    by_cases hij : j = i
    · subst hij; rw [upd_self] at hj ⊢; injection hj with hj; subst hj; exact he
    · rw [upd_ne _ _ hij] at hj ⊢
      exact (k.ents j e1 hj).mono x fun g hg => hw g (k.fresh j e1 g hj hg).2 fun e hi hfp => k.dist i j e e1 g (Ne.symm hij) hi hj hfp hg
  fresh j e1 g hj hg := by
    by_cases hij : j = i
    · subst hij; rw [upd_self] at hj hg; injection hj with hj; subst hj
      obtain ⟨h1 | h1, h2⟩ := hf g hg
      · obtain ⟨e, he1, he2⟩ := h1; exact ⟨(k.fresh j e g he1 he2).1, h2⟩
      · exact ⟨by have := k.floor; omega, h2⟩
    · rw [upd_ne _ _ hij] at hj hg
      have := k.fresh j e1 g hj hg; exact ⟨this.1, by omega⟩
  dist j l e1 e2 g hjl h1 h2 hg1 hg2 := by
    by_cases hij : j = i
    · subst hij
      rw [upd_self] at h1 hg1; injection h1 with h1; subst h1
      rw [upd_ne _ _ (Ne.symm hjl)] at h2 hg2
      obtain ⟨h3 | h3, _⟩ := hf g hg1
      · obtain ⟨e, he1, he2⟩ := h3; exact k.dist j l e e2 g hjl he1 h2 he2 hg2
      · have := (k.fresh l e2 g h2 hg2).2; omega
    · rw [upd_ne _ _ hij] at h1 hg1
      by_cases hil : l = i
      · subst hil
        rw [upd_self] at h2 hg2; injection h2 with h2; subst h2
        obtain ⟨h3 | h3, _⟩ := hf g hg2
        · obtain ⟨e, he1, he2⟩ := h3; exact k.dist j l e1 e g hjl h1 he1 hg1 he2
        · have := (k.fresh j e1 g h1 hg1).2; omega
      · rw [upd_ne _ _ hil] at h2 hg2
        exact k.dist j l e1 e2 g hjl h1 h2 hg1 hg2

theorem Ext.new {i : Nat} (hi : h i = none) (e : KO) (G : Gh) : Ext h γ (upd h i (some e)) (upd γ i G) where
  fix j k := by
    obtain ⟨e1, h1, h2⟩ := k
    have : j ≠ i := by intro q; subst q; rw [hi] at h1; cases h1
    exact ⟨⟨e1, by rw [upd_ne _ _ this]; exact h1, h2⟩, by rw [upd_ne _ _ this]⟩
  grow j t sz ver l k := by
    have : j ≠ i := by intro q; subst q; rw [hi] at k; cases k
    exact .inl ⟨t, ver, l, by rw [upd_ne _ _ this]; exact k, Nat.le_refl _, fun _ => by rw [upd_ne _ _ this]⟩
  gone j k := by
    have : j ≠ i := by intro q; subst q; rw [hi] at k; cases k
    rw [upd_ne _ _ this]; exact k
theorem Ext.fixd {i : Nat} {e e' : KO} (hi : h i = some e) (h1 : e.fix = true) (h2 : e'.fix = true) {G : Gh} (hG : G.g = (γ i).g) (hn : e ≠ .gone := by nofun) : Ext h γ (upd h i (some e')) (upd γ i G) where
  fix j k := by
    by_cases q : j = i
    · subst q; rw [upd_self]; exact ⟨⟨e', upd_self _ _ _, h2⟩, hG⟩
    · obtain ⟨e1, h3, h4⟩ := k
      exact ⟨⟨e1, by rw [upd_ne _ _ q]; exact h3, h4⟩, by rw [upd_ne _ _ q]⟩
  grow j t sz ver l k := by
    have : j ≠ i := by intro q; subst q; rw [hi] at k; injection k with k; subst k; simp [KO.fix] at h1
    exact .inl ⟨t, ver, l, by rw [upd_ne _ _ this]; exact k, Nat.le_refl _, fun _ => by rw [upd_ne _ _ this]⟩
  gone j k := by
    have : j ≠ i := by intro q; subst q; rw [hi] at k; injection k with k; exact hn k
    rw [upd_ne _ _ this]; exact k
theorem Ext.grown {i : Nat} {t t' : TypeId} {sz ver ver' : Nat} {l l' : List KV} (hi : h i = some (.grow t sz ver l)) (hv : ver ≤ ver') {G : Gh} (hG : ver' = ver → G = γ i) : Ext h γ (upd h i (some (.grow t' sz ver' l'))) (upd γ i G) where
  fix j k := by
    obtain ⟨e1, h1, h2⟩ := k
    have : j ≠ i := by intro q; subst q; rw [hi] at h1; injection h1 with h1; subst h1; simp [KO.fix] at h2
    exact ⟨⟨e1, by rw [upd_ne _ _ this]; exact h1, h2⟩, by rw [upd_ne _ _ this]⟩
  grow j t1 sz1 ver1 l1 k := by
    by_cases q : j = i
    · subst q; rw [hi] at k; injection k with k; injection k with q1 q2 q3 q4
      subst q1; subst q2; subst q3; subst q4
      exact .inl ⟨t', ver', l', upd_self _ _ _, hv, fun e => by rw [upd_self]; exact hG e⟩
    · exact .inl ⟨t1, ver1, l1, by rw [upd_ne _ _ q]; exact k, Nat.le_refl _, fun _ => by rw [upd_ne _ _ q]⟩
  gone j k := by
    have : j ≠ i := by intro q; subst q; rw [hi] at k; cases k
    rw [upd_ne _ _ this]; exact k
theorem Ext.bury {i : Nat} {t : TypeId} {sz ver : Nat} {l : List KV} (hi : h i = some (.grow t sz ver l)) (G : Gh) : Ext h γ (upd h i (some .gone)) (upd γ i G) where
  fix j k := by
    obtain ⟨e1, h1, h2⟩ := k
    have : j ≠ i := by intro q; subst q; rw [hi] at h1; injection h1 with h1; subst h1; simp [KO.fix] at h2
    exact ⟨⟨e1, by rw [upd_ne _ _ this]; exact h1, h2⟩, by rw [upd_ne _ _ this]⟩
  grow j t1 sz1 ver1 l1 k := by
    by_cases q : j = i
    · subst q; exact .inr (upd_self _ _ _)
    · exact .inl ⟨t1, ver1, l1, by rw [upd_ne _ _ q]; exact k, Nat.le_refl _, fun _ => by rw [upd_ne _ _ q]⟩
  gone j k := by
    by_cases q : j = i
    · subst q; exact upd_self _ _ _
    · rw [upd_ne _ _ q]; exact k

theorem HeapOk.new (k : HeapOk E P h γ W) {i : Nat} (hi : h i = none) (o : Obj) (e : KO) (G : Gh) (hf : e.fp G = some W.heap.size)
    (he : EntryOk P (upd h i (some e)) (upd γ i G) (fun g => (W.alloc o).heap[g]?) G e) : HeapOk E P (upd h i (some e)) (upd γ i G) (W.alloc o) :=
  k.put (Ext.new hi e G) (by simp) rfl rfl rfl (fun j hj _ => Go.RowKit.Below.heap_alloc W o j hj) (fun g hg => by rw [hf] at hg; injection hg with hg; subst hg; exact ⟨.inr (Nat.le_refl _), by simp⟩) he
end

structure Rep (E : KE) (P : Program) (nt : Nat) (mk : List Nat) (F : Tr KV) (h : KH) (γ : Nat → Gh) (a : Act) (W : World) : Prop where
  size : a.tmps.size = nt
  frame : ∀ d, Is h γ (fg F d) (a.tmps.getD d undef)
  defers : a.defers = mk.map fun i => { target := .collected (γ i).g, args := #[] }
  marks : ∀ i ∈ mk, Fixd h i
  heap : HeapOk E P h γ W

theorem Rep.ext {E : KE} {P : Program} {nt : Nat} {mk : List Nat} {F : Tr KV} {h h' : KH} {γ γ' : Nat → Gh} {a : Act} {W W' : World} (r : Rep E P nt mk F h γ a W) (x : Ext h γ h' γ') (k : HeapOk E P h' γ' W') : Rep E P nt mk F h' γ' a W' :=
  ⟨r.size, fun d => (r.frame d).ext x, by rw [r.defers]; exact List.map_congr_left fun i hi => by rw [(x.fix i (r.marks i hi)).2], fun i hi => (x.fix i (r.marks i hi)).1, k⟩

theorem Rep.put {E : KE} {P : Program} {nt : Nat} {mk : List Nat} {F F' : Tr KV} {h : KH} {γ : Nat → Gh} {a : Act} {W : World} (r : Rep E P nt mk F h γ a W) {f d : Nat} {kv : KV} {v : Value} (hF : Tr.set f F d kv = some F') (hd : d < nt) (hv : Is h γ kv v) :
    Rep E P nt mk F' h γ (a.put (some d) v) W := by
  refine ⟨by simp [Act.put, r.size], fun n => ?_, r.defers, r.marks, r.heap⟩
  have hlt : d < a.tmps.size := by rw [r.size]; exact hd
  unfold fg
  rw [Tr.get_set f hF]
  by_cases hn : n = d
  · subst hn
    simp [Act.put, hlt]
    exact hv
  · rw [if_neg hn]
    have := r.frame n
    unfold fg at this
    simpa [Act.put, Array.getElem?_setIfInBounds_ne (Ne.symm hn)] using this
end Go.Kx
