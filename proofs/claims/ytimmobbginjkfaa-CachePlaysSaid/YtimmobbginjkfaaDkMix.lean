/- Arguments that are numbers and truths in structs and arrays, in slices: their cells. -/
import Derived.Test.YtimmobbginjkfaaDkFlat
set_option linter.unusedSimpArgs false
set_option linter.unusedVariables false
set_option linter.unnecessarySimpa false
namespace Go.Dm
open Go Go.ChangeShapes Go.WideShapes Go.ChangeAt Go.RowKit Go.Deep Go.Dk Go.Sx
def Ks : List (Option IntKind) → List Value → Prop
 | [], vs => vs = []
 | some k :: ks, vs => ∃ n r, vs = .int k n :: r ∧ (Lit.int k n).wf = true ∧ Ks ks r
 | none :: ks, vs => ∃ b r, vs = .bool b :: r ∧ Ks ks r
theorem Ks.append : ∀ {a b : List (Option IntKind)} {x y : List Value}, Ks a x → Ks b y → Ks (a ++ b) (x ++ y)
 | [], _, _, _, h, k => by simp only [Ks] at h; subst h; simpa using k
 | some q :: a, _, _, _, h, k => by
  simp only [Ks] at h; obtain ⟨n, r, rfl, hw, hr⟩ := h
  exact ⟨n, _, rfl, hw, Ks.append hr k⟩
 | none :: a, _, _, _, h, k => by
  simp only [Ks] at h; obtain ⟨n, r, rfl, hr⟩ := h
  exact ⟨n, _, rfl, Ks.append hr k⟩
def intsF (g : TypeId → Option (List (Option IntKind))) : List Field → Option (List (Option IntKind))
 | [] => some []
 | f :: fs => match g f.type, intsF g fs with
  | some a, some b => some (a ++ b)
  | _, _ => none
def intsT (P : Program) : Nat → TypeId → Option (List (Option IntKind))
 | 0, _ => none
 | k + 1, t => match P.underlying t with
  | some (.int q) => some [some q]
  | some .bool => some [none]
  | some (.array n e) => (match intsT P k e with
   | some l => if P.cellsOf t = n * P.cellsOf e then some (List.replicate n l).flatten else none
   | none => none)
  | some (.struct fs) => if contig P fs.toList 0 (P.cellsOf t) then intsF (intsT P k) fs.toList else none
  | _ => none
section
variable {H : Type} {enc : TypeId × Value → H} {P : Program}
theorem arr_ks {c : Nat} {l : List (Option IntKind)} : ∀ (n : Nat) (cs : List Value), cs.length = n * c → (∀ i, i < n → Ks l ((cs.drop (i * c)).take c)) → Ks (List.replicate n l).flatten cs
 | 0, cs, hl, _ => by simp only [List.replicate_zero, List.flatten_nil, Ks]; exact List.eq_nil_of_length_eq_zero (by omega)
 | n + 1, cs, hl, h => by
  have h0 := h 0 (by omega)
  rw [Nat.zero_mul, List.drop_zero] at h0
  have hl' : cs.length = n * c + c := by rw [hl, Nat.add_mul]; omega
  have ih := arr_ks (c := c) (l := l) n (cs.drop c) (by simp; omega) (fun i hi => by
   have := h (i + 1) (by omega)
   rw [List.drop_drop, show c + i * c = (i + 1) * c by rw [Nat.add_mul]; omega]; exact this)
  rw [List.replicate_succ, List.flatten_cons, ← List.take_append_drop c cs]
  rw [List.take_append_drop] at *
  have := h0.append ih
  rwa [List.take_append_drop] at this
theorem str_ks {k : Nat} : ∀ (fs : List Field) (cs : List Value) (off n : Nat) (L : List (Option IntKind)), contig P fs off n = true → off + cs.length = n → intsF (intsT P k) fs = some L →
  (∀ (i : Nat) f l, fs[i]? = some f → intsT P k f.type = some l → Ks l ((cs.drop (f.offset - off)).take (P.cellsOf f.type))) → Ks L cs
 | [], cs, off, n, L, hc, hl, hL, _ => by
  simp [intsF] at hL; subst hL
  simp [contig] at hc
  simp only [Ks]
  apply List.eq_nil_of_length_eq_zero; omega
 | f :: fs, cs, off, n, L, hc, hl, hL, hx => by
  simp only [intsF] at hL
  split at hL
  case h_2 => cases hL
  rename_i a b ha hb
  injection hL with hL; subst hL
  simp only [contig, Bool.and_eq_true, beq_iff_eq] at hc
  have h0 := hx 0 f a rfl ha
  rw [hc.1, Nat.sub_self, List.drop_zero] at h0
  have hge : ∀ (fs : List Field) (off n : Nat), contig P fs off n = true → off ≤ n ∧ ∀ (i : Nat) (f : Field), fs[i]? = some f → off ≤ f.offset := by
   intro fs
   induction fs with
   | nil => intro off n h; simp [contig] at h; exact ⟨by omega, fun i f hf => by simp at hf⟩
   | cons g gs ih =>
    intro off n h
    simp only [contig, Bool.and_eq_true, beq_iff_eq] at h
    obtain ⟨h1, h2⟩ := ih _ _ h.2
    refine ⟨by omega, fun i f hf => ?_⟩
    cases i with
    | zero => simp at hf; subst hf; omega
    | succ i => have := h2 i f (by simpa using hf); omega
  have hle := hge _ _ _ hc.2
  have ih := str_ks fs (cs.drop (P.cellsOf f.type)) (off + P.cellsOf f.type) n b hc.2 (by simp; omega) hb (fun i g l hg hl2 => by
   have h3 := hx (i + 1) g l (by simpa using hg) hl2
   have h5 := hle.2 i g hg
   rw [List.drop_drop, show P.cellsOf f.type + (g.offset - (off + P.cellsOf f.type)) = g.offset - off by omega]
   exact h3)
  have := h0.append ih
  rwa [List.take_append_drop] at this
theorem intsF_some {k : Nat} : ∀ {fs : List Field} {L : List (Option IntKind)}, intsF (intsT P k) fs = some L → ∀ (i : Nat) f, fs[i]? = some f → ∃ l, intsT P k f.type = some l
 | [], _, _, i, f, h => by simp at h
 | g :: fs, L, hL, i, f, h => by
  simp only [intsF] at hL
  split at hL
  case h_2 => cases hL
  rename_i a b ha hb
  cases i with
  | zero => simp at h; subst h; exact ⟨a, ha⟩
  | succ i => exact intsF_some hb i f (by simpa using h)
theorem trod_ints {w : World} {base : Nat} {spare : Nat → Bool} {held : Bool} : ∀ (k : Nat) (t : TypeId) (fuel : Nat) (cs : List Value) (L : List (Option IntKind)) (x : DataW H × List MemPlace), intsT P k t = some L → DataW.trod enc P w base spare held fuel t cs = some x → Ks L cs
 | 0, _, _, _, _, _, h, _ => by simp [intsT] at h
 | k + 1, t, fuel, cs, L, x, hp, h => by
  simp only [intsT] at hp
  split at hp
  ·rename_i q ht
   injection hp with hp; subst hp
   obtain ⟨n, rfl, rfl, hw⟩ := DataW.trod_int ht h
   exact ⟨n, [], rfl, hw, rfl⟩
  ·rename_i ht
   injection hp with hp; subst hp
   obtain ⟨b, rfl, rfl⟩ := DataW.trod_bool ht h
   exact ⟨b, [], rfl, rfl⟩
  ·rename_i n e ht
   split at hp
   case h_2 => cases hp
   rename_i l hle
   split at hp
   case isFalse => cases hp
   rename_i hsz
   injection hp with hp; subst hp
   obtain ⟨xs, m, rfl, rfl, hl, hn, hel⟩ := DataW.trod_array ht h
   refine arr_ks n cs (by rw [hl, hsz]) fun i hi => ?_
   obtain ⟨y, hy⟩ : ∃ y, xs[i]? = some y := ⟨_, List.getElem?_eq_getElem (by omega)⟩
   have := hel i hi
   rw [hy] at this
   exact trod_ints k e m _ l y hle this
  ·rename_i fs ht
   split at hp
   case isFalse => cases hp
   rename_i hcon
   obtain ⟨xs, m, rfl, rfl, hl, hn, hel⟩ := DataW.trod_struct ht h
   refine str_ks fs.toList cs 0 (P.cellsOf t) L hcon (by omega) hp fun i f l hf hlf => ?_
   have hf : fs[i]? = some f := by simpa using hf
   have hi : i < xs.length := by have := (Array.getElem?_eq_some_iff.1 hf).1; omega
   obtain ⟨y, hy⟩ : ∃ y, xs[i]? = some y := ⟨_, List.getElem?_eq_getElem hi⟩
   have := hel i f hf
   rw [hy] at this
   rw [Nat.sub_zero]
   exact trod_ints k f.type m _ l y hlf this
  ·cases hp
end
section
variable {H : Type} {enc : TypeId × Value → H} {P : Program} {W : World}
theorem open_rows' {α : Type} {f : α → List Value} {Q : α → Prop} {base : Nat} {spare : Nat → Bool} {held : Bool} {t e : TypeId} {L : List (Option IntKind)} {fuel : Nat} {cs : List Value} {x : DataW H × List MemPlace} (k : Nat) (ht : P.underlying t = some (.slice e)) (hi : intsT P k e = some L) (hc : P.cellsOf e = L.length)
  (hf : ∀ x, (f x).length = L.length) (hks : ∀ cs, Ks L cs → ∃ x, cs = f x ∧ Q x) (hfu : DataW.trod enc P W base spare held fuel t cs = some x) :
  ∃ (A : Option Addr) (c : Nat) (l : List α), cs = [.slice A l.length c] ∧ l.length ≤ c ∧ RowAt W A (l.flatMap f) ∧ ∀ x ∈ l, Q x := by
 rcases open_slice ht hfu with ⟨e1, _⟩ | ⟨a', len, cap, m, n', D, Pl, e1, _, hl, hm, hmm, _, hel⟩
 ·exact ⟨none, 0, [], e1, Nat.le_refl _, fun j u hj => by simp at hj, by simp⟩
 ·obtain ⟨l, h1, h2, h3⟩ := rowAt_list (w := W) (a := a') (f := f) (sz := L.length) hf (Q := Q) len (fun i hi' => by
   obtain ⟨cs', hcell, htr⟩ := hel i (by rw [hmm]; split <;> omega)
   have hk := trod_ints k e n' cs' L _ hi htr
   obtain ⟨x, rfl, hq⟩ := hks cs' hk
   refine ⟨x, hq, fun j u hj => ?_⟩
   obtain ⟨_, hlen, hat⟩ := World.cells?_some hcell
   have hjl := (List.getElem?_eq_some_iff.1 hj).1
   have := hat j (by rw [hf] at hjl; omega)
   rw [hc] at this
   rw [← Go.Deep.add_add, this]; exact hj)
  exact ⟨some a', cap, l, by rw [h1]; exact e1, by omega, h2, h3⟩
theorem open_rows {α : Type} {f : α → List Value} {Q : α → Prop} {base b0 : Nat} {r : Reach} {spare : Nat → Bool} {held : Bool} {t e : TypeId} {L : List (Option IntKind)} {v : Value} {d : DataW H} {p : List MemPlace} (k : Nat) (ht : P.underlying t = some (.slice e)) (hi : intsT P k e = some L) (hc : P.cellsOf e = L.length)
  (hf : ∀ x, (f x).length = L.length) (hks : ∀ cs, Ks L cs → ∃ x, cs = f x ∧ Q x) (hv : Value.okWide P W r b0 t v) (h : DataW.Trod enc P W base spare held t v d p) :
  ∃ (A : Option Addr) (c : Nat) (l : List α), v = .slice A l.length c ∧ l.length ≤ c ∧ RowAt W A (l.flatMap f) ∧ ∀ x ∈ l, Q x := by
 obtain ⟨a, n, c, rfl⟩ := okWide_slice ht hv
 obtain ⟨fuel, hfu⟩ := h
 obtain ⟨A, c', l, e, h⟩ := open_rows' (f := f) (Q := Q) k ht hi hc hf hks hfu
 refine ⟨A, c', l, ?_, h⟩
 simpa [Value.cells] using e
end
end Go.Dm
