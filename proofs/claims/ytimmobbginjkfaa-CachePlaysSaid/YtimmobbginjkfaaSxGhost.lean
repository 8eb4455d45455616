/- The engine: other words for the same memory. -/
import Derived.Test.YtimmobbginjkfaaSxStill
set_option linter.unusedSimpArgs false
set_option linter.unusedVariables false
set_option linter.unnecessarySimpa false
namespace Go.Sx
theorem Rep.window {E : Env} {s : SS} {a : Act} {W : World} (rep : Rep E s a W) (d : Nat) {i ver n c sz : Nat} {t : TypeId} {A : Option Addr} {xs : List Value} (l m : Nat) (hF : lk s.F d = .val (.slice (subA A c l sz) m (c - l))) (hi : nth s.H i = some (.own t ver sz A n c xs)) (hl : l + m ≤ n) :
  Rep E { F := (d, .own i (ver + 1)) :: s.F, H := setn s.H i (.own t (ver + 1) sz (subA A c l sz) m (c - l) ((xs.drop (l * sz)).take (m * sz))) } a W := by
 have x : HExt s.H (setn s.H i (.own t (ver + 1) sz (subA A c l sz) m (c - l) ((xs.drop (l * sz)).take (m * sz)))) := HExt.setOwn hi (by omega) (fun e => by omega)
 have hbl : (subA A c l sz).map (·.block) = A.map (·.block) := by
  unfold subA; split
  ·rfl
  ·cases A with
   | none => rfl
   | some a => simp [add_block]
 obtain ⟨hxl, hr⟩ := rep.heap.ents i _ hi
 have hlm : l * sz + m * sz ≤ n * sz := by rw [← Nat.add_mul]; exact Nat.mul_le_mul_right _ hl
 have hnew : ((xs.drop (l * sz)).take (m * sz)).length = m * sz := by simp; omega
 have hh : HeapOk E (setn s.H i (.own t (ver + 1) sz (subA A c l sz) m (c - l) ((xs.drop (l * sz)).take (m * sz)))) W := by
  refine rep.heap.set hi x (fun g hg => .inl (by simp only [SO.fp] at hg ⊢; rw [← hbl]; exact hg)) (fun _ _ _ => rfl) (Nat.le_refl _) rfl rfl rfl ⟨hnew, ?_⟩
  rcases hr with ⟨rfl, rfl, hA⟩ | ⟨g, b, cur, rfl, hg, h1, h2, h3, h4⟩
  ·have h0 : l = 0 := by omega
   subst h0
   exact .inl ⟨by omega, rfl, by simpa [subA] using hA⟩
  ·by_cases hc : c = l
   ·subst hc
    refine .inl ⟨by omega, by omega, fun a ha => ?_⟩
    simp only [subA, if_true, Option.some.injEq] at ha
    subst ha; exact ⟨_, hg⟩
   ·have e1 : subA (some ⟨g, b, none⟩) c l sz = some ⟨g, b + l * sz, none⟩ := by simp [subA, hc, add_lit]
    rw [e1]
    have h5 : c * sz = l * sz + (c - l) * sz := by rw [← Nat.add_mul]; congr 1; omega
    refine .inr ⟨g, b + l * sz, cur, rfl, hg, by omega, by omega, by omega, ?_⟩
    rw [← h4, List.drop_take, List.take_take, List.drop_drop, Nat.min_eq_left (by omega)]
 refine Rep.tell (rep.ext x hh) ?_
 have hf := rep.frame d
 rw [hF] at hf
 simp only [Is] at hf ⊢
 exact ⟨_, _, _, _, _, _, _, nth_setn_eq _ (nth_lt hi), Nat.le_refl _, ⟨_, _, _, hf⟩, fun _ => hf⟩
theorem Rep.ownH {E : Env} {s : SS} {a : Act} {W : World} (rep : Rep E s a W) {i g : Nat} (n sz : Nat) {t : TypeId} {l : List SV} {xs : List Value} (hi : nth s.H i = some (.cells g t l)) (hx : denL s.H l = some xs) (hl : xs.length = n * sz) (hn : n ≤ maxLen) :
  Rep E { F := s.F, H := setn s.H i (.gone g) ++ [.own t 0 sz (some ⟨g, 0, none⟩) n n xs] } a W := by
 have rep2 : Rep E { F := (0, .unk) :: s.F, H := s.H } a W := by
  refine ⟨rep.size, fun d => ?_, rep.defers, rep.heap⟩
  cases h : 0 == d with
  | true => simp [lk, h, Is]
  | false => simp only [lk, h]; exact rep.frame d
 obtain ⟨cur, hc, hL⟩ := rep.heap.ents i _ hi
 have ecur := denL_is l hx hL
 have hc : W.heap[g]? = some (.cells cur t (0, 0)) := hc
 have hg1 := HExt.goneAt hi
 have hheap1 : HeapOk E (setn s.H i (.gone g)) W := rep.heap.set hi hg1 (fun g hg => by simp [SO.fp] at hg) (fun _ _ _ => rfl) (Nat.le_refl _) rfl rfl rfl trivial
 have hx2 := HExt.push (setn s.H i (.gone g)) (.own t 0 sz (some ⟨g, 0, none⟩) n n xs)
 have hh : HeapOk E (setn s.H i (.gone g) ++ [.own t 0 sz (some ⟨g, 0, none⟩) n n xs]) W := by
  refine hheap1.pushG (row := some g) (Nat.le_refl _) rfl rfl rfl (fun _ _ _ => rfl) (fun g' e => ?_) (fun g' hg => ?_) ⟨hl, .inr ⟨g, 0, cur, rfl, hc, Nat.le_refl _, hn, by rw [← hl, ← ecur]; simp, by rw [← hl, List.drop_zero, ecur, List.take_length]⟩⟩
  ·injection e with e; subst e
   refine ⟨(rep.heap.fresh i _ g hi rfl).2, fun j e' hj hfp => ?_⟩
   by_cases hij : i = j
   ·subst hij; rw [nth_setn_eq _ (nth_lt hi)] at hj; injection hj with hj; subst hj; cases hfp
   ·rw [nth_setn_ne _ hij] at hj
    exact rep.heap.dist i j _ e' g hij hi hj rfl hfp
  ·simp only [SO.fp, Option.map_some, Option.some.injEq] at hg; subst hg
   exact ⟨.inl rfl, (Array.getElem?_eq_some_iff.1 hc).1⟩
 exact rep.ext (hg1.trans' hx2) hh
theorem Rep.cellsTo {E : Env} {s : SS} {a : Act} {W : World} (rep : Rep E s a W) (i : Nat) {g : Nat} {t : TypeId} {l l' : List SV} (hi : nth s.H i = some (.cells g t l)) (h : ∀ vs, IsL s.H l vs → IsL s.H l' vs) : Rep E { F := s.F, H := setn s.H i (.cells g t l') } a W := by
 have x : HExt s.H (setn s.H i (.cells g t l')) := HExt.setBlk hi rfl rfl
 obtain ⟨c, hc, hL⟩ := rep.heap.ents i _ hi
 exact rep.ext x (rep.heap.set hi x (fun g' hg => .inl hg) (fun _ _ _ => rfl) (Nat.le_refl _) rfl rfl rfl ⟨c, hc, (h _ hL).ext x⟩)
theorem rep_swap {E : Env} {F : List (Nat × SV)} {H : List SO} {a : Act} {W : World} (d : Nat) {x y : SV} (rep : Rep E { F := F, H := H } a W) (hl : lk F d = x) (h : ∀ v, Is H x v → Is H y v) : Rep E { F := (d, y) :: F, H := H } a W := by
 refine ⟨rep.size, fun d' => ?_, rep.defers, rep.heap⟩
 have h1 := rep.frame d'
 cases e : d == d' with
 | true =>
  have := eq_of_beq e
  subst this
  simp only [lk, e]
  simp only [hl] at h1
  exact h _ h1
 | false =>
  simp only [lk, e]
  exact h1
end Go.Sx
namespace Go.Sx
def fps (H : List SO) : List Nat := H.filterMap SO.fp
theorem fps_mem {H : List SO} {g : Nat} : g ∈ fps H ↔ ∃ i e, nth H i = some e ∧ e.fp = some g := by
 unfold fps
 rw [List.mem_filterMap]
 constructor
 ·rintro ⟨e, he, hg⟩
  obtain ⟨i, hi⟩ := List.getElem?_of_mem he
  exact ⟨i, e, by rw [nth_eq]; exact hi, hg⟩
 ·rintro ⟨i, e, hi, hg⟩
  exact ⟨e, List.mem_of_getElem? (by rw [← nth_eq]; exact hi), hg⟩
structure Over (E E' : Env) : Prop where
 keep : Keep E.old E.b E'.b
 sub : ∀ j, E.old j → E'.old j
 floor : E.N ≤ E'.N
theorem Over.refl (E : Env) : Over E E := ⟨Keep.refl _ _, fun _ h => h, Nat.le_refl _⟩
theorem Over.trans {A B C : Env} (h : Over A B) (k : Over B C) : Over A C := ⟨h.keep.trans (k.keep.mono h.sub), fun j hj => k.sub j (h.sub j hj), Nat.le_trans h.floor k.floor⟩
theorem Over.env {E A B : Env} (hb : B.b = A.b) (hN : B.N = A.N) (hs : B.stolen = A.stolen) (h : Over E A) : Over E B := by
 obtain ⟨b, N, st, nt, mk⟩ := A
 obtain ⟨b', N', st', nt', mk'⟩ := B
 simp only at hb hN hs
 subst hb; subst hN; subst hs
 exact ⟨h.keep, h.sub, h.floor⟩
theorem Over.heap {E E' : Env} {H : List SO} {W : World} (h : Over E E') (hh : HeapOk E' H W) : HeapOk E H W where
 keep := h.keep.trans (hh.keep.mono h.sub)
 floor := Nat.le_trans h.floor hh.floor
 ents := hh.ents
 fresh i e g hi hg := ⟨(hh.fresh i e g hi hg).1, fun ho => (hh.fresh i e g hi hg).2 (h.sub g ho)⟩
 dist := hh.dist
theorem Over.cell {E E' : Env} (h : Over E E') {A : Option Addr} {j : Nat} {v : Value} (hc : CellAt E A j v) : CellAt E' A j v := by
 obtain ⟨a, rfl, ho, hv⟩ := hc
 refine ⟨a, rfl, h.sub _ ho, ?_⟩
 rw [← hv]
 unfold World.cell?
 rw [add_block, h.keep.block _ ho]
theorem HeapOk.rebase {E : Env} {H : List SO} {W : World} (h : HeapOk E H W) (nt : Nat) (mk : List Nat) : HeapOk ⟨W, W.heap.size, fps H, nt, mk⟩ H W ∧ Over E ⟨W, W.heap.size, fps H, nt, mk⟩ := by
 refine ⟨⟨Keep.refl _ _, Nat.le_refl _, h.ents, fun i e g hi hg => ⟨(h.fresh i e g hi hg).1, fun ho => ho.2 (fps_mem.2 ⟨i, e, hi, hg⟩)⟩, h.dist⟩, ⟨h.keep, fun j hj => ⟨Nat.lt_of_lt_of_le hj.1 h.floor, fun hm => ?_⟩, h.floor⟩⟩
 obtain ⟨i, e, hi, hg⟩ := fps_mem.1 hm
 exact (h.fresh i e j hi hg).2 hj
theorem Rep.rebase {E : Env} {s : SS} {a : Act} {W : World} (rep : Rep E s a W) : Rep ⟨W, W.heap.size, fps s.H, E.nt, E.marks⟩ s a W :=
 ⟨rep.size, rep.frame, rep.defers, (rep.heap.rebase _ _).1⟩
theorem HExt.app (H r : List SO) : HExt H (H ++ r) where
 blk i g h := by
  rw [blk_eq] at *
  cases hn : nth H i with
  | none => simp [hn] at h
  | some e' => rw [nth_append_left hn]; rw [hn] at h; exact h
 own i t ver sz A n c xs h := ⟨_, _, _, _, _, _, _, nth_append_left h, Nat.le_refl _, fun _ => ⟨rfl, rfl, rfl⟩⟩
theorem nth_app {H r : List SO} {i : Nat} {e : SO} (h : nth (H ++ r) i = some e) : (i < H.length ∧ nth H i = some e) ∨ (H.length ≤ i ∧ nth r (i - H.length) = some e) := by
 rw [nth_eq] at h
 by_cases hi : i < H.length
 ·rw [List.getElem?_append_left hi] at h
  exact .inl ⟨hi, by rw [nth_eq]; exact h⟩
 ·rw [List.getElem?_append_right (by omega)] at h
  exact .inr ⟨by omega, by rw [nth_eq]; exact h⟩
theorem nth_right {H r : List SO} {i : Nat} {e : SO} (hi : H.length ≤ i) (h : nth r (i - H.length) = some e) : nth (H ++ r) i = some e := by
 rw [nth_eq, List.getElem?_append_right hi, ← nth_eq]; exact h
theorem HExt.front {H H' : List SO} (r : List SO) (x : HExt H H') (hl : H'.length = H.length) : HExt (H ++ r) (H' ++ r) where
 blk i g h := by
  rw [blk_eq] at h ⊢
  cases hn : nth (H ++ r) i with
  | none => simp [hn] at h
  | some e =>
   rw [hn] at h
   rcases nth_app hn with ⟨h1, h2⟩ | ⟨h1, h2⟩
   ·have := x.blk i g (by rw [blk_eq, h2]; exact h)
    rw [blk_eq] at this
    cases hm : nth H' i with
    | none => simp [hm] at this
    | some e' => rw [nth_append_left hm]; rw [hm] at this; exact this
   ·rw [nth_right (by omega) (by rw [hl]; exact h2)]; exact h
 own i t ver sz A n c xs h := by
  rcases nth_app h with ⟨h1, h2⟩ | ⟨h1, h2⟩
  ·obtain ⟨t', v', s', A', n', c', x', e, r1, r2⟩ := x.own i _ _ _ _ _ _ _ h2
   exact ⟨t', v', s', A', n', c', x', nth_append_left e, r1, r2⟩
  ·exact ⟨_, _, _, _, _, _, _, nth_right (by omega) (by rw [hl]; exact h2), Nat.le_refl _, fun _ => ⟨rfl, rfl, rfl⟩⟩
theorem HeapOk.lend {E : Env} {H1 r : List SO} {W : World} (h : HeapOk E (H1 ++ r) W) (hs : ∀ e ∈ H1, scpO H1.length e = true) (nt : Nat) (mk : List Nat) : HeapOk ⟨W, W.heap.size, fps H1, nt, mk⟩ H1 W :=
 ((h.pre hs).rebase nt mk).1
theorem HeapOk.unlend {E : Env} {H1 H1' r : List SO} {W W' : World} {nt : Nat} {mk : List Nat} (h : HeapOk E (H1 ++ r) W) (k : HeapOk ⟨W, W.heap.size, fps H1, nt, mk⟩ H1' W') (x : HExt H1 H1') (hl : H1'.length = H1.length) : HeapOk E (H1' ++ r) W' := by
 have old1 : ∀ j, E.old j → Env.old ⟨W, W.heap.size, fps H1, nt, mk⟩ j := fun j hj => ⟨Nat.lt_of_lt_of_le hj.1 h.floor, fun hm => by
  obtain ⟨i, e, hi, hg⟩ := fps_mem.1 hm
  exact (h.fresh i e j (nth_append_left hi) hg).2 hj⟩
 have oldr : ∀ i e g, nth r i = some e → e.fp = some g → Env.old ⟨W, W.heap.size, fps H1, nt, mk⟩ g := fun i e g hi hg => by
  have hi' : nth (H1 ++ r) (H1.length + i) = some e := nth_right (by omega) (by rw [Nat.add_sub_cancel_left]; exact hi)
  refine ⟨(h.fresh _ e g hi' hg).1, fun hm => ?_⟩
  obtain ⟨j, e', hj, hg'⟩ := fps_mem.1 hm
  exact h.dist j (H1.length + i) e' e g (by have := nth_lt hj; omega) (nth_append_left hj) hi' hg' hg
 refine ⟨h.keep.trans (k.keep.mono old1), Nat.le_trans h.floor k.floor, fun i e hi => ?_, fun i e g hi hg => ?_, fun i j e e' g hij hi hj hg hg' => ?_⟩
 ·rcases nth_app hi with ⟨h1, h2⟩ | ⟨h1, h2⟩
  ·exact (k.ents i e h2).mono (HExt.app _ _) fun _ _ => rfl
  ·refine (h.ents i e (nth_right (by omega) (by rw [← hl]; exact h2))).mono (HExt.front r x hl) fun g hg => ?_
   exact k.keep.block g (oldr _ e g h2 hg)
 ·rcases nth_app hi with ⟨h1, h2⟩ | ⟨h1, h2⟩
  ·exact ⟨(k.fresh i e g h2 hg).1, fun ho => (k.fresh i e g h2 hg).2 (old1 g ho)⟩
  ·have := h.fresh i e g (nth_right (by omega) (by rw [← hl]; exact h2)) hg
   exact ⟨Nat.lt_of_lt_of_le this.1 k.floor, this.2⟩
 ·rcases nth_app hi with ⟨h1, h2⟩ | ⟨h1, h2⟩ <;> rcases nth_app hj with ⟨h3, h4⟩ | ⟨h3, h4⟩
  ·exact k.dist i j e e' g hij h2 h4 hg hg'
  ·exact (k.fresh i e g h2 hg).2 (oldr _ e' g h4 hg')
  ·exact (k.fresh j e' g h4 hg').2 (oldr _ e g h2 hg)
  ·exact h.dist i j e e' g hij (nth_right (by omega) (by rw [← hl]; exact h2)) (nth_right (by omega) (by rw [← hl]; exact h4)) hg hg'
theorem HeapOk.fps_lt {E : Env} {H : List SO} {W : World} (h : HeapOk E H W) {g : Nat} (hg : g ∈ fps H) : g < W.heap.size := by
 obtain ⟨i, e, hi, hf⟩ := fps_mem.1 hg
 exact (h.fresh i e g hi hf).1
def RowE (E : Env) (A : Option Addr) (xs : List Value) : Prop := ∀ j u, xs[j]? = some u → CellAt E A j u
theorem RowE.cell {E : Env} {A : Option Addr} {xs : List Value} (h : RowE E A xs) {j : Nat} {u : Value} (hj : xs[j]? = some u) : CellAt E A j u := h j u hj
theorem RowE.over {E E' : Env} {A : Option Addr} {xs : List Value} (h : RowE E A xs) (o : Over E E') : RowE E' A xs := fun j u hj => o.cell (h j u hj)
theorem RowE.env {E E' : Env} (hb : E'.b = E.b) (hN : E'.N = E.N) (hs : E'.stolen = E.stolen) {A : Option Addr} {xs : List Value} (h : RowE E A xs) : RowE E' A xs := h.over ((Over.refl E).env hb hN hs)
theorem RowE.isSome {E : Env} {A : Option Addr} {xs : List Value} (h : RowE E A xs) {j : Nat} (hj : j < xs.length) : A.isSome = true := by
 obtain ⟨a, rfl, _⟩ := h j xs[j] (List.getElem?_eq_getElem hj); rfl
theorem RowE.at {E : Env} {A : Option Addr} {xs : List Value} {H : List SO} {W : World} (h : RowE E A xs) (hW : HeapOk E H W) : RowAt W A xs := by
 intro j u hj
 obtain ⟨a, rfl, ho, hv⟩ := h j u hj
 refine ⟨a, rfl, Nat.lt_of_lt_of_le ho.1 hW.floor, ?_⟩
 rw [← hv]
 unfold World.cell?
 rw [add_block, hW.keep.block _ ho]
theorem RowAt.toE {w : World} {A : Option Addr} {xs : List Value} (h : RowAt w A xs) {st : List Nat} (hst : ∀ g ∈ st, ∀ (j : Nat) (u : Value) (a : Addr), xs[j]? = some u → A = some a → a.block ≠ g) (nt : Nat) (mk : List Nat) : RowE ⟨w, w.heap.size, st, nt, mk⟩ A xs := by
 intro j u hj
 obtain ⟨a, rfl, h1, h2⟩ := h j u hj
 exact ⟨a, rfl, ⟨h1, fun hm => hst _ hm j u a hj rfl rfl⟩, h2⟩
theorem call_lent {C : Cx} {E : Env} {d : Option Nat} {f : FuncId} {args : List Operand} {l : List XS} {k : List KI} {F : List (Nat × SV)} (H1 r : List SO) {vs : List Value} (Q : Value → List SO → Prop) (hs : H1.all (scpO H1.length) = true) (hargs : denL (H1 ++ r) (evL F args) = some vs)
  (hc : ∀ W, HeapOk E (H1 ++ r) W → HeapOk ⟨W, W.heap.size, fps H1, 0, []⟩ H1 W → CallsV C.P f vs W fun v W' => ∃ H1', Q v H1' ∧ HExt H1 H1' ∧ H1'.length = H1.length ∧ HeapOk ⟨W, W.heap.size, fps H1, 0, []⟩ H1' W')
  (next : ∀ v H1', Q v H1' → ∃ sv, Is (H1' ++ r) sv v ∧ G C E (.ops l :: k) { F := putF F d sv, H := H1' ++ r }) :
  G C E (.ops ({ dst := d, guard := none, i := .call f args } :: l) :: k) { F := F, H := H1 ++ r } := by
 refine call_rule hargs (R := fun W v W' => ∃ H1', Q v H1' ∧ HExt H1 H1' ∧ H1'.length = H1.length ∧ HeapOk ⟨W, W.heap.size, fps H1, 0, []⟩ H1' W') (fun W hW => hc W hW (hW.lend (fun e he => List.all_eq_true.1 hs e he) 0 [])) fun W v W' hW ⟨H1', hQ, hx, hl, hk⟩ => ?_
 obtain ⟨sv, h1, h2⟩ := next v H1' hQ
 exact ⟨sv, H1' ++ r, h1, HExt.front r hx hl, hW.unlend hk hx hl, h2⟩
theorem calls_lent {P : Program} {f : FuncId} {fn : Func} {xc : XC} {args : List Value} {W : World} {R : Value → World → Prop} {keep : List Nat} {tab : Nat → XC} {svs : List SV} {nt m : Nat} {H : List SO} {st : List Nat} {N nt0 : Nat} {mk0 : List Nat} {b : World}
  (hf : P.funcs[f]? = some fn) (hc : cmpF P fn = some (expand tab m xc)) (hn : fn.ntmps = nt) (hlen : args.length ≤ nt) (hH : HeapOk ⟨b, N, st, nt0, mk0⟩ H W) (ha : IsL H svs args)
  (h : ∀ R' : Value → World → Prop, (∀ v W, R v W → R' v W) → G (cxOf P fn keep tab R') ⟨b, N, st, nt, []⟩ [.code xc] { F := numF 0 svs, H := H }) : CallsV P f args W R :=
 calls_in hf hc hn hlen hH ha (h R fun _ _ h => h)
theorem calls_lentM {P : Program} {f : FuncId} {fn : Func} {xc : XC} {args : List Value} {W : World} {R : Value → World → Prop} {keep : List Nat} {tab : Nat → XC} {svs : List SV} {nt m : Nat} {H : List SO} {st : List Nat} {N nt0 : Nat} {mk0 : List Nat} {b : World}
  (hf : P.funcs[f]? = some fn) (hc : cmpF P fn = some (expand tab m xc)) (hn : fn.ntmps = nt) (hlen : args.length ≤ nt) (hH : HeapOk ⟨b, N, st, nt0, mk0⟩ H W) (ha : IsL H svs args)
  (h : ∀ R' : Value → World → Prop, (∀ v W, R v W → R' v W) → G (cxM P fn keep tab R') ⟨b, N, st, nt, []⟩ [.code xc] { F := numF 0 svs, H := H }) : CallsV P f args W R := by
 obtain ⟨c, hb, hc⟩ := cmpF_spec hc
 refine callsIn_WF (r := none) (n := 0) |>.1 ?_
 refine callsIn_of_wp_marks hf hb trivial ?_ rfl
 have hrep := frame_begin (E := ⟨b, N, st, nt, []⟩) (H := H) (W := W) (nt := fn.ntmps) hn.symm rfl (by omega) (HeapOk.env (E := ⟨b, N, st, nt0, mk0⟩) (E' := ⟨b, N, st, nt, []⟩) rfl rfl rfl hH) ha
 have hw := h R (fun _ _ h => h) _ W hrep m c (by rw [← hn]; exact hc)
 refine wpIn_mono hw fun e a' w' hq => ?_
 cases e with
 | normal => exact hq
 | ret => exact hq
 | exit id => exact hq.elim
 | goto l => exact hq.elim
 | panic ch => exact hq.elim
 | outgrown => exact hq.elim
theorem HeapOk.others {E E0 : Env} {H : List SO} {W W' : World} {Ds : List Nat} (h0 : HeapOk E0 H W) (h : HeapOk E H W) (hk : Keep (fun j => j ∉ Ds) W W') (hD : ∀ D ∈ Ds, E.old D ∧ ¬ E0.old D) : HeapOk E0 H W' where
 keep := h0.keep.trans (hk.mono fun j hj hm => (hD j hm).2 hj)
 floor := Nat.le_trans h0.floor hk.size
 ents i e hi := (h0.ents i e hi).mono (HExt.refl _) fun g hg => hk.block g fun hm => (h.fresh i e g hi hg).2 (hD g hm).1
 fresh i e g hi hg := ⟨Nat.lt_of_lt_of_le (h0.fresh i e g hi hg).1 hk.size, (h0.fresh i e g hi hg).2⟩
 dist := h0.dist
end Go.Sx
namespace Go.Sx
open Go
set_option maxRecDepth 100000
set_option linter.unusedVariables false
end Go.Sx
namespace Go.Sx
def posOf : List Nat → Nat → Option Nat
 | [], _ => none
 | j :: σ, i => match j == i with
  | true => some 0
  | false => (match posOf σ i with | some k => some (k + 1) | none => none)
mutual
def renV (σ : List Nat) : SV → SV
 | .ptr i off => (match posOf σ i with | some k => .ptr k off | none => .unk)
 | .slc i off n c => (match posOf σ i with | some k => .slc k off n c | none => .unk)
 | .own i ver => (match posOf σ i with | some k => .own k ver | none => .unk)
 | .oad i ver off => (match posOf σ i with | some k => .oad k ver off | none => .unk)
 | .mp i => (match posOf σ i with | some k => .mp k | none => .unk)
 | .agg l => .agg (renVL σ l)
 | .tup l => .tup (renVL σ l)
 | .fn f a b => .fn f (renVL σ a) (renVL σ b)
 | v => v
def renVL (σ : List Nat) : List SV → List SV
 | [] => []
 | s :: l => renV σ s :: renVL σ l
end
def renO (σ : List Nat) : SO → SO
 | .cells g t l => .cells g t (renVL σ l)
 | e => e
def pickE (σ : List Nat) : Option SO → SO
 | some e => renO σ e
 | none => .gone 0
def pickH (σ : List Nat) (H : List SO) : List Nat → List SO
 | [] => []
 | j :: τ => pickE σ (nth H j) :: pickH σ H τ
def renF (σ : List Nat) : List (Nat × SV) → List (Nat × SV)
 | [] => []
 | (d, v) :: l => (d, renV σ v) :: renF σ l
theorem posOf_get : ∀ {σ : List Nat} {i k : Nat}, posOf σ i = some k → σ[k]? = some i
 | [], _, _, h => by cases h
 | j :: σ, i, k, h => by
  simp only [posOf] at h
  cases hb : j == i with
  | true => rw [hb] at h; injection h with h; subst h; have : j = i := by simpa using hb
            subst this; rfl
  | false =>
   rw [hb] at h
   cases hp : posOf σ i with
   | none => rw [hp] at h; cases h
   | some m => rw [hp] at h; injection h with h; subst h; exact (posOf_get (σ := σ) hp)
theorem nth_pickH (σ : List Nat) (H : List SO) : ∀ (τ : List Nat) (k : Nat), nth (pickH σ H τ) k = (τ[k]?).map fun j => pickE σ (nth H j)
 | [], k => by simp [pickH, nth]
 | j :: τ, 0 => by simp [pickH, nth]
 | j :: τ, k + 1 => by simp [pickH, nth, nth_pickH σ H τ k]
theorem nth_pos {σ : List Nat} {H : List SO} {i k : Nat} {e : SO} (hp : posOf σ i = some k) (he : nth H i = some e) : nth (pickH σ H σ) k = some (renO σ e) := by
 rw [nth_pickH, posOf_get hp]; simp [he, pickE]
theorem blk_renO (σ : List Nat) (e : SO) : (renO σ e).blk = e.blk := by cases e <;> rfl
theorem fp_renO (σ : List Nat) (e : SO) : (renO σ e).fp = e.fp := by cases e <;> rfl
theorem blk_pick {σ : List Nat} {H : List SO} {i k g : Nat} (hp : posOf σ i = some k) (h : blk H i = some g) : blk (pickH σ H σ) k = some g := by
 rw [blk_eq] at *
 cases he : nth H i with
 | none => rw [he] at h; cases h
 | some e => rw [he] at h; rw [nth_pos hp he]; simp only [Option.bind_some] at *; rw [blk_renO]; exact h
mutual
theorem Is.ren {σ : List Nat} {H : List SO} : ∀ (s : SV) {v : Value}, Is H s v → Is (pickH σ H σ) (renV σ s) v
 | .unk, _, _ => by simp [renV, Is]
 | .val _, _, h => by simpa [renV, Is] using h
 | .opq _ _, _, h => by simpa [renV, Is] using h
 | .bt, _, h => by simpa [renV, Is] using h
 | .bf, _, h => by simpa [renV, Is] using h
 | .ptr i off, _, h => by
  simp only [renV]
  split
  ·rename_i k hk
   simp only [Is] at *; obtain ⟨g, hg, hv⟩ := h; exact ⟨g, blk_pick hk hg, hv⟩
  ·simp [Is]
 | .adr A off, _, h => by simpa [renV, Is] using h
 | .slc i off n c, _, h => by
  simp only [renV]
  split
  ·rename_i k hk
   simp only [Is] at *; obtain ⟨g, hg, hv⟩ := h; exact ⟨g, blk_pick hk hg, hv⟩
  ·simp [Is]
 | .own i ver, _, h => by
  simp only [renV]
  split
  ·rename_i k hk
   simp only [Is] at *
   obtain ⟨t, v', sz, A, n, c, xs, he, hle, hsh, hv⟩ := h
   exact ⟨t, v', sz, A, n, c, xs, nth_pos hk he, hle, hsh, hv⟩
  ·simp [Is]
 | .oad i ver off, _, h => by
  simp only [renV]
  split
  ·rename_i k hk
   simp only [Is] at *
   obtain ⟨t, v', sz, A, n, c, xs, he, hle, hsh, hv⟩ := h
   exact ⟨t, v', sz, A, n, c, xs, nth_pos hk he, hle, hsh, hv⟩
  ·simp [Is]
 | .mp i, _, h => by
  simp only [renV]
  split
  ·rename_i k hk
   simp only [Is] at *; obtain ⟨g, hg, hv⟩ := h; exact ⟨g, blk_pick hk hg, hv⟩
  ·simp [Is]
 | .agg l, _, h => by simp only [renV, Is] at *; obtain ⟨vs, hl, hv⟩ := h; exact ⟨vs, IsL.ren l hl, hv⟩
 | .tup l, _, h => by simp only [renV, Is] at *; obtain ⟨vs, hl, hv⟩ := h; exact ⟨vs, IsL.ren l hl, hv⟩
 | .fn f a b, _, h => by simp only [renV, Is] at *; obtain ⟨p, q, hp, hq, hv⟩ := h; exact ⟨p, q, IsL.ren a hp, IsL.ren b hq, hv⟩
theorem IsL.ren {σ : List Nat} {H : List SO} : ∀ (l : List SV) {vs : List Value}, IsL H l vs → IsL (pickH σ H σ) (renVL σ l) vs
 | [], _, h => by simpa [renVL, IsL] using h
 | s :: l, _, h => by
  simp only [renVL, IsL] at *; obtain ⟨v, r, hv, hr, e⟩ := h
  exact ⟨v, r, Is.ren s hv, IsL.ren l hr, e⟩
end
theorem HeapOk.pick {E : Env} {H : List SO} {W : World} (h : HeapOk E H W) (σ : List Nat) (hσ : σ.Nodup) : HeapOk E (pickH σ H σ) W := by
 have key : ∀ k e, nth (pickH σ H σ) k = some e → ∃ j, σ[k]? = some j ∧ e = pickE σ (nth H j) := fun k e hk => by
  rw [nth_pickH] at hk
  cases hj : σ[k]? with
  | none => rw [hj] at hk; cases hk
  | some j => rw [hj] at hk; injection hk with hk; exact ⟨j, rfl, hk.symm⟩
 refine ⟨h.keep, h.floor, fun k e hk => ?_, fun k e g hk hg => ?_, fun k m e e' g hkm hk hm hg => ?_⟩
 ·obtain ⟨j, _, rfl⟩ := key k e hk
  cases hn : nth H j with
  | none => trivial
  | some e' =>
   have := h.ents j e' hn
   cases e' with
   | cells g t l => obtain ⟨c, hc, hL⟩ := this; exact ⟨c, hc, IsL.ren l hL⟩
   | _ => exact this
 ·obtain ⟨j, _, rfl⟩ := key k e hk
  cases hn : nth H j with
  | none => rw [hn] at hg; simp [pickE, SO.fp] at hg
  | some e' =>
   rw [hn] at hg
   simp only [pickE] at hg
   rw [fp_renO] at hg
   exact h.fresh j e' g hn hg
 ·obtain ⟨j, hj, rfl⟩ := key k e hk
  obtain ⟨i, hi, rfl⟩ := key m e' hm
  cases hn : nth H j with
  | none => rw [hn] at hg; simp [pickE, SO.fp] at hg
  | some e1 =>
   cases hn2 : nth H i with
   | none => simp [pickE, SO.fp]
   | some e2 =>
    rw [hn] at hg
    simp only [pickE] at hg ⊢
    rw [fp_renO] at hg ⊢
    refine h.dist j i e1 e2 g (fun e => hkm ?_) hn hn2 hg
    subst e
    obtain ⟨hk1, he1⟩ := List.getElem?_eq_some_iff.1 hj
    obtain ⟨hk2, he2⟩ := List.getElem?_eq_some_iff.1 hi
    exact (List.getElem_inj hσ).1 (he1.trans he2.symm)
theorem lk_renF (σ : List Nat) : ∀ (F : List (Nat × SV)) (d : Nat), lk (renF σ F) d = renV σ (lk F d)
 | [], d => by simp [renF, lk, renV]
 | (e, v) :: F, d => by
  simp only [renF, lk]
  cases e == d with
  | true => rfl
  | false => exact lk_renF σ F d
theorem Rep.pick {E : Env} {s : SS} {a : Act} {W : World} (rep : Rep E s a W) (σ : List Nat) (hσ : σ.Nodup) : Rep E { F := renF σ s.F, H := pickH σ s.H σ } a W :=
 ⟨rep.size, fun d => by
  show Is _ (lk (renF σ s.F) d) _
  rw [lk_renF]; exact Is.ren _ (rep.frame d), rep.defers, rep.heap.pick σ hσ⟩
end Go.Sx
namespace Go.Sx
theorem ret_rvm {P : Program} {fn : Func} {keep : List Nat} {tab : Nat → XC} {R : Value → World → Prop} {E : Env} {s : SS} {rs : List RV} {vs : List Value} {D : Nat} (i : Nat) (hr : rvOf P fn.results.toList = some rs) (hm : E.marks = [D])
  (hi : nth s.H i = some (.obj D (.deferred (some [])))) (hv : denR (setn s.H i (.obj D (.deferred none))) s.F rs = some vs) (h : ∀ W, HeapOk E (setn s.H i (.obj D (.deferred none))) W → R (tupOf vs) W) : RetG (cxM P fn keep tab R) E s := by
 intro a W rep
 have hd : a.defers = [{ target := .collected D, args := #[] }] := by rw [rep.defers, hm]; rfl
 show LeavesInM _ _ _ _ _ _ a.defers .returning W
 rw [hd]
 have hb : W.heap[D]? = some (.deferred (some [])) := rep.heap.ents i _ hi
 refine ⟨by simp, .inl ⟨D, _, rfl, run_takeDeferred hb, ?_⟩⟩
 obtain ⟨x, hh⟩ := rep.heap.putObj hi (.deferred none)
 show LeavesIn _ _ _ _ _ _ [] .returning _
 have rep' : Rep E { F := s.F, H := setn s.H i (.obj D (.deferred none)) } a _ := rep.ext x hh
 exact ⟨_, run_resultsR rep' hr hv, h _ hh⟩
end Go.Sx
namespace Go.Sx
theorem Rep.nilH {E : Env} {s : SS} {a : Act} {W : World} (rep : Rep E s a W) (t : TypeId) (sz : Nat) : Rep E { F := s.F, H := s.H ++ [.own t 0 sz none 0 0 []] } a W := by
 have hx := HExt.push s.H (.own t 0 sz none 0 0 [])
 have hh : HeapOk E (s.H ++ [.own t 0 sz none 0 0 []]) W := rep.heap.pushG (row := none) (Nat.le_refl _) rfl rfl rfl (fun _ _ _ => rfl) (fun _ e => by cases e) (fun g hg => by simp [SO.fp] at hg) ⟨by simp, .inl ⟨rfl, rfl, fun a h => by cases h⟩⟩
 exact rep.ext hx hh
theorem HeapOk.off {E : Env} {H1 r : List SO} {W : World} (h : HeapOk E (H1 ++ r) W) {i : Nat} {e : SO} {g : Nat} (hi : nth r i = some e) (hg : e.fp = some g) : g < W.heap.size ∧ g ∉ fps H1 ∧ ¬ E.old g := by
 have hi' : nth (H1 ++ r) (H1.length + i) = some e := nth_right (by omega) (by rw [Nat.add_sub_cancel_left]; exact hi)
 refine ⟨(h.fresh _ e g hi' hg).1, fun hm => ?_, (h.fresh _ e g hi' hg).2⟩
 obtain ⟨j, e', hj, hg'⟩ := fps_mem.1 hm
 exact h.dist j (H1.length + i) e' e g (by have := nth_lt hj; omega) (nth_append_left hj) hi' hg' hg
theorem HeapOk.rowOff {E : Env} {H1 r : List SO} {W : World} (h : HeapOk E (H1 ++ r) W) {i : Nat} {t : TypeId} {ver sz n c : Nat} {A : Option Addr} {xs : List Value} (hi : nth r i = some (.own t ver sz A n c xs)) (nt : Nat) (mk : List Nat) : RowE ⟨W, W.heap.size, fps H1, nt, mk⟩ A xs := by
 have hi' : nth (H1 ++ r) (H1.length + i) = some (.own t ver sz A n c xs) := nth_right (by omega) (by rw [Nat.add_sub_cancel_left]; exact hi)
 intro j u hj
 obtain ⟨hl, ⟨rfl, rfl, hA⟩ | ⟨g, b, cur, rfl, hg, h1, h2, h3, h4⟩⟩ := h.ents _ _ hi'
 ·have := (List.getElem?_eq_some_iff.1 hj).1
  rw [hl] at this; simp at this
 ·have ho := h.off hi (g := g) rfl
  refine ⟨_, rfl, ⟨ho.1, ho.2.1⟩, ?_⟩
  have hg : W.heap[g]? = some (.cells cur t (0, 0)) := hg
  rw [add_lit, cell_of_row W g _ cur t (0, 0) hg]
  rw [← h4, List.getElem?_take] at hj
  split at hj
  ·rw [List.getElem?_drop] at hj; simpa using hj
  ·cases hj
theorem Rep.cut {E : Env} {F : List (Nat × SV)} {H1 r : List SO} {a : Act} {W : World} (rep : Rep E { F := F, H := H1 ++ r } a W) (hs : H1.all (scpO H1.length) = true) (hF : ∀ d, Is H1 (lk F d) (a.tmps.getD d undef)) : Rep ⟨W, W.heap.size, fps H1, E.nt, E.marks⟩ { F := F, H := H1 } a W ∧ Over E ⟨W, W.heap.size, fps H1, E.nt, E.marks⟩ := by
 have hh : HeapOk E H1 W := rep.heap.pre fun e he => List.all_eq_true.1 hs e he
 have := hh.rebase E.nt E.marks
 exact ⟨⟨rep.size, hF, rep.defers, this.1⟩, this.2⟩
structure MarksOk (E0 E : Env) : Prop where
 nodup : E.marks.Nodup
 ok : ∀ D ∈ E.marks, E.b.heap[D]? = some (.deferred (some [])) ∧ E.old D ∧ ¬ E0.old D
theorem MarksOk.nil (E0 E : Env) (h : E.marks = []) : MarksOk E0 E := ⟨by rw [h]; simp, fun D hD => by rw [h] at hD; simp at hD⟩
theorem MarksOk.over {E0 E E' : Env} (h : MarksOk E0 E) (o : Over E E') (hm : E'.marks = E.marks) : MarksOk E0 E' :=
 ⟨by rw [hm]; exact h.nodup, fun D hD => by
  rw [hm] at hD
  obtain ⟨h1, h2, h3⟩ := h.ok D hD
  exact ⟨by rw [o.keep.block D h2]; exact h1, o.sub D h2, h3⟩⟩
theorem MarksOk.more {E0 E E' : Env} (h : MarksOk E0 E) (o : Over E E') {D : Nat} (hm : E'.marks = D :: E.marks) (hD : E'.b.heap[D]? = some (.deferred (some []))) (h1 : E'.old D) (h2 : ¬ E.old D) (ho : Over E0 E) : MarksOk E0 E' := by
 refine ⟨?_, fun D' hD' => ?_⟩
 ·rw [hm]
  exact List.nodup_cons.2 ⟨fun hin => h2 (h.ok D hin).2.1, h.nodup⟩
 ·rw [hm] at hD'
  rcases List.mem_cons.1 hD' with e | e
  ·subst e; exact ⟨hD, h1, fun k => h2 (ho.sub _ k)⟩
  ·obtain ⟨k1, k2, k3⟩ := h.ok D' e
   exact ⟨by rw [o.keep.block D' k2]; exact k1, o.sub D' k2, k3⟩
theorem MarksOk.heap {E0 E : Env} (hm : MarksOk E0 E) (o : Over E0 E) {H : List SO} {W W' : World} (hW : HeapOk E H W) (hk : Keep (fun j => j ∉ E.marks) W W') : HeapOk E0 H W' :=
 HeapOk.others (o.heap hW) hW hk fun D hD => ⟨(hm.ok D hD).2.1, (hm.ok D hD).2.2⟩
end Go.Sx
namespace Go.Sx
theorem Rep.plain {E : Env} {F : List (Nat × SV)} {H : List SO} {a : Act} {W : World} (rep : Rep E { F := F, H := H } a W) (d : Nat) {i ver n c sz : Nat} {t : TypeId} {A : Option Addr} {xs : List Value} (hF : lk F d = .own i ver) (hi : nth H i = some (.own t ver sz A n c xs)) : Rep E { F := (d, .val (.slice A n c)) :: F, H := H } a W :=
 rep_swap d rep hF fun v h => by
  simp only [Is] at h ⊢
  obtain ⟨t', v', s', A', n', c', x', h1, h2, _, h4⟩ := h
  rw [hi] at h1
  injection h1 with h1
  injection h1 with e1 e2 e3 e4 e5 e6 e7
  subst e4; subst e5; subst e6
  exact h4 e2.symm
end Go.Sx
namespace Go.Sx
theorem HExt.nilTo (H : List SO) : HExt [] H := HExt.app [] H
theorem EntryOk.shut {H H' : List SO} {h : Nat → Option Obj} {e : SO} (hc : scpO 0 e = true) (k : EntryOk H h e) : EntryOk H' h e := by
 cases e with
 | cells g t l =>
  obtain ⟨c, h1, h2⟩ := k
  exact ⟨c, h1, (IsL.pre (H' := []) (r := H) l hc h2).ext (HExt.nilTo H')⟩
 | row => exact k
 | own => exact k
 | map => exact k
 | obj => exact k
 | gone => trivial
 | frz => exact k
def Apart (a b : SO) : Prop := ∀ g, a.fp = some g → b.fp ≠ some g
theorem Apart.symm {a b : SO} (h : Apart a b) : Apart b a := fun g hb ha => h g ha hb
theorem HeapOk.apart {E : Env} {H : List SO} {W : World} (h : HeapOk E H W) : H.Pairwise Apart := by
 rw [List.pairwise_iff_getElem]
 intro i j hi hj hij g
 exact h.dist i j _ _ g (by omega) (by rw [nth_eq, List.getElem?_eq_getElem hi]) (by rw [nth_eq, List.getElem?_eq_getElem hj])
theorem dist_of {H : List SO} (h : H.Pairwise Apart) : ∀ i j e e' g, i ≠ j → nth H i = some e → nth H j = some e' → e.fp = some g → e'.fp ≠ some g := by
 intro i j e e' g hij hi hj hg
 rw [nth_eq] at hi hj
 obtain ⟨h1, rfl⟩ := List.getElem?_eq_some_iff.1 hi
 obtain ⟨h2, rfl⟩ := List.getElem?_eq_some_iff.1 hj
 rw [List.pairwise_iff_getElem] at h
 rcases Nat.lt_or_gt_of_ne hij with hl | hl
 ·exact h i j h1 h2 hl g hg
 ·exact (h j i h2 h1 hl).symm g hg
theorem HeapOk.mk' {E : Env} {H : List SO} {W : World} (hk : Keep E.old E.b W) (hf : E.N ≤ W.heap.size) (he : ∀ e ∈ H, EntryOk H (fun g => W.heap[g]?) e) (hfr : ∀ e ∈ H, ∀ g, e.fp = some g → g < W.heap.size ∧ ¬ E.old g) (hd : H.Pairwise Apart) : HeapOk E H W where
 keep := hk
 floor := hf
 ents i e hi := he e (List.mem_of_getElem? (by rw [← nth_eq]; exact hi))
 fresh i e g hi := hfr e (List.mem_of_getElem? (by rw [← nth_eq]; exact hi)) g
 dist := dist_of hd
theorem HeapOk.ent {E : Env} {H : List SO} {W : World} (h : HeapOk E H W) {e : SO} (he : e ∈ H) : EntryOk H (fun g => W.heap[g]?) e := by
 obtain ⟨i, hi⟩ := List.getElem?_of_mem he
 exact h.ents i e (by rw [nth_eq]; exact hi)
theorem HeapOk.fr {E : Env} {H : List SO} {W : World} (h : HeapOk E H W) {e : SO} (he : e ∈ H) {g : Nat} (hg : e.fp = some g) : g < W.heap.size ∧ ¬ E.old g := by
 obtain ⟨i, hi⟩ := List.getElem?_of_mem he
 exact h.fresh i e g (by rw [nth_eq]; exact hi) hg
theorem HeapOk.back {E : Env} {H1 r H1' : List SO} {W W' : World} {nt : Nat} {mk : List Nat} (h : HeapOk E (H1 ++ r) W) (hr : ∀ e ∈ r, scpO 0 e = true) (k : HeapOk ⟨W, W.heap.size, fps H1, nt, mk⟩ H1' W') : HeapOk E (H1' ++ r) W' := by
 have old1 : ∀ j, E.old j → Env.old ⟨W, W.heap.size, fps H1, nt, mk⟩ j := fun j hj => ⟨Nat.lt_of_lt_of_le hj.1 h.floor, fun hm => by
  obtain ⟨i, e, hi, hg⟩ := fps_mem.1 hm
  exact (h.fresh i e j (nth_append_left hi) hg).2 hj⟩
 have oldr : ∀ e ∈ r, ∀ g, e.fp = some g → Env.old ⟨W, W.heap.size, fps H1, nt, mk⟩ g := fun e he g hg => by
  refine ⟨(h.fr (List.mem_append_right _ he) hg).1, fun hm => ?_⟩
  obtain ⟨j, e', hj, hg'⟩ := fps_mem.1 hm
  obtain ⟨i, hi⟩ := List.getElem?_of_mem he
  have hi' : nth (H1 ++ r) (H1.length + i) = some e := nth_right (by omega) (by rw [Nat.add_sub_cancel_left, nth_eq]; exact hi)
  exact h.dist j (H1.length + i) e' e g (by have := nth_lt hj; omega) (nth_append_left hj) hi' hg' hg
 refine HeapOk.mk' (h.keep.trans (k.keep.mono old1)) (Nat.le_trans h.floor k.floor) (fun e he => ?_) (fun e he g hg => ?_) ?_
 ·rcases List.mem_append.1 he with h1 | h1
  ·exact (k.ent h1).mono (HExt.app _ _) fun _ _ => rfl
  ·exact ((h.ent (List.mem_append_right _ h1)).mono (HExt.refl _) fun g hg => k.keep.block g (oldr e h1 g hg)).shut (hr e h1)
 ·rcases List.mem_append.1 he with h1 | h1
  ·exact ⟨(k.fr h1 hg).1, fun ho => (k.fr h1 hg).2 (old1 g ho)⟩
  ·have := h.fr (List.mem_append_right _ h1) hg
   exact ⟨Nat.lt_of_lt_of_le this.1 k.floor, this.2⟩
 ·rw [List.pairwise_append]
  refine ⟨k.apart, ((List.pairwise_append.1 h.apart).2).1, fun e he e' he' g hg hg' => ?_⟩
  exact (k.fr he hg).2 (oldr e' he' g hg')
theorem Is.app {H r : List SO} {s : SV} {v : Value} (h : Is H s v) : Is (H ++ r) s v := h.ext (HExt.app H r)
theorem Rep.back {E E' : Env} {H1 r H1' : List SO} {F : List (Nat × SV)} {a : Act} {W W' : World} {nt : Nat} {mk : List Nat} (h : HeapOk E (H1 ++ r) W) (hr : ∀ e ∈ r, scpO 0 e = true) (k : Rep E' { F := F, H := H1' } a W') (ho : Over ⟨W, W.heap.size, fps H1, nt, mk⟩ E') (hn : E'.nt = E.nt) (hm : E'.marks = E.marks) : Rep E { F := F, H := H1' ++ r } a W' :=
 ⟨k.size.trans hn, fun d => (k.frame d).app, by rw [k.defers, hm], h.back hr (ho.heap k.heap)⟩
mutual
theorem scp_mono {m : Nat} : ∀ (s : SV), scp 0 s = true → scp m s = true
 | .unk, _ => rfl
 | .val _, _ => rfl
 | .opq _ _, _ => rfl
 | .bt, _ => rfl
 | .bf, _ => rfl
 | .ptr i off, h => by simp [scp] at h
 | .adr A off, _ => rfl
 | .slc i off n c, h => by simp [scp] at h
 | .own i ver, h => by simp [scp] at h
 | .oad i ver off, h => by simp [scp] at h
 | .mp i, h => by simp [scp] at h
 | .agg l, h => by simp only [scp] at h ⊢; exact scpL_mono l h
 | .tup l, h => by simp only [scp] at h ⊢; exact scpL_mono l h
 | .fn f a b, h => by
  simp only [scp, Bool.and_eq_true] at h ⊢
  exact ⟨scpL_mono a h.1, scpL_mono b h.2⟩
theorem scpL_mono {m : Nat} : ∀ (l : List SV), scpL 0 l = true → scpL m l = true
 | [], _ => rfl
 | s :: l, h => by
  simp only [scpL, Bool.and_eq_true] at h ⊢
  exact ⟨scp_mono s h.1, scpL_mono l h.2⟩
end
theorem G.cut {C : Cx} {E : Env} {k : List KI} {F : List (Nat × SV)} {H1 r : List SO} (hs : H1.all (scpO H1.length) = true) (hF : leF H1.length F F)
  (next : ∀ W, HeapOk E (H1 ++ r) W → Over E ⟨W, W.heap.size, fps H1, E.nt, E.marks⟩ → G C ⟨W, W.heap.size, fps H1, E.nt, E.marks⟩ k { F := F, H := H1 }) : G C E k { F := F, H := H1 ++ r } := by
 intro a W rep
 have hF' : ∀ d, scp H1.length (lk F d) = true := fun d => by
  rcases leF_spec hF d with h | ⟨_, h⟩
  ·rw [h]; rfl
  ·exact h
 obtain ⟨r1, ov⟩ := Rep.cut rep hs (fun d => (rep.frame d).pre _ (hF' d))
 exact next W rep.heap ov a W r1
theorem HeapOk.rowAt' {E : Env} {H : List SO} {W : World} (h : HeapOk E H W) {i : Nat} {t : TypeId} {ver sz n c : Nat} {A : Option Addr} {xs : List Value} (hi : nth H i = some (.own t ver sz A n c xs)) : RowAt W A xs := by
 intro j u hj
 obtain ⟨hl, ⟨rfl, rfl, _⟩ | ⟨g, b, cur, rfl, hg, h1, h2, h3, h4⟩⟩ := h.ents i _ hi
 ·have := (List.getElem?_eq_some_iff.1 hj).1
  rw [hl] at this; simp at this
 ·have hg : W.heap[g]? = some (.cells cur t (0, 0)) := hg
  refine ⟨_, rfl, (Array.getElem?_eq_some_iff.1 hg).1, ?_⟩
  rw [add_lit, cell_of_row W g _ cur t (0, 0) hg]
  rw [← h4, List.getElem?_take] at hj
  split at hj
  ·rw [List.getElem?_drop] at hj; simpa using hj
  ·cases hj
theorem HeapOk.offO {E : Env} {H1 r : List SO} {W : World} (h : HeapOk E (H1 ++ r) W) {t : TypeId} {ver sz n c : Nat} {A : Option Addr} {xs : List Value} (he : SO.own t ver sz A n c xs ∈ r) (nt : Nat) (mk : List Nat) : RowE ⟨W, W.heap.size, fps H1, nt, mk⟩ A xs := by
 obtain ⟨i, hi⟩ := List.getElem?_of_mem he
 exact h.rowOff (i := i) (by rw [nth_eq]; exact hi) nt mk
def LeV (H : List SO) : List SV → List SV → Prop
 | [], [] => True
 | s :: l, s' :: l' => (∀ v, Is H s v → Is H s' v) ∧ LeV H l l'
 | _, _ => False
theorem LeV.is {H : List SO} : ∀ {l l' : List SV}, LeV H l l' → ∀ vs, IsL H l vs → IsL H l' vs
 | [], [], _, vs, h => h
 | s :: l, s' :: l', k, vs, h => by
  simp only [IsL] at h ⊢
  obtain ⟨v, r, h1, h2, h3⟩ := h
  exact ⟨v, r, k.1 v h1, LeV.is k.2 r h2, h3⟩
 | [], _ :: _, k, _, _ => k.elim
 | _ :: _, [], k, _, _ => k.elim
end Go.Sx
namespace Go.Sx
open Go
set_option maxRecDepth 100000
set_option linter.unusedVariables false
theorem splice_all {α : Type} (l vs : List α) (h : vs.length = l.length) : splice l 0 vs = vs := by
 rw [splice_eq _ _ _ (by omega)]
 simp [h]
end Go.Sx
