/- The engine: other words for the same memory. -/
import Derived.Test.YtaiajnehnjnadaaDoorSxStill
set_option linter.unusedSimpArgs false
set_option linter.unusedVariables false
set_option linter.unnecessarySimpa false
namespace Go.Sx
end Go.Sx
namespace Go.Sx
def fps (H : List SO) : List Nat := H.filterMap SO.fp
theorem fps_mem {H : List SO} {g : Nat} : g ∈ fps H ↔ ∃ i e, nth H i = some e ∧ e.fp = some g := by
 unfold fps
 rw [List.mem_filterMap]
 constructor
 ·rintro ⟨e, he, hg⟩
  obtain ⟨i, hi⟩ := List.getElem?_of_mem he
  exact ⟨i, e, by rw [nth_eq]; exact hi, hg⟩
 ·rintro ⟨i, e, hi, hg⟩
  exact ⟨e, List.mem_of_getElem? (by rw [← nth_eq]; exact hi), hg⟩
structure Over (E E' : Env) : Prop where
 keep : Keep E.old E.b E'.b
 sub : ∀ j, E.old j → E'.old j
 floor : E.N ≤ E'.N
theorem Over.refl (E : Env) : Over E E := ⟨Keep.refl _ _, fun _ h => h, Nat.le_refl _⟩
theorem Over.trans {A B C : Env} (h : Over A B) (k : Over B C) : Over A C := ⟨h.keep.trans (k.keep.mono h.sub), fun j hj => k.sub j (h.sub j hj), Nat.le_trans h.floor k.floor⟩
theorem Over.env {E A B : Env} (hb : B.b = A.b) (hN : B.N = A.N) (hs : B.stolen = A.stolen) (h : Over E A) : Over E B := by
 obtain ⟨b, N, st, nt, mk⟩ := A
 obtain ⟨b', N', st', nt', mk'⟩ := B
 simp only at hb hN hs
 subst hb; subst hN; subst hs
 exact ⟨h.keep, h.sub, h.floor⟩
theorem Over.heap {E E' : Env} {H : List SO} {W : World} (h : Over E E') (hh : HeapOk E' H W) : HeapOk E H W where
 keep := h.keep.trans (hh.keep.mono h.sub)
 floor := Nat.le_trans h.floor hh.floor
 ents := hh.ents
 fresh i e g hi hg := ⟨(hh.fresh i e g hi hg).1, fun ho => (hh.fresh i e g hi hg).2 (h.sub g ho)⟩
 dist := hh.dist
theorem Over.cell {E E' : Env} (h : Over E E') {A : Option Addr} {j : Nat} {v : Value} (hc : CellAt E A j v) : CellAt E' A j v := by
 obtain ⟨a, rfl, ho, hv⟩ := hc
 refine ⟨a, rfl, h.sub _ ho, ?_⟩
 rw [← hv]
 unfold World.cell?
 rw [add_block, h.keep.block _ ho]
theorem HeapOk.rebase {E : Env} {H : List SO} {W : World} (h : HeapOk E H W) (nt : Nat) (mk : List Nat) : HeapOk ⟨W, W.heap.size, fps H, nt, mk⟩ H W ∧ Over E ⟨W, W.heap.size, fps H, nt, mk⟩ := by
 refine ⟨⟨Keep.refl _ _, Nat.le_refl _, h.ents, fun i e g hi hg => ⟨(h.fresh i e g hi hg).1, fun ho => ho.2 (fps_mem.2 ⟨i, e, hi, hg⟩)⟩, h.dist⟩, ⟨h.keep, fun j hj => ⟨Nat.lt_of_lt_of_le hj.1 h.floor, fun hm => ?_⟩, h.floor⟩⟩
 obtain ⟨i, e, hi, hg⟩ := fps_mem.1 hm
 exact (h.fresh i e j hi hg).2 hj
theorem Rep.rebase {E : Env} {s : SS} {a : Act} {W : World} (rep : Rep E s a W) : Rep ⟨W, W.heap.size, fps s.H, E.nt, E.marks⟩ s a W :=
 ⟨rep.size, rep.frame, rep.defers, (rep.heap.rebase _ _).1⟩
theorem HExt.app (H r : List SO) : HExt H (H ++ r) where
 blk i g h := by
  rw [blk_eq] at *
  cases hn : nth H i with
  | none => simp [hn] at h
  | some e' => rw [nth_append_left hn]; rw [hn] at h; exact h
 own i t ver sz A n c xs h := ⟨_, _, _, _, _, _, _, nth_append_left h, Nat.le_refl _, fun _ => ⟨rfl, rfl, rfl⟩⟩
theorem nth_app {H r : List SO} {i : Nat} {e : SO} (h : nth (H ++ r) i = some e) : (i < H.length ∧ nth H i = some e) ∨ (H.length ≤ i ∧ nth r (i - H.length) = some e) := by
 rw [nth_eq] at h
 by_cases hi : i < H.length
 ·rw [List.getElem?_append_left hi] at h
  exact .inl ⟨hi, by rw [nth_eq]; exact h⟩
 ·rw [List.getElem?_append_right (by omega)] at h
  exact .inr ⟨by omega, by rw [nth_eq]; exact h⟩
theorem nth_right {H r : List SO} {i : Nat} {e : SO} (hi : H.length ≤ i) (h : nth r (i - H.length) = some e) : nth (H ++ r) i = some e := by
 rw [nth_eq, List.getElem?_append_right hi, ← nth_eq]; exact h
theorem HExt.front {H H' : List SO} (r : List SO) (x : HExt H H') (hl : H'.length = H.length) : HExt (H ++ r) (H' ++ r) where
 blk i g h := by
  rw [blk_eq] at h ⊢
  cases hn : nth (H ++ r) i with
  | none => simp [hn] at h
  | some e =>
   rw [hn] at h
   rcases nth_app hn with ⟨h1, h2⟩ | ⟨h1, h2⟩
   ·have := x.blk i g (by rw [blk_eq, h2]; exact h)
    rw [blk_eq] at this
    cases hm : nth H' i with
    | none => simp [hm] at this
    | some e' => rw [nth_append_left hm]; rw [hm] at this; exact this
   ·rw [nth_right (by omega) (by rw [hl]; exact h2)]; exact h
 own i t ver sz A n c xs h := by
  rcases nth_app h with ⟨h1, h2⟩ | ⟨h1, h2⟩
  ·obtain ⟨t', v', s', A', n', c', x', e, r1, r2⟩ := x.own i _ _ _ _ _ _ _ h2
   exact ⟨t', v', s', A', n', c', x', nth_append_left e, r1, r2⟩
  ·exact ⟨_, _, _, _, _, _, _, nth_right (by omega) (by rw [hl]; exact h2), Nat.le_refl _, fun _ => ⟨rfl, rfl, rfl⟩⟩
theorem HeapOk.lend {E : Env} {H1 r : List SO} {W : World} (h : HeapOk E (H1 ++ r) W) (hs : ∀ e ∈ H1, scpO H1.length e = true) (nt : Nat) (mk : List Nat) : HeapOk ⟨W, W.heap.size, fps H1, nt, mk⟩ H1 W :=
 ((h.pre hs).rebase nt mk).1
def RowE (E : Env) (A : Option Addr) (xs : List Value) : Prop := ∀ j u, xs[j]? = some u → CellAt E A j u
theorem RowE.cell {E : Env} {A : Option Addr} {xs : List Value} (h : RowE E A xs) {j : Nat} {u : Value} (hj : xs[j]? = some u) : CellAt E A j u := h j u hj
theorem RowE.over {E E' : Env} {A : Option Addr} {xs : List Value} (h : RowE E A xs) (o : Over E E') : RowE E' A xs := fun j u hj => o.cell (h j u hj)
theorem RowE.env {E E' : Env} (hb : E'.b = E.b) (hN : E'.N = E.N) (hs : E'.stolen = E.stolen) {A : Option Addr} {xs : List Value} (h : RowE E A xs) : RowE E' A xs := h.over ((Over.refl E).env hb hN hs)
theorem RowE.isSome {E : Env} {A : Option Addr} {xs : List Value} (h : RowE E A xs) {j : Nat} (hj : j < xs.length) : A.isSome = true := by
 obtain ⟨a, rfl, _⟩ := h j xs[j] (List.getElem?_eq_getElem hj); rfl
theorem RowE.at {E : Env} {A : Option Addr} {xs : List Value} {H : List SO} {W : World} (h : RowE E A xs) (hW : HeapOk E H W) : RowAt W A xs := by
 intro j u hj
 obtain ⟨a, rfl, ho, hv⟩ := h j u hj
 refine ⟨a, rfl, Nat.lt_of_lt_of_le ho.1 hW.floor, ?_⟩
 rw [← hv]
 unfold World.cell?
 rw [add_block, hW.keep.block _ ho]
end Go.Sx
namespace Go.Sx
theorem call_base {C : Cx} {E : Env} {d : Option Nat} {f : FuncId} {args : List Operand} {l : List XS} {k : List KI} {s : SS} {vs : List Value} (hargs : denL s.H (evL s.F args) = some vs)
  {R : World → Value → World → Prop} (hc : ∀ W, HeapOk E s.H W → CallsV C.P f vs W (R W)) (hk : ∀ W v W', R W v W' → Fresh W W')
  (next : ∀ W v W', HeapOk E s.H W → R W v W' → Over E ⟨W', W'.heap.size, fps s.H, E.nt, E.marks⟩ → ∃ sv, Is s.H sv v ∧ G C ⟨W', W'.heap.size, fps s.H, E.nt, E.marks⟩ (.ops l :: k) { F := putF s.F d sv, H := s.H }) :
  G C E (.ops ({ dst := d, guard := none, i := .call f args } :: l) :: k) s := by
 intro a W rep ops ol hol
 obtain ⟨q, rest, rfl, ho, hl⟩ := cmpL_cons hol
 obtain ⟨op, rfl, hd, hdst, hg, hi⟩ := cmpO_spec ho rfl
 obtain ⟨c, hop, hcal, hargs', hok⟩ := cmpI_call hi
 have hn := cmpK_none hi (by simp)
 have hw := wanted_none hg a
 show stepS C.r C.P ops _ op _ a W
 unfold stepS
 rw [if_pos hw, cl_other hop hn]
 refine ⟨fun _ _ => trivial, ?_⟩
 have hnd : ∀ c', op.op ≠ .defer c' := by intro c' e; rw [hop] at e; cases e
 have hvs : (c.args.map a.eval) = vs.toArray := by
  have := denL_is _ hargs (rep.evL args)
  rw [← hargs'] at this
  rw [← this, ← Array.toList_map, Array.toArray_toList]
 have hrun : (execOp a.eval op).run C.P W = .ok (.enter f vs.toArray) W := by
  simp only [execOp, hop, resolve, hcal, Act.eval, hvs, Deferred.ofValue, Sem.run_bind, Sem.run_pure, Result.andThen_ok, invoke, Array.append_empty, Array.empty_append]
  exact run_callFunc hok _ W
 rw [Oper.semAt_eq _ _ _ hnd, hrun]
 refine ⟨fun h => by simp [WF, Fence.wide] at h, ?_⟩
 refine callsIn_WF.2 ?_
 refine Calls.mono (hc W rep.heap) fun e W' he => ?_
 cases e with
 | returned v =>
  have hh : HeapOk E s.H W' := rep.heap.freshK (hk W v W' he)
  obtain ⟨sv, h1, h4⟩ := next W v W' rep.heap he (hh.rebase E.nt E.marks).2
  have hdst' : d = op.dst := hdst
  have hr : Rep E { F := putF s.F d sv, H := s.H } (a.put op.dst v) W' := by
   rw [← hdst']; exact (rep.ext (HExt.refl _) hh).put (fun m hm => hd m (by rw [← hdst']; exact hm)) h1
  exact h4 (a.put op.dst v) W' hr.rebase ops rest hl
 | panicked ch => exact he.elim
 | outgrown => exact he.elim
theorem ret_rvm {P : Program} {fn : Func} {keep : List Nat} {tab : Nat → XC} {R : Value → World → Prop} {E : Env} {s : SS} {rs : List RV} {vs : List Value} {D : Nat} (i : Nat) (hr : rvOf P fn.results.toList = some rs) (hm : E.marks = [D])
  (hi : nth s.H i = some (.obj D (.deferred (some [])))) (hv : denR (setn s.H i (.obj D (.deferred none))) s.F rs = some vs) (h : ∀ W, HeapOk E (setn s.H i (.obj D (.deferred none))) W → R (tupOf vs) W) : RetG (cxM P fn keep tab R) E s := by
 intro a W rep
 have hd : a.defers = [{ target := .collected D, args := #[] }] := by rw [rep.defers, hm]; rfl
 show LeavesInM _ _ _ _ _ _ a.defers .returning W
 rw [hd]
 have hb : W.heap[D]? = some (.deferred (some [])) := rep.heap.ents i _ hi
 refine ⟨by simp, .inl ⟨D, _, rfl, run_takeDeferred hb, ?_⟩⟩
 obtain ⟨x, hh⟩ := rep.heap.putObj hi (.deferred none)
 show LeavesIn _ _ _ _ _ _ [] .returning _
 have rep' : Rep E { F := s.F, H := setn s.H i (.obj D (.deferred none)) } a _ := rep.ext x hh
 exact ⟨_, run_resultsR rep' hr hv, h _ hh⟩
theorem ownsB_low {w : World} {N M : Nat} {t : TypeId} {sz n : Nat} {v : Value} {xs : List Value} (h : World.ownsB w N t sz v n xs) (hm : M ≤ N) : World.ownsB w M t sz v n xs := by
 obtain ⟨hl, ⟨A, h1, h2, h3⟩ | ⟨g, b, cap, cur, h1, h2, h3⟩⟩ := h
 ·exact ⟨hl, .inl ⟨A, h1, h2, fun a ha => ⟨Nat.le_trans hm (h3 a ha).1, (h3 a ha).2⟩⟩⟩
 ·exact ⟨hl, .inr ⟨g, b, cap, cur, h1, Nat.le_trans hm h2, h3⟩⟩
theorem Fresh.tr {a b c : World} (h : Fresh a b) (k : Fresh b c) : Fresh a c := Keep.trans h (Keep.mono k fun j hj => Nat.lt_of_lt_of_le hj h.size)
theorem ownsB_max {w : World} {N : Nat} {t : TypeId} {sz n : Nat} {v : Value} {xs : List Value} (ho : World.ownsB w N t sz v n xs) : n ≤ maxLen := by
 obtain ⟨_, ⟨_, _, h0, _⟩ | ⟨g, b, cap, cur, _, _, _, h1, h2, _⟩⟩ := ho
 ·rw [h0]; exact Nat.zero_le _
 ·exact Nat.le_trans h1 h2
end Go.Sx
