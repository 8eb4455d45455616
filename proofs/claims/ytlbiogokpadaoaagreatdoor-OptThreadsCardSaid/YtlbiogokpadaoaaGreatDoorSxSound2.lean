/- The engine, part 4: loads, stores, new blocks, built values. -/
import Derived.Test.YtlbiogokpadaoaaGreatDoorSxSound
set_option linter.unusedSimpArgs false
set_option linter.unusedVariables false
set_option linter.unnecessarySimpa false
namespace Go.Sx

theorem takeL_eq {α : Type} : ∀ (n : Nat) (l r : List α), takeL n l = some r → r = l.take n ∧ r.length = n ∧ n ≤ l.length
  | 0, l, r, h => by simp [takeL] at h; subst h; simp
  | n + 1, [], r, h => by simp [takeL] at h
  | n + 1, x :: l, r, h => by
    simp only [takeL] at h
    split at h
    · rename_i q hq
      obtain ⟨e, h1, h2⟩ := takeL_eq n l q hq
      injection h with h; subst h; subst e
      simp at h1 ⊢; omega
    · cases h
theorem dropL_eq {α : Type} : ∀ (n : Nat) (l : List α), dropL n l = l.drop n
  | 0, l => by simp [dropL]
  | n + 1, [] => by simp [dropL]
  | n + 1, x :: l => by simp [dropL, dropL_eq n l]
theorem splice_length {α : Type} : ∀ (l : List α) (off : Nat) (vs : List α), (splice l off vs).length = l.length
  | l, off, [] => rfl
  | l, off, v :: vs => by rw [splice, splice_length, setn_eq, List.length_set]
theorem splice_get {α : Type} : ∀ (l : List α) (off : Nat) (vs : List α) (j : Nat), off + vs.length ≤ l.length →
    (splice l off vs)[j]? = if off ≤ j ∧ j < off + vs.length then vs[j - off]? else l[j]?
  | l, off, [], j, _ => by simp only [splice, List.length_nil, Nat.add_zero]; rw [if_neg (by omega)]
  | l, off, v :: vs, j, h => by
    simp at h
    rw [splice, splice_get _ (off + 1) vs j (by rw [setn_eq, List.length_set]; omega), setn_eq]
    simp only [List.length_cons]
    by_cases h1 : off + 1 ≤ j ∧ j < off + 1 + vs.length
    · rw [if_pos h1, if_pos (by omega)]
      have : j - off = (j - (off + 1)) + 1 := by omega
      rw [this, List.getElem?_cons_succ]
    · rw [if_neg h1]
      by_cases h2 : j = off
      · subst h2
        rw [if_pos (by omega), List.getElem?_set_self (by omega)]; simp
      · rw [if_neg (by omega), List.getElem?_set_ne (by omega)]
theorem splice_eq {α : Type} (l : List α) (off : Nat) (vs : List α) (h : off + vs.length ≤ l.length) : splice l off vs = l.take off ++ vs ++ l.drop (off + vs.length) := by
  apply List.ext_getElem?
  intro j
  rw [splice_get l off vs j h]
  rw [List.append_assoc, List.getElem?_append, List.getElem?_append]
  have hl : (l.take off).length = off := by simp; omega
  rw [hl]
  by_cases h1 : j < off
  · rw [if_neg (by omega), if_pos h1, List.getElem?_take, if_pos h1]
  · rw [if_neg h1]
    by_cases h2 : j < off + vs.length
    · rw [if_pos (by omega), if_pos (by omega)]
    · rw [if_neg (by omega), if_neg (by omega), List.getElem?_drop]
      congr 1; omega

section
variable {H : List SO}
theorem IsL.length : ∀ {l : List SV} {us : List Value}, IsL H l us → us.length = l.length
  | [], us, h => by simp [IsL] at h; simp [h]
  | s :: l, us, h => by simp only [IsL] at h; obtain ⟨v, r, _, hr, rfl⟩ := h; simp [IsL.length hr]
theorem IsL.get : ∀ {l : List SV} {us : List Value} {j : Nat} {s : SV}, IsL H l us → l[j]? = some s → ∃ u, us[j]? = some u ∧ Is H s u
  | [], us, j, s, h, k => by simp at k
  | x :: l, us, 0, s, h, k => by
    simp only [IsL] at h; obtain ⟨v, r, hv, hr, rfl⟩ := h; simp at k; subst k; exact ⟨v, by simp, hv⟩
  | x :: l, us, j + 1, s, h, k => by
    simp only [IsL] at h; obtain ⟨v, r, hv, hr, rfl⟩ := h; simp at k
    obtain ⟨u, hu, hs⟩ := IsL.get hr k; exact ⟨u, by simpa using hu, hs⟩
theorem IsL.of_get : ∀ {l : List SV} {us : List Value}, us.length = l.length → (∀ (j : Nat) (s : SV) (u : Value), l[j]? = some s → us[j]? = some u → Is H s u) → IsL H l us
  | [], us, h, _ => by simp at h; simp [IsL, h]
  | s :: l, [], h, _ => by simp at h
  | s :: l, u :: us, h, k => by
    simp only [IsL]
    exact ⟨u, us, k 0 s u rfl rfl, IsL.of_get (by simpa using h) fun j s' u' h1 h2 => k (j + 1) s' u' (by simpa using h1) (by simpa using h2), rfl⟩
theorem IsL.takeDrop {l vs : List SV} {us : List Value} {n off : Nat} (h : IsL H l us) (ht : takeL n (dropL off l) = some vs) :
    IsL H vs ((us.drop off).take n) ∧ vs.length = n ∧ (n = 0 ∨ off + n ≤ l.length) := by
  obtain ⟨e, h1, h2⟩ := takeL_eq _ _ _ ht
  rw [dropL_eq] at e h2
  have hl := h.length
  have hlen : off + n ≤ l.length ∨ n = 0 := by simp at h2; omega
  refine ⟨?_, h1, ?_⟩
  · subst e
    refine IsL.of_get (by simp; omega) fun j s u hs hu => ?_
    rw [List.getElem?_take] at hs hu
    split at hs
    · rename_i hj
      rw [if_pos hj] at hu
      rw [List.getElem?_drop] at hs hu
      obtain ⟨u', hu', hi⟩ := h.get hs
      rw [hu'] at hu; injection hu with hu; subst hu; exact hi
    · cases hs
  · omega
theorem IsL.splice {l vs : List SV} {us ws : List Value} {off : Nat} (h : IsL H l us) (hv : IsL H vs ws) (hl : off + vs.length ≤ l.length) : IsL H (splice l off vs) (Sx.splice us off ws) := by
  have e1 := h.length; have e2 := hv.length
  refine IsL.of_get (by rw [splice_length, splice_length, e1]) fun j s u hs hu => ?_
  rw [splice_get _ _ _ _ hl] at hs
  rw [splice_get _ _ _ _ (by omega)] at hu
  rw [e2] at hu
  split at hs
  · rename_i hj; rw [if_pos hj] at hu
    obtain ⟨u', hu', hi⟩ := hv.get hs
    rw [hu'] at hu; injection hu with hu; subst hu; exact hi
  · rename_i hj; rw [if_neg hj] at hu
    obtain ⟨u', hu', hi⟩ := h.get hs
    rw [hu'] at hu; injection hu with hu; subst hu; exact hi
theorem IsL.append {l l' : List SV} {us us' : List Value} (h : IsL H l us) (h' : IsL H l' us') : IsL H (l ++ l') (us ++ us') := by
  induction l generalizing us with
  | nil => simp [IsL] at h; subst h; simpa using h'
  | cons s l ih =>
    simp only [IsL] at h; obtain ⟨v, r, hv, hr, rfl⟩ := h
    simp only [List.cons_append, IsL]
    exact ⟨v, r ++ us', hv, ih hr, rfl⟩
theorem IsL.svc (l : List Value) : IsL H (l.map Sx.svc) l := by
  induction l with
  | nil => simp [IsL]
  | cons v l ih => simp only [List.map_cons, IsL]; exact ⟨v, l, svc_is H v, ih, rfl⟩
end

theorem okCell_one {H : List SO} : ∀ {s : SV} {v : Value}, okCell s = true → Is H s v → v.oneCell' = true
  | .unk, v, h, _ => by simp [okCell] at h
  | .val u, v, h, k => by simp [Is] at k; subst k; cases v <;> first | rfl | simp [okCell] at h
  | .opq u hu, v, h, k => by simp [Is] at k; subst k; exact hu
  | .bt, v, _, k => by simp [Is] at k; subst k; rfl
  | .bf, v, _, k => by simp [Is] at k; subst k; rfl
  | .ptr i off, v, _, k => by simp only [Is] at k; obtain ⟨_, _, rfl⟩ := k; rfl
  | .adr A off, v, _, k => by simp only [Is] at k; subst k; rfl
  | .slc i off n c, v, _, k => by simp only [Is] at k; obtain ⟨_, _, rfl⟩ := k; rfl
  | .own i ver, v, _, k => by simp only [Is] at k; obtain ⟨_, _, _, _, _, _, _, _, _, ⟨_, _, _, rfl⟩, _⟩ := k; rfl
  | .oad i ver off, v, _, k => by simp only [Is] at k; obtain ⟨_, _, _, _, _, _, _, _, _, ⟨_, rfl⟩, _⟩ := k; rfl
  | .mp i, v, _, k => by simp only [Is] at k; obtain ⟨_, _, rfl⟩ := k; rfl
  | .agg l, v, h, _ => by simp [okCell] at h
  | .tup l, v, h, _ => by simp [okCell] at h
  | .fn f a b, v, _, k => by simp only [Is] at k; obtain ⟨_, _, _, _, rfl⟩ := k; rfl

theorem okL_one {H : List SO} : ∀ {l : List SV} {vs : List Value}, okL l = true → IsL H l vs → ∀ v ∈ vs, v.oneCell' = true
  | [], vs, _, k => by simp [IsL] at k; subst k; simp
  | s :: l, vs, h, k => by
    simp only [IsL] at k; obtain ⟨v, r, hv, hr, rfl⟩ := k
    simp only [okL] at h
    split at h
    · rename_i hs
      intro u hu
      rcases List.mem_cons.1 hu with rfl | hu
      · exact okCell_one hs hv
      · exact okL_one h hr u hu
    · cases h

theorem one_cells {v : Value} (h : v.oneCell' = true) : v.cells = #[v] := by cases v <;> first | rfl | simp [Value.oneCell'] at h

theorem cellsOf_spec {H : List SO} {n : Nat} {s : SV} {v : Value} {l : List SV} (h : cellsOf n s = some l) (k : Is H s v) :
    ∃ us : List Value, v.cells = us.toArray ∧ IsL H l us ∧ us.length = n ∧ ∀ u ∈ us, u.oneCell' = true := by
  have single : ∀ (s : SV), (match n == 1, okCell s with | true, true => some [s] | _, _ => none) = some l → Is H s v → ∃ us : List Value, v.cells = us.toArray ∧ IsL H l us ∧ us.length = n ∧ ∀ u ∈ us, u.oneCell' = true := by
    intro s h k
    split at h
    · rename_i h1 h2
      injection h with h; subst h
      have := okCell_one h2 k
      have hn : n = 1 := by simpa using h1
      exact ⟨[v], one_cells this, by simp [IsL]; exact k, by simp [hn], by simpa using this⟩
    · cases h
  cases s with
  | agg l' =>
    simp only [cellsOf] at h
    split at h
    · rename_i h1 h2
      injection h with h; subst h
      simp only [Is] at k
      obtain ⟨vs, hl, rfl⟩ := k
      exact ⟨vs, rfl, hl, by rw [hl.length]; simpa using h1, okL_one h2 hl⟩
    · cases h
  | _ => exact single _ h k

section
variable {E : Env} {P : Program} {s : SS} {K : SV → List SO → Prop} {o : Oper} {a : Act} {W : World}

theorem s_fld {t : TypeId} {fs : Array Field} {i n : Nat} {fd : Field} {x : Operand} (ht : P.underlying t = some (.struct fs)) (hf : fs[i]? = some fd) (hz : szT P fd.type = some (n + 1))
    (ho : o.op = .fieldAddr t x i) (rep : Rep E s a W) (h : xk E s K (.fld fd.offset x)) : ResP P s K o a := by
  have key : ∀ A, a.eval x = .pointer (some A) → ∀ W2 : World, (execOp a.eval o).run P W2 = .ok (.value (.pointer (some (A.add fd.offset)))) W2 := by
    intro A hx
    simp [execOp, ho, Instr.fieldAt, hx, run_underlying ht, hf, Instr.sureAddr, fieldPlace, run_sizeOf hz]
  have hx := rep.ev x
  simp only [xk] at h
  split at h
  · rename_i e off e1
    rw [e1] at hx; simp only [Is] at hx
    obtain ⟨g, hg, hv⟩ := hx
    refine ResP.mk (key _ hv) h ?_
    simp only [Is]; exact ⟨g, hg, by rw [add_lit]⟩
  · rename_i e ver off e1
    rw [e1] at hx; simp only [Is] at hx
    obtain ⟨t0, ver', sz0, A, m, c, xs, hm, hle, _, hv⟩ := hx
    obtain ⟨t1, sz1, A1, n1, c1, xs1, he, hk⟩ := cur_spec h
    rw [hm] at he; injection he with he; injection he with f1 f2 f3 f4 f5 f6 f7
    subst f1; subst f2; subst f3; subst f4; subst f5; subst f6; subst f7
    obtain ⟨A', rfl, hv'⟩ := hv rfl
    refine ResP.mk (key _ hv') hk ?_
    simp only [Is]
    exact ⟨_, _, _, _, _, _, _, hm, hle, ⟨_, rfl⟩, fun _ => ⟨_, rfl, by rw [add_add]⟩⟩
  · rename_i A off e1
    rw [e1] at hx; simp only [Is] at hx
    obtain ⟨hA, hk⟩ := h
    obtain ⟨A', rfl⟩ := Option.isSome_iff_exists.1 hA
    refine ResP.mk (key _ hx) hk ?_
    simp [Is, add_add]
  · exact h.elim

theorem run_isAgg (P : Program) (t : TypeId) (h : (P.underlying t).isSome = true) (W : World) : (isAgg t).run P W = .ok (isAggT P t) W := by
  obtain ⟨d, hd⟩ := Option.isSome_iff_exists.1 h
  simp only [isAgg, Sem.run_bind, run_underlying hd, Result.andThen_ok, isAggT, hd]
  cases d <;> rfl

theorem one_spec {agg : Bool} {l : List SV} {C : SV → Prop} (h : one agg l C) : (agg = true ∧ C (.agg l)) ∨ (agg = false ∧ ∃ v, l = [v] ∧ C v) := by
  unfold one at h
  split at h
  · exact .inl ⟨rfl, h⟩
  · exact .inr ⟨rfl, _, rfl, h⟩
  · exact h.elim

theorem ckEx_spec {H : List SO} {c : CK} {F : Value → Prop} {C : SV → Prop} (h : ckEx c F C) : ∃ u s, F u ∧ Is H s u ∧ C s := by
  cases c <;> simp only [ckEx] at h
  · obtain ⟨n, h1, h2⟩ := h; exact ⟨_, _, h1, by simp [Is], h2⟩
  · obtain ⟨n, h1, h2⟩ := h; exact ⟨_, _, h1, by simp [Is], h2⟩
  · obtain ⟨n, h1, h2⟩ := h; exact ⟨_, _, h1, by simp [Is], h2⟩
  · obtain ⟨n, h1, h2⟩ := h; exact ⟨_, _, h1, by cases n <;> simp [Is, Addr.add], h2⟩
  · obtain ⟨p, n, c, h1, h2⟩ := h; exact ⟨_, _, h1, by simp [Is], h2⟩
  · obtain ⟨n, h1, h2⟩ := h; exact ⟨_, _, h1, by simp [Is], h2⟩
  · obtain ⟨n, h1, hn, h2⟩ := h; exact ⟨_, _, h1, by simp [Is], h2⟩
  · obtain ⟨n, h1, hn, h2⟩ := h; exact ⟨_, _, h1, by simp [Is], h2⟩

theorem ckExL_spec {H : List SO} : ∀ {cks : List CK} {F : Nat → Value → Prop} {off : Nat} {C : List SV → Prop}, ckExL cks F off C →
    ∃ us l, us.length = cks.length ∧ (∀ j u, us[j]? = some u → F (off + j) u) ∧ IsL H l us ∧ C l
  | [], F, off, C, h => ⟨[], [], rfl, by simp, by simp [IsL], h⟩
  | c :: cks, F, off, C, h => by
    simp only [ckExL] at h
    obtain ⟨u, sv, hu, hi, h⟩ := ckEx_spec (H := H) h
    obtain ⟨us, l, hl, hF, hL, hC⟩ := ckExL_spec h
    refine ⟨u :: us, sv :: l, by simp [hl], ?_, by simp only [IsL]; exact ⟨u, us, hi, hL, rfl⟩, hC⟩
    intro j v hj
    cases j with
    | zero => simp at hj; subst hj; exact hu
    | succ j => simp at hj; have := hF j v hj; rwa [show off + 1 + j = off + (j + 1) by omega] at this

theorem s_load {t : TypeId} {cks : List CK} {x : Operand} (hpos : 0 < cks.length) (hu : (P.underlying t).isSome = true) (hz : szT P t = some cks.length) (ho : o.op = .load t x) (rep : Rep E s a W)
    (h : xk E s K (.load cks (isAggT P t) x)) : ResR P s K o a W := by
  have key : ∀ (A : Addr) (us : List Value), a.eval x = .pointer (some A) → us.length = cks.length → (∀ j u, us[j]? = some u → W.cell? (A.add j) = some u) →
      ∀ W2, Grow W W2 → (isAggT P t = true → (execOp a.eval o).run P W2 = .ok (.value (.agg us.toArray)) W2) ∧ (isAggT P t = false → ∀ u, us = [u] → (execOp a.eval o).run P W2 = .ok (.value u) W2) := by
    intro A us hx hl hc W2 hgr
    have hc : ∀ (j : Nat) (u : Value), us[j]? = some u → W2.cell? (A.add j) = some u := fun j u hj => hgr.cell (hc j u hj)
    have hlc := run_loadCells_list (P := P) W2 A us hc
    rw [hl] at hlc
    constructor
    · intro hg
      simp only [execOp, ho, Instr.loadAt, hx, Instr.sureAddr, loadVar, Sem.run_bind, Sem.run_pure, Result.andThen_ok, run_isAgg P t hu, hg, if_true, run_sizeOf hz, hlc]
    · intro hg u e
      subst e
      have h0 := hc 0 u rfl
      simp only [Addr.add, if_true] at h0
      simp only [execOp, ho, Instr.loadAt, hx, Instr.sureAddr, loadVar, Sem.run_bind, Sem.run_pure, Result.andThen_ok, run_isAgg P t hu, hg, Bool.false_eq_true, if_false, run_load, h0]
  have fin : ∀ (A : Addr) (us : List Value) (l : List SV), a.eval x = .pointer (some A) → us.length = cks.length → (∀ j u, us[j]? = some u → W.cell? (A.add j) = some u) → IsL s.H l us →
      one (isAggT P t) l (fun v => K v s.H) → ResR P s K o a W := by
    intro A us l hx hl hc hL h1
    rcases one_spec h1 with ⟨hg, hk⟩ | ⟨hg, v, rfl, hk⟩
    · exact ⟨_, _, fun W2 g => (key A us hx hl hc W2 g).1 hg, hk, (by simp only [Is]; exact ⟨us, hL, rfl⟩)⟩
    · simp only [IsL] at hL
      obtain ⟨u, r, hi, rfl, rfl⟩ := hL
      exact ⟨_, _, fun W2 g => (key A [u] hx hl hc W2 g).2 hg u rfl, hk, hi⟩
  have hx := rep.ev x
  simp only [xk, xload] at h
  split at h
  · rename_i i off e1
    rw [e1] at hx; simp only [Is] at hx
    obtain ⟨g, hg, hv⟩ := hx
    unfold atEntry at h
    rw [blk_eq] at hg
    split at h
    · rename_i g' t' l hn
      rw [hn] at hg; simp only [Option.bind_some, SO.blk] at hg; injection hg with hg; subst hg
      split at h
      · rename_i vs htk
        obtain ⟨c, hc, hL⟩ := rep.heap.ents i _ hn
        obtain ⟨hL', hlen, _⟩ := hL.takeDrop htk
        refine fin ⟨g', off, none⟩ _ vs hv (by rw [hL'.length, hlen]) ?_ hL' h
        intro j u hj
        rw [List.getElem?_take] at hj
        split at hj
        · rw [List.getElem?_drop] at hj
          rw [add_lit, cell_of_row W g' _ c t' (0, 0) hc]
          simpa using hj
        · cases hj
      · exact h.elim
    · rename_i g' t' xs hn
      rw [hn] at hg; simp only [Option.bind_some, SO.blk] at hg; injection hg with hg; subst hg
      obtain ⟨us, l, hl, hF, hL, hk⟩ := ckExL_spec (H := s.H) h
      have hc := rep.heap.ents i _ hn
      refine fin ⟨g', off, none⟩ us l hv hl ?_ hL hk
      intro j u hj
      rw [add_lit, cell_of_row W g' _ xs.toArray t' (0, 0) hc]
      simpa using hF j u hj
    · rename_i g' t' xs hn
      rw [hn] at hg; simp only [Option.bind_some, SO.blk] at hg; injection hg with hg; subst hg
      obtain ⟨us, l, hl, hF, hL, hk⟩ := ckExL_spec (H := s.H) h
      obtain ⟨cur, z, hc, hcx⟩ := rep.heap.ents i _ hn
      refine fin ⟨g', off, none⟩ us l hv hl ?_ hL hk
      intro j u hj
      rw [add_lit, cell_of_row W g' _ cur t' z hc]
      have h1 := hF j u hj
      rw [← hcx, List.getElem?_take] at h1
      split at h1
      · simpa using h1
      · cases h1
    · exact h.elim
  · rename_i A off e1
    rw [e1] at hx; simp only [Is] at hx
    obtain ⟨us, l, hl, hF, hL, hk⟩ := ckExL_spec (H := s.H) h
    cases A with
    | none =>
      cases cks with
      | nil => simp at hpos
      | cons c cks =>
        cases us with
        | nil => simp at hl
        | cons u us => obtain ⟨A', e, _⟩ := hF 0 u rfl; cases e
    | some A' =>
      refine fin (A'.add off) us l hx hl ?_ hL hk
      intro j u hj
      obtain ⟨A2, e, hold, hc⟩ := hF j u hj
      injection e with e; subst e
      rw [add_add]
      have := rep.heap.keep.block A'.block hold
      have hb : (A'.add (off + j)).block = A'.block := by unfold Addr.add; split <;> rfl
      have e2 : W.cell? (A'.add (off + j)) = E.b.cell? (A'.add (off + j)) := by unfold World.cell?; rw [hb, this]
      rw [e2]; exact hc
  · rename_i i ver off e1
    rw [e1] at hx; simp only [Is] at hx
    obtain ⟨t0, ver', sz0, A, m, c, xs, hm, hle, _, hv⟩ := hx
    obtain ⟨t1, sz1, A1, n1, c1, xs1, he, hk⟩ := cur_spec h
    rw [hm] at he; injection he with he; injection he with f1 f2 f3 f4 f5 f6 f7
    subst f1; subst f2; subst f3; subst f4; subst f5; subst f6; subst f7
    obtain ⟨A', rfl, hv'⟩ := hv rfl
    obtain ⟨us, l, hl, hF, hL, hk⟩ := ckExL_spec (H := s.H) hk
    obtain ⟨hxl, hr⟩ := rep.heap.ents i _ hm
    rcases hr with ⟨e, _⟩ | ⟨g, cur, e, hg, hn1, hn2, hcs, htk⟩
    · cases e
    injection e with e; subst e
    refine fin _ us l hv' hl ?_ hL hk
    intro j u hj
    have := hF j u hj
    rw [add_add, add_lit, cell_of_row W g _ cur _ (0, 0) hg, ← htk] at *
    rw [List.getElem?_take] at this
    split at this
    · simpa using this
    · cases this
  · exact h.elim

end
end Go.Sx
