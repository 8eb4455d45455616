/- The engine: append. -/
import Derived.Test.YtlbiogokpadaoaaGreatDoorSxSound3
set_option linter.unusedSimpArgs false
set_option linter.unusedVariables false
set_option linter.unnecessarySimpa false
namespace Go.Sx

section
variable {E : Env} {P : Program} {s : SS} {K : SV → List SO → Prop} {o : Oper} {a : Act} {W : World}

def SrcOk (W : World) (sz : Nat) (x : Value) (m : Nat) (news : List Value) : Prop :=
  news.length = m * sz ∧ (∀ u ∈ news, u.oneCell' = true) ∧ ((∃ a c, x = .slice (some a) m c ∧ ∀ j u, news[j]? = some u → W.cell? (a.add j) = some u) ∨ (m = 0 ∧ ∃ c, x = .slice none 0 c))

theorem run_app {T ty t : TypeId} {i : TypeInfo} {z : Value} {sz bytes : Nat} (hT : P.underlying T = some (.slice t)) (hi : P.info? t = some i) (hz : i.zero = some z) (hsz : i.size = sz) (hby : i.bytes = bytes)
    (hzs : z.cells.size = sz) (hpos : 0 < sz) {v x : Value} {n m : Nat} {xs news : List Value} (hown : W.ownsRow 0 t sz v n xs) (hs : SrcOk W sz x m news) (h63 : n + m ≤ maxLen) (hb : (n + m) * bytes ≤ 140737488355328) :
    ∃ v' W', (Builtin.append_ #[T, T] ty #[v, x]).run P W = .ok v' W' ∧ W'.ownsRow 0 t sz v' (n + m) (xs ++ news) ∧ W.grownBy W' v.ownBlock ∧ (v'.ownBlock = v.ownBlock ∨ v'.ownBlock = some W.heap.size) := by
  obtain ⟨hl, h1, ⟨a, c, rfl, hc⟩ | ⟨rfl, c, rfl⟩⟩ := hs
  · obtain ⟨v', W', hr, h2, h3, _, h4⟩ := run_append_own_at (P := P) W 0 T ty t i z sz bytes hT hi hz hsz hby hzs hpos v n xs hown a m c news hl hc h1 h63 hb (Nat.zero_le _)
    exact ⟨v', W', hr, h2, h3, h4⟩
  · have hn : news = [] := List.eq_nil_of_length_eq_zero (by simpa using hl)
    subst hn
    refine ⟨v, W, ?_, by simpa using hown, World.grownBy.refl W _, .inl rfl⟩
    rcases hown.2 with ⟨rfl, rfl⟩ | ⟨g, cap, cur, rfl, _, _, hnc, _⟩
    · simp [Builtin.append_, run_underlying hT, sizeOf, typeInfo, hi, Builtin.lenOf, Builtin.firstCells]
    · simp [Builtin.append_, run_underlying hT, sizeOf, typeInfo, hi, Builtin.lenOf, Builtin.firstCells, hnc, storeCells]

theorem own_of {v : Value} {n sz : Nat} {t : TypeId} {xs : List Value} {H : List SO} (h : W.ownsRow 0 t sz v n xs) : ∃ A c, v = .slice A n c ∧ v.ownBlock = A.map (·.block) ∧ ∀ ver, EntryOk H (fun g => W.heap[g]?) (.own t ver sz A n c xs) := by
  obtain ⟨hl, ⟨rfl, rfl⟩ | ⟨g, cap, cur, rfl, _, hg, h1, h2, h3, h4⟩⟩ := h
  · exact ⟨none, 0, rfl, rfl, fun _ => ⟨hl, .inl ⟨rfl, rfl, rfl⟩⟩⟩
  · exact ⟨some ⟨g, 0, none⟩, cap, rfl, rfl, fun _ => ⟨hl, .inr ⟨g, cur, rfl, hg, h1, h2, h3, h4⟩⟩⟩

theorem of_own {n c sz ver : Nat} {A : Option Addr} {t : TypeId} {xs : List Value} {H : List SO} (h : EntryOk H (fun g => W.heap[g]?) (.own t ver sz A n c xs)) : W.ownsRow 0 t sz (.slice A n c) n xs := by
  obtain ⟨hl, ⟨rfl, rfl, rfl⟩ | ⟨g, cur, rfl, hg, h1, h2, h3, h4⟩⟩ := h
  · exact ⟨hl, .inl ⟨rfl, rfl⟩⟩
  · exact ⟨hl, .inr ⟨g, c, cur, rfl, Nat.zero_le _, hg, h1, h2, h3, h4⟩⟩

theorem xsrc_spec {sz : Nat} (hpos : 0 < sz) {x : SV} {xv : Value} {C : Nat → List Value → Prop} (rep : Rep E s a W) (hx : Is s.H x xv) (h : xsrc E s.H sz x C) : ∃ m news, SrcOk W sz xv m news ∧ C m news := by
  unfold xsrc at h
  split at h
  · rename_i j off m c
    simp only [Is] at hx
    obtain ⟨g, hg, rfl⟩ := hx
    rw [blk_eq] at hg
    split at h
    case h_2 => exact h.elim
    rename_i g' t' l hn
    rw [hn] at hg; simp only [Option.bind_some, SO.blk] at hg; injection hg with hg; subst hg
    split at h
    case h_2 => exact h.elim
    rename_i svs htk
    split at h
    case h_2 => exact h.elim
    rename_i vs hok hd
    obtain ⟨cur, hc, hL⟩ := rep.heap.ents j _ hn
    obtain ⟨hL', hlen, _⟩ := hL.takeDrop htk
    have e := denL_is svs hd hL'
    subst e
    refine ⟨m, _, ⟨by rw [hL'.length, hlen], okL_one hok hL', .inl ⟨_, c, rfl, ?_⟩⟩, h⟩
    intro k u hu
    rw [List.getElem?_take] at hu
    split at hu
    · rw [List.getElem?_drop] at hu
      rw [add_lit, cell_of_row W g' _ cur t' (0, 0) hc]
      simpa using hu
    · cases hu
  · rename_i B m c
    simp only [Is] at hx
    subst hx
    obtain ⟨news, ⟨h1, h2, h3⟩, hC⟩ := h
    refine ⟨m, news, ⟨h1, h3, ?_⟩, hC⟩
    cases B with
    | some A =>
      refine .inl ⟨A, c, rfl, fun j u hu => ?_⟩
      have hj : j < news.length := (List.getElem?_eq_some_iff.1 hu).1
      obtain ⟨A', e, hold, hc⟩ := h2 (by omega)
      injection e with e; subst e
      have hb : (A.add j).block = A.block := by unfold Addr.add; split <;> rfl
      have e2 : W.cell? (A.add j) = E.b.cell? (A.add j) := by unfold World.cell?; rw [hb, rep.heap.keep.block A.block hold]
      rw [e2]; exact hc j u hu
    | none =>
      rcases Nat.eq_zero_or_pos (m * sz) with h0 | h0
      · rcases Nat.eq_zero_or_pos m with hm | hm
        · subst hm; exact .inr ⟨rfl, c, rfl⟩
        · rcases Nat.mul_eq_zero.1 h0 with e | e <;> omega
      · obtain ⟨A', e, _⟩ := h2 h0; cases e
  · rename_i j ver
    have hx' := hx
    simp only [Is] at hx'
    obtain ⟨t0, ver', sz0, A, m, c, xs, hm, hle, _, hv⟩ := hx'
    obtain ⟨t1, sz1, A1, n1, c1, xs1, he, ⟨hsz, hone⟩, hk⟩ := cur_spec h
    rw [hm] at he; injection he with he; injection he with f1 f2 f3 f4 f5 f6 f7
    subst f1; subst f2; subst f3; subst f4; subst f5; subst f6; subst f7
    subst hsz
    obtain ⟨hl, hr⟩ := rep.heap.ents j _ hm
    refine ⟨m, xs, ⟨hl, hone, ?_⟩, hk⟩
    rw [hv rfl]
    rcases hr with ⟨rfl, rfl, rfl⟩ | ⟨g, cur, rfl, hg, h1, h2, h3, h4⟩
    · exact .inr ⟨rfl, 0, rfl⟩
    · refine .inl ⟨_, c, rfl, fun k u hu => ?_⟩
      rw [add_lit, cell_of_row W g _ cur _ (0, 0) hg]
      rw [← h4, List.getElem?_take] at hu
      split at hu
      · simpa using hu
      · cases hu
  · exact h.elim

theorem HExt.goneAt {H : List SO} {i g : Nat} {t : TypeId} {l : List SV} (hi : nth H i = some (.cells g t l)) : HExt H (setn H i (.gone g)) := HExt.setBlk hi rfl rfl

theorem s_app {T t : TypeId} {sz bytes : Nat} {d x : Operand} {z : List Value} (hT : P.underlying T = some (.slice t)) (hsz : szT P t = some sz) (hby : bytesT P t = some bytes) (hz : zeroT P t = some z) (hzl : z.length = sz) (hpos : 0 < sz)
    (ho : o.op = .call { callee := .builtin .append, args := #[d, x], argTypes := #[T, T] }) (rep : Rep E s a W) (h : xk E s K (.app t sz bytes d x)) : Res E P s K o a W := by
  obtain ⟨i, hi⟩ : ∃ i, P.info? t = some i := by
    unfold szT at hsz; cases hq : P.info? t with
    | none => simp [hq] at hsz
    | some i => exact ⟨i, rfl⟩
  have hisz : i.size = sz := by simpa [szT, hi] using hsz
  have hiby : i.bytes = bytes := by simpa [bytesT, hi] using hby
  obtain ⟨zv, hzv, hzc⟩ : ∃ zv, i.zero = some zv ∧ zv.cells.size = sz := by
    unfold zeroT at hz; rw [hi] at hz
    simp only at hz
    split at hz
    · rename_i zv hzv; injection hz with hz; exact ⟨zv, hzv, by rw [← hz] at hzl; simpa using hzl⟩
    · cases hz
  have run : ∀ (n m : Nat) (xs news : List Value), W.ownsRow 0 t sz (a.eval d) n xs → SrcOk W sz (a.eval x) m news → n + m ≤ maxLen → (n + m) * bytes ≤ 140737488355328 →
      ∃ v' W', (execOp a.eval o).run P W = .ok (.value v') W' ∧ W'.ownsRow 0 t sz v' (n + m) (xs ++ news) ∧ W.grownBy W' (a.eval d).ownBlock ∧ (v'.ownBlock = (a.eval d).ownBlock ∨ v'.ownBlock = some W.heap.size) := by
    intro n m xs news h1 h2 h3 h4
    obtain ⟨v', W', hr, h5, h6, h7⟩ := run_app (P := P) (ty := o.type) hT hi hzv hisz hiby hzc hpos h1 h2 h3 h4
    exact ⟨v', W', by simp [execOp, ho, resolve, invoke, builtin, hr], h5, h6, h7⟩
  have hd := rep.ev d
  have lt_of : ∀ {W' : World} {A : Option Addr} {H : List SO} {n c : Nat} {xs : List Value} (g : Nat), A.map (·.block) = some g → EntryOk H (fun g => W'.heap[g]?) (.own t 0 sz A n c xs) → g < W'.heap.size := by
    intro W' A H n c xs g hA hent
    obtain ⟨_, ⟨e, _⟩ | ⟨g', cur, e, hg, _⟩⟩ := hent
    · subst e; cases hA
    · subst e
      have : g' = g := by simpa using hA
      subst this
      exact (Array.getElem?_eq_some_iff.1 hg).1
  simp only [xk, xapp] at h
  split at h
  · rename_i e1
    rw [e1] at hd; simp only [Is] at hd
    obtain ⟨m, news, hs, ⟨hb1, hb2⟩, hk⟩ := xsrc_spec hpos rep (rep.ev x) h
    obtain ⟨v', W', hr, h5, h6, h7⟩ := run 0 m [] news (by rw [hd]; exact ⟨by simp, .inl ⟨rfl, rfl⟩⟩) hs (by omega) (by simpa using hb2)
    simp only [List.nil_append, Nat.zero_add] at h5
    obtain ⟨A, c, hv', hob, _⟩ := own_of (H := s.H) h5
    obtain ⟨_, _, hv2, _, hent⟩ := own_of (H := s.H ++ [.own t 0 sz A m c news]) h5
    rw [hv'] at hv2; injection hv2 with q1 q2 q3; subst q1; subst q3
    rw [hd] at h6 h7
    refine ⟨v', W', _, _, .inl hr, hk A c, ?_, HExt.push _ _, ?_⟩
    · simp only [Is]
      exact ⟨t, 0, sz, A, m, c, news, by rw [nth_eq]; simp, Nat.le_refl _, ⟨_, _, _, hv'⟩, fun _ => hv'⟩
    · refine rep.heap.pushG (row := none) h6.size h6.os h6.tape h6.output (fun j hj _ => h6.block j hj (by simp [Value.ownBlock])) (fun g e => by cases e) (fun g hg => ?_) (hent 0)
      rw [hob] at h7
      refine ⟨.inr ?_, lt_of g hg (hent 0)⟩
      simp only [SO.fp] at hg
      rw [hg] at h7
      rcases h7 with h7 | h7
      · simp [Value.ownBlock] at h7
      · injection h7 with h7; omega
  · rename_i i ver e1
    rw [e1] at hd; simp only [Is] at hd
    obtain ⟨t0, ver', sz0, A0, n, c0, xs, hm, hle, _, hv⟩ := hd
    obtain ⟨t1, sz1, A1, n1, c1, xs1, he, hk⟩ := cur_spec h
    rw [hm] at he; injection he with he; injection he with f1 f2 f3 f4 f5 f6 f7
    subst f1; subst f2; subst f3; subst f4; subst f5; subst f6; subst f7
    split at hk
    case h_2 => exact hk.elim
    rename_i q1 q2
    have q1 : t0 = t := by simpa using q1
    have q2 : sz0 = sz := by simpa using q2
    subst q1; subst q2
    obtain ⟨m, news, hs, ⟨hb1, hb2⟩, hk⟩ := xsrc_spec hpos rep (rep.ev x) hk
    have hv := hv rfl
    have hent0 := rep.heap.ents i _ hm
    obtain ⟨v', W', hr, h5, h6, h7⟩ := run n m xs news (by rw [hv]; exact of_own hent0) hs hb1 hb2
    obtain ⟨A, c, hv', hob, _⟩ := own_of (H := s.H) h5
    obtain ⟨_, _, hv2, _, hent⟩ := own_of (H := setn s.H i (.own t0 (ver' + 1) sz0 A (n + m) c (xs ++ news))) h5
    rw [hv'] at hv2; injection hv2 with q1 q2 q3; subst q1; subst q3
    have hext : HExt s.H (setn s.H i (.own t0 (ver' + 1) sz0 A (n + m) c (xs ++ news))) := HExt.setOwn hm (by omega) (fun e => by omega)
    have hob0 : (a.eval d).ownBlock = A0.map (·.block) := by rw [hv]; cases A0 <;> rfl
    refine ⟨v', W', _, _, .inl hr, hk A c, ?_, hext, ?_⟩
    · simp only [Is]
      exact ⟨_, _, _, _, _, _, _, nth_setn_eq _ (nth_lt hm), Nat.le_refl _, ⟨_, _, _, hv'⟩, fun _ => hv'⟩
    · refine rep.heap.set hm hext (fun g hg => ?_) (fun g hg hlt => h6.block g hlt (by rw [hob0]; exact fun e => hg e.symm)) h6.size h6.os h6.tape h6.output (hent _)
      have hlt := lt_of g hg (hent 0)
      rw [hob, hob0] at h7
      simp only [SO.fp] at hg ⊢
      rw [hg] at h7
      rcases h7 with h7 | h7
      · exact .inl h7.symm
      · injection h7 with h7; exact .inr ⟨by omega, hlt⟩
  · rename_i i n c0 e1
    rw [e1] at hd; simp only [Is] at hd
    obtain ⟨g, hg, hv⟩ := hd
    rw [blk_eq] at hg
    split at h
    case h_2 => exact h.elim
    rename_i g' t' l hn
    rw [hn] at hg; simp only [Option.bind_some, SO.blk] at hg; injection hg with hg; subst hg
    split at h
    case h_2 => exact h.elim
    rename_i xs q1 q2 q3 hden
    have q1 : t' = t := by simpa using q1
    have q2 : l.length = n * sz := by simpa using q2
    have q3 : c0 = n := by simpa using q3
    subst q1; subst q3
    obtain ⟨m, news, hs, ⟨hb1, hb2⟩, hk⟩ := xsrc_spec hpos rep (rep.ev x) h
    obtain ⟨cur, hc, hL⟩ := rep.heap.ents i _ hn
    have ecur := denL_is l hden hL
    have hlen : xs.length = c0 * sz := by rw [← ecur, hL.length, q2]
    have hown : W.ownsRow 0 t' sz (a.eval d) c0 xs := by
      rw [hv]
      refine ⟨hlen, .inr ⟨g', c0, cur, rfl, Nat.zero_le _, hc, Nat.le_refl _, by omega, by rw [← ecur] at hlen; simpa using hlen, ?_⟩⟩
      rw [ecur, ← hlen, List.take_length]
    obtain ⟨v', W', hr, h5, h6, h7⟩ := run c0 m xs news hown hs hb1 hb2
    obtain ⟨A, c, hv', hob, _⟩ := own_of (H := s.H) h5
    obtain ⟨_, _, hv2, _, hent⟩ := own_of (H := setn s.H i (.gone g') ++ [.own t' 0 sz A (c0 + m) c (xs ++ news)]) h5
    rw [hv'] at hv2; injection hv2 with q1 q4 q5; subst q1; subst q5
    have hob0 : (a.eval d).ownBlock = some g' := by rw [hv]; rfl
    have hg1 := HExt.goneAt hn
    have hheap1 : HeapOk E (setn s.H i (.gone g')) W := rep.heap.set hn hg1 (fun g hg => by simp [SO.fp] at hg) (fun _ _ _ => rfl) (Nat.le_refl _) rfl rfl rfl trivial
    have hx2 : HExt (setn s.H i (.gone g')) (setn s.H i (.gone g') ++ [.own t' 0 sz A (c0 + m) c (xs ++ news)]) := HExt.push _ _
    have hlen2 : (setn s.H i (.gone g')).length = s.H.length := by rw [setn_eq, List.length_set]
    refine ⟨v', W', _, _, .inl hr, hk A c, ?_, ⟨fun j g hj => hx2.blk j g (hg1.blk j g hj), fun j t ver sz A n c xs hj => ?_⟩, ?_⟩
    · simp only [Is]
      exact ⟨t', 0, sz, A, c0 + m, c, xs ++ news, by rw [nth_eq, ← hlen2]; simp, Nat.le_refl _, ⟨_, _, _, hv'⟩, fun _ => hv'⟩
    · obtain ⟨t1, v1, s1, A1, n1, c1, x1, e1, l1, r1⟩ := hg1.own j t ver sz A n c xs hj
      obtain ⟨t2, v2, s2, A2, n2, c2, x2, e2, l2, r2⟩ := hx2.own j _ _ _ _ _ _ _ e1
      refine ⟨t2, v2, s2, A2, n2, c2, x2, e2, by omega, fun e => ?_⟩
      obtain ⟨b1, b2, b3⟩ := r1 (by omega)
      obtain ⟨d1, d2, d3⟩ := r2 (by omega)
      exact ⟨d1.trans b1, d2.trans b2, d3.trans b3⟩
    · refine hheap1.pushG (row := some g') h6.size h6.os h6.tape h6.output (fun j hj hne => h6.block j hj (by rw [hob0]; exact hne)) (fun g e => ?_) (fun g hg => ?_) (hent 0)
      · injection e with e; subst e
        refine ⟨(rep.heap.fresh i _ g' hn rfl).2, fun j e' hj hfp => ?_⟩
        by_cases hij : i = j
        · subst hij; rw [nth_setn_eq _ (nth_lt hn)] at hj; injection hj with hj; subst hj; cases hfp
        · rw [nth_setn_ne _ hij] at hj
          exact rep.heap.dist i j _ e' g' hij hn hj rfl hfp
      · have hlt := lt_of g hg (hent 0)
        refine ⟨?_, hlt⟩
        rw [hob, hob0] at h7
        simp only [SO.fp] at hg
        rw [hg] at h7
        rcases h7 with h7 | h7
        · exact .inl h7.symm
        · injection h7 with h7; exact .inr (by omega)
  · exact h.elim
end
end Go.Sx
