/- The engine, part 5: stores, new blocks, built values; all operations together. -/
import Derived.Test.YtlbiogokpadaoaaGreatDoorSxSound2
set_option linter.unusedSimpArgs false
set_option linter.unusedVariables false
set_option linter.unnecessarySimpa false
namespace Go.Sx

section
variable {E : Env} {P : Program} {s : SS} {K : SV → List SO → Prop} {o : Oper} {a : Act} {W : World}

theorem setRow_other (W : World) (g : Nat) (c : Array Value) (j : Nat) (h : j ≠ g) : (W.setRow g c).heap[j]? = W.heap[j]? := by
  simp only [World.setRow, Array.getElem?_modify]
  rw [if_neg (by omega)]

theorem run_storeAt {t : TypeId} {n g off : Nat} {tt : TypeId} {cur : Array Value} {v : Value} {us : List Value} (hz : szT P t = some n) (hv : v.cells = us.toArray) (hn : us.length = n)
    (h1 : ∀ u ∈ us, u.oneCell' = true) (hg : W.heap[g]? = some (.cells cur tt (0, 0))) (hl : off + n ≤ cur.size) :
    (Instr.storeAt t (.pointer (some ⟨g, off, none⟩)) v).run P W = .ok () (W.setRow g (splice cur.toList off us).toArray) := by
  have hst := run_storeCells_at P g off tt us 0 cur W hg (by simp; omega) h1
  rw [splice_eq _ _ _ (by simp; omega)]
  simp only [Instr.storeAt, Instr.sureAddr, storeVar, Sem.run_bind, Sem.run_pure, Result.andThen_ok, run_sizeOf hz, hv]
  simp only [List.size_toArray, hn, ne_eq, not_true_eq_false, if_false, Sem.run_bind, Sem.run_pure, Result.andThen_ok]
  subst hn
  simpa using hst

theorem denL_isL {H : List SO} {l : List SV} {us vs : List Value} (h : denL H l = some us) (k : IsL H l vs) : vs = us := denL_is l h k

theorem s_store {t : TypeId} {n : Nat} {x v : Operand} (hpos : 0 < n) (hz : szT P t = some n) (ho : o.op = .store t x v) (rep : Rep E s a W) (h : xk E s K (.store n x v)) : Res E P s K o a W := by
  have key : ∀ (g off : Nat) (tt : TypeId) (cur : Array Value) (us : List Value), a.eval x = .pointer (some ⟨g, off, none⟩) → (a.eval v).cells = us.toArray → us.length = n → (∀ u ∈ us, u.oneCell' = true) →
      W.heap[g]? = some (.cells cur tt (0, 0)) → off + n ≤ cur.size → (execOp a.eval o).run P W = .ok .skip (W.setRow g (splice cur.toList off us).toArray) := by
    intro g off tt cur us hx hv hn h1 hg hl
    have := run_storeAt (P := P) (W := W) hz hv hn h1 hg hl
    simp [execOp, ho, hx, this]
  have hx := rep.ev x
  simp only [xk, xstore] at h
  split at h
  · exact h.elim
  rename_i l hcl
  obtain ⟨us, hus, hL, hlen, h1⟩ := cellsOf_spec hcl (rep.ev v)
  have done : ∀ (g off i : Nat) (tt : TypeId) (cur : Array Value) (e e' : SO), a.eval x = .pointer (some ⟨g, off, none⟩) → W.heap[g]? = some (.cells cur tt (0, 0)) → off + n ≤ cur.size →
      nth s.H i = some e → HExt s.H (setn s.H i e') → e.fp = some g → e'.fp = some g →
      EntryOk (setn s.H i e') (fun j => (W.setRow g (splice cur.toList off us).toArray).heap[j]?) e' → K (.val undef) (setn s.H i e') → Res E P s K o a W := by
    intro g off i tt cur e e' hx hg hl hn hext hf hf' hok hk
    refine ⟨undef, _, .val undef, setn s.H i e', .inr ⟨key g off tt cur us hx hus hlen h1 hg hl, rfl⟩, hk, by simp [Is], hext, ?_⟩
    refine rep.heap.set hn hext (fun g' hg' => .inl (by rw [hf'] at hg'; injection hg' with hg'; subst hg'; exact hf)) ?_ (by simp [World.setRow]) rfl rfl rfl hok
    intro j hj _
    exact setRow_other W g _ j (fun e => hj (by subst e; exact hf))
  split at h
  · rename_i i off e1
    rw [e1] at hx; simp only [Is] at hx
    obtain ⟨g, hg, hv⟩ := hx
    rw [blk_eq] at hg
    split at h
    · rename_i g' tt c hn
      rw [hn] at hg; simp only [Option.bind_some, SO.blk] at hg; injection hg with hg; subst hg
      split at h
      case h_2 => exact h.elim
      rename_i _ htk
      obtain ⟨cur, hc, hcL⟩ := rep.heap.ents i _ hn
      obtain ⟨_, _, hfit⟩ := hcL.takeDrop htk
      have hcl' := hcL.length
      have hext := HExt.setBlk (e' := .cells g' tt (splice c off l)) hn rfl rfl
      refine done g' off i tt cur _ _ hv hc (by simp at hcl'; omega) hn hext rfl rfl ?_ h
      exact ⟨_, setRow_heap W g' cur _ tt _ hc, (hcL.splice hL (by rw [← hL.length]; omega)).ext hext⟩
    · rename_i g' tt xs hn
      rw [hn] at hg; simp only [Option.bind_some, SO.blk] at hg; injection hg with hg; subst hg
      split at h
      case h_2 => exact h.elim
      rename_i ws hd
      obtain rfl := denL_isL hd hL
      obtain ⟨hfit, hk⟩ := h
      have hc := rep.heap.ents i _ hn
      have hext := HExt.setBlk (e' := .row g' tt (splice xs off us)) hn rfl rfl
      refine done g' off i tt xs.toArray _ _ hv hc (by simpa using hfit) hn hext rfl rfl ?_ hk
      exact setRow_heap W g' xs.toArray _ tt _ hc
    · exact h.elim
  · rename_i i ver off e1
    rw [e1] at hx; simp only [Is] at hx
    obtain ⟨t0, ver', sz0, A, m, c, xs, hm, hle, _, hv⟩ := hx
    obtain ⟨t1, sz1, A1, n1, c1, xs1, he, hk⟩ := cur_spec h
    rw [hm] at he; injection he with he; injection he with f1 f2 f3 f4 f5 f6 f7
    subst f1; subst f2; subst f3; subst f4; subst f5; subst f6; subst f7
    split at hk
    case h_2 => exact hk.elim
    rename_i ws hd
    obtain rfl := denL_isL hd hL
    obtain ⟨hfit, hk⟩ := hk
    obtain ⟨A', rfl, hv'⟩ := hv rfl
    obtain ⟨hxl, hr⟩ := rep.heap.ents i _ hm
    rcases hr with ⟨e, _⟩ | ⟨g, cur, e, hg, hn1, hn2, hcs, htk⟩
    · cases e
    injection e with e; subst e
    rw [add_lit, Nat.zero_add] at hv'
    have hext : HExt s.H (setn s.H i (.own t0 ver' sz0 (some ⟨g, 0, none⟩) m c (splice xs off us))) := HExt.setOwn hm (Nat.le_refl _) (fun _ => ⟨rfl, rfl, rfl⟩)
    have hxl' : xs.length ≤ cur.size := by rw [← htk]; simp; omega
    refine done g off i t0 cur _ _ hv' hg (by omega) hm hext rfl rfl ?_ hk
    refine ⟨by rw [splice_length]; exact hxl, .inr ⟨g, _, rfl, setRow_heap W g cur _ t0 _ hg, hn1, hn2, by simp [splice_length, hcs], ?_⟩⟩
    apply List.ext_getElem?
    intro j
    have hxl2 : off + us.length ≤ cur.toList.length := by simp; omega
    rw [List.getElem?_take, splice_get xs off us j (by omega)]
    simp only []
    rw [splice_get cur.toList off us j hxl2]
    by_cases hj : j < m * sz0
    · rw [if_pos hj]
      split
      · rfl
      · rw [← htk, List.getElem?_take, if_pos hj]
    · rw [if_neg hj, if_neg (by omega), ← htk, List.getElem?_take, if_neg hj]
  · exact h.elim

theorem blkNew (H : List SO) (g : Nat) (t : TypeId) (l : List SV) : blk (H ++ [.cells g t l]) H.length = some g := by
  rw [blk_eq, nth_eq]; simp [SO.blk]

theorem run_zero {t : TypeId} {z : List Value} (h : zeroT P t = some z) (W : World) : ∃ v, (zeroValue t).run P W = .ok v W ∧ v.cells = z.toArray := by
  unfold zeroT at h
  split at h
  · rename_i i hi
    split at h
    · rename_i v hv
      injection h with h
      exact ⟨v, by simp [zeroValue, typeInfo, hi, hv], by rw [← h]⟩
    · cases h
  · cases h

theorem run_zero' {t : TypeId} {z : List Value} (h : zeroT P t = some z) : ∃ v, (∀ W : World, (zeroValue t).run P W = .ok v W) ∧ v.cells = z.toArray := by
  unfold zeroT at h
  split at h
  · rename_i i hi
    split at h
    · rename_i v hv
      injection h with h
      exact ⟨v, by simp [zeroValue, typeInfo, hi, hv], by rw [← h]⟩
    · cases h
  · cases h

theorem newCells (rep : Rep E s a W) {t : TypeId} {l : List SV} {us : List Value} (hL : IsL s.H l us) :
    HExt s.H (s.H ++ [.cells W.heap.size t l]) ∧ HeapOk E (s.H ++ [.cells W.heap.size t l]) (W.alloc (.cells us.toArray t)) := by
  have hx := HExt.push s.H (.cells W.heap.size t l)
  exact ⟨hx, rep.heap.push _ _ rfl ⟨us.toArray, heap_alloc_new W _, by simpa using hL.ext hx⟩⟩

theorem s_alloc {t : TypeId} {z : List Value} (hz : zeroT P t = some z) (ho : o.op = .alloc t) (rep : Rep E s a W) (h : xk E s K (.alloc t z)) : Res E P s K o a W := by
  obtain ⟨v, hv, hc⟩ := run_zero hz W
  simp only [xk] at h
  obtain ⟨hx, hh⟩ := newCells rep (t := t) (IsL.svc (H := s.H) z)
  refine ⟨.pointer (some ⟨W.heap.size, 0, none⟩), W.alloc (.cells z.toArray t), _, _, .inl ?_, h W.heap.size, ?_, hx, hh⟩
  · simp only [execOp, ho, Instr.alloc, Sem.run_bind, hv, Result.andThen_ok, newVar, newRow, run_newObj, Sem.run_pure, hc, Sem.run_map]
    rfl
  · simp only [Is]; exact ⟨_, blkNew _ _ _ _, rfl⟩

theorem s_box {t : TypeId} {n : Nat} {v : Operand} (ho : o.op = .box t v) (rep : Rep E s a W) (h : xk E s K (.box t n v)) : Res E P s K o a W := by
  simp only [xk] at h
  split at h
  case h_2 => exact h.elim
  rename_i l hcl
  obtain ⟨us, hus, hL, _, _⟩ := cellsOf_spec hcl (rep.ev v)
  obtain ⟨hx, hh⟩ := newCells rep (t := t) hL
  refine ⟨.pointer (some ⟨W.heap.size, 0, none⟩), W.alloc (.cells us.toArray t), _, _, .inl ?_, h W.heap.size, ?_, hx, hh⟩
  · simp only [execOp, ho, Instr.box, Sem.run_bind, Result.andThen_ok, newVar, newRow, run_newObj, Sem.run_pure, hus, Sem.run_map]
    rfl
  · simp only [Is]; exact ⟨_, blkNew _ _ _ _, rfl⟩

theorem fillStep {cells vs : Array Value} {off : Nat} (h : off + vs.size ≤ cells.size) :
    (vs.zipIdx.foldl (fun cs (p : Value × Nat) => cs.setIfInBounds (off + p.2) p.1) cells).toList = splice cells.toList off vs.toList := by
  obtain ⟨l⟩ := vs
  have key : ∀ (l : List Value) (k : Nat) (cs : Array Value), (l.zipIdx k).foldl (fun cs (p : Value × Nat) => cs.setIfInBounds (off + p.2) p.1) cs = (splice cs.toList (off + k) l).toArray := by
    intro l
    induction l with
    | nil => intro k cs; simp [splice]
    | cons v l ih =>
      intro k cs
      simp only [List.zipIdx_cons, List.foldl_cons, ih, splice, setn_eq, Array.toList_setIfInBounds]
      rfl
  have := key l 0 cells
  simp at this ⊢
  rw [this]

theorem xfill_spec {place : Nat → Option (Nat × Nat)} (rep : Rep E s a W) : ∀ (qs : List (Nat × Operand)) (ps : List (Nat × Nat × Operand)) (cells : List Value) (l l' : List SV), IsL s.H l cells → xfill s.F l ps = some l' →
    qs.length = ps.length → (∀ (j : Nat) (q : Nat × Operand) (p : Nat × Nat × Operand), qs[j]? = some q → ps[j]? = some p → q.2 = p.2.2 ∧ place q.1 = some (p.1, p.2.1)) →
    ∃ out, Instr.fill place cells.toArray (qs.map fun q => (q.1, a.eval q.2)) = some out ∧ IsL s.H l' out.toList
  | [], [], cells, l, l', hL, hx, _, _ => by simp [xfill] at hx; subst hx; exact ⟨cells.toArray, rfl, by simpa using hL⟩
  | [], _ :: _, _, _, _, _, _, h, _ => by simp at h
  | _ :: _, [], _, _, _, _, _, h, _ => by simp at h
  | (i, x) :: qs, (off, n, y) :: ps, cells, l, l', hL, hx, hlen, hp => by
    obtain ⟨h1, h2⟩ := hp 0 _ _ rfl rfl
    simp only at h1 h2
    subst h1
    simp only [xfill] at hx
    split at hx
    case h_2 => cases hx
    rename_i c _ n' hc htk
    obtain ⟨us, hus, hU, hun, _⟩ := cellsOf_spec hc (rep.ev x)
    have hfit := (IsL.takeDrop (H := s.H) (n := n'.succ) (off := off) hL htk).2.2
    have hll := hL.length
    have hfit' : off + (n' + 1) ≤ l.length := hfit.resolve_left (Nat.succ_ne_zero _)
    have hun' : us.length = n' + 1 := hun
    have hcl : c.length = n' + 1 := hU.length.symm.trans hun
    have hcc : cells.length = l.length := hll
    clear hfit hun hll
    have hstep := fillStep (cells := cells.toArray) (vs := us.toArray) (off := off) (by simp; omega)
    have hL' := hL.splice (off := off) hU (by omega)
    obtain ⟨out, ho, hO⟩ := xfill_spec rep qs ps (splice cells off us) (splice l off c) l' hL' hx (by simpa using hlen) (fun j q p e1 e2 => hp (j + 1) q p (by simpa using e1) (by simpa using e2))
    refine ⟨out, ?_, hO⟩
    simp only [List.map_cons]
    unfold Instr.fill
    simp only [h2, hus]
    rw [if_neg (by simp; omega)]
    rw [← ho]
    congr 1
    rw [← Array.toList_inj]
    simpa using hstep

theorem xfillS_eq (F : List (Nat × SV)) (sz : Nat) : ∀ (ps : List (Nat × Operand)) (l : List SV), xfillS F sz l ps = xfill F l (ps.map fun p => (p.1 * sz, sz, p.2))
  | [], l => rfl
  | (i, x) :: ps, l => by
    simp only [xfillS, List.map_cons, xfill]
    split
    · exact xfillS_eq F _ ps _
    · rfl

theorem cvS_spec {P : Program} {fs : Array Field} : ∀ (ps : List (Nat × Operand)) (l : List (Nat × Nat × Operand)), cvS P fs ps = some l → ps.length = l.length ∧
    ∀ (j : Nat) (q : Nat × Operand) (p : Nat × Nat × Operand), ps[j]? = some q → l[j]? = some p → q.2 = p.2.2 ∧ ∃ f, fs[q.1]? = some f ∧ f.offset = p.1 ∧ szT P f.type = some p.2.1
  | [], l, h => by simp [cvS] at h; subst h; simp
  | q :: ps, l, h => by
    have e : cvS P fs (q :: ps) = (match fs[q.1]?, cvS P fs ps with
      | some f, some r => (match szT P f.type with | some n => some ((f.offset, n, q.2) :: r) | none => none)
      | _, _ => none) := rfl
    rw [e] at h
    split at h
    case h_2 => cases h
    rename_i f r hf hr
    split at h
    case h_2 => cases h
    rename_i n hn
    injection h with h; subst h
    obtain ⟨h1, h2⟩ := cvS_spec ps r hr
    refine ⟨by simp [h1], fun j q' p' e1 e2 => ?_⟩
    cases j with
    | zero => simp at e1 e2; subst e1; subst e2; exact ⟨rfl, f, hf, rfl, hn⟩
    | succ j => exact h2 j q' p' (by simpa using e1) (by simpa using e2)

theorem run_places {fs : Array Field} {t : TypeId} (hall : ∀ f ∈ fs, (szT P f.type).isSome = true) (W : World) :
    (fs.mapM fun f => do pure (f.offset, ← sizeOf f.type) : Sem (Array (Nat × Nat))).run P W = .ok (fs.map fun f => (f.offset, (szT P f.type).getD 0)) W := by
  obtain ⟨l⟩ := fs
  rw [List.mapM_toArray]
  simp only [Sem.run_map]
  have key : ∀ (l : List Field), (∀ f ∈ l, (szT P f.type).isSome = true) → (l.mapM fun f => do pure (f.offset, ← sizeOf f.type) : Sem (List (Nat × Nat))).run P W = .ok (l.map fun f => (f.offset, (szT P f.type).getD 0)) W := by
    intro l
    induction l with
    | nil => intro _; rfl
    | cons f l ih =>
      intro h
      obtain ⟨n, hn⟩ := Option.isSome_iff_exists.1 (h f (by simp))
      simp only [List.mapM_cons, Sem.run_bind, run_sizeOf hn, Result.andThen_ok, Sem.run_pure, ih (fun g hg => h g (by simp [hg])), List.map_cons, hn, Option.getD_some]
  rw [key l (by simpa using hall)]
  simp

theorem s_buildStruct {t : TypeId} {fs : Array Field} {parts : Array (Nat × Operand)} {z : List Value} {l : List (Nat × Nat × Operand)} (ht : P.underlying t = some (.struct fs)) (hall : ∀ f ∈ fs, (szT P f.type).isSome = true)
    (hz : zeroT P t = some z) (hc : cvS P fs parts.toList = some l) (ho : o.op = .build t parts) (rep : Rep E s a W) (h : xk E s K (.build z l)) : ResP P s K o a := by
  obtain ⟨v, hv, hvc⟩ := run_zero' hz
  simp only [xk] at h
  split at h
  case h_2 => exact h.elim
  rename_i l' hf
  obtain ⟨hlen, hp⟩ := cvS_spec _ _ hc
  obtain ⟨out, ho', hO⟩ := xfill_spec (place := ((fs.map fun f => (f.offset, (szT P f.type).getD 0))[·]?)) rep parts.toList l z _ l' (IsL.svc z) hf hlen (fun j q p e1 e2 => by
    obtain ⟨h1, f, h2, h3, h4⟩ := hp j q p e1 e2
    refine ⟨h1, ?_⟩
    simp [h2, h3, h4])
  refine ResP.mk (v := .agg out) ?_ h (by simp only [Is]; exact ⟨out.toList, hO, by simp⟩)
  have e : (parts.map fun (i, x) => (i, a.eval x)).toList = parts.toList.map fun q => (q.1, a.eval q.2) := by simp
  simp only [execOp, ho, Instr.build, Sem.run_bind, hv, Result.andThen_ok, run_underlying ht, run_places (t := t) hall, hvc, e, ho', Sem.run_pure, implies_true]

theorem s_buildArray {t e : TypeId} {m n : Nat} {parts : Array (Nat × Operand)} {z : List Value} (ht : P.underlying t = some (.array m e)) (hn : szT P e = some n)
    (hz : zeroT P t = some z) (ho : o.op = .build t parts) (rep : Rep E s a W) (h : xk E s K (.build z (parts.toList.map fun p => (p.1 * n, n, p.2)))) : ResP P s K o a := by
  obtain ⟨v, hv, hvc⟩ := run_zero' hz
  simp only [xk] at h
  split at h
  case h_2 => exact h.elim
  rename_i l' hf
  obtain ⟨out, ho', hO⟩ := xfill_spec (place := fun i => some (i * n, n)) rep parts.toList _ z _ l' (IsL.svc z) hf (by simp) (fun j q p e1 e2 => by
    simp at e2
    obtain ⟨x, y, hx, rfl⟩ := e2
    simp [hx] at e1; subst e1; simp)
  refine ResP.mk (v := .agg out) ?_ h (by simp only [Is]; exact ⟨out.toList, hO, by simp⟩)
  have e : (parts.map fun (i, x) => (i, a.eval x)).toList = parts.toList.map fun q => (q.1, a.eval q.2) := by simp
  simp only [execOp, ho, Instr.build, Sem.run_bind, hv, Result.andThen_ok, run_underlying ht, run_sizeOf hn, hvc, e, ho', Sem.run_pure, implies_true]

theorem repL_is (H : List SO) {z : List Value} {l : List SV} (h : IsL H l z) (n : Nat) : IsL H (repL l n) ((Array.range (n * z.length)).map (fun i => z.toArray[i % z.length]!)).toList := by
  have key : ∀ n, ((Array.range (n * z.length)).map (fun i => z.toArray[i % z.length]!)).toList = (List.replicate n z).flatten := by
    intro n
    induction n with
    | zero => simp
    | succ n ih =>
      rw [List.replicate_succ', List.flatten_append, ← ih]
      have e : (n + 1) * z.length = n * z.length + z.length := by rw [Nat.add_mul, Nat.one_mul]
      simp only [e, Array.toList_map, Array.toList_range, List.range_add, List.map_append, List.map_map]
      congr 1
      simp only [List.flatten_cons, List.flatten_nil, List.append_nil]
      apply List.ext_getElem?
      intro j
      simp only [List.getElem?_map, Function.comp_def]
      by_cases hj : j < z.length
      · rw [List.getElem?_range hj]
        simp [Nat.mul_comm n, Nat.mod_eq_of_lt hj, hj]
      · rw [List.getElem?_eq_none (by simp; omega), List.getElem?_eq_none (by omega)]; rfl
  rw [key]
  induction n with
  | zero => simp [repL, IsL]
  | succ n ih => rw [List.replicate_succ, List.flatten_cons, repL]; exact h.append ih

theorem s_buildS {t e : TypeId} {len n : Nat} {parts : Array (Nat × Operand)} {z : List Value} (ht : P.underlying t = some (.slice e)) (hn : szT P e = some n) (hz : zeroT P e = some z)
    (hzl : z.length = n) (hpos : 0 < n) (hmax : len * n ≤ 2 ^ 24) (ho : o.op = .buildSlice t len parts) (rep : Rep E s a W) (h : xk E s K (.buildS e len n z parts.toList)) : Res E P s K o a W := by
  obtain ⟨v, hv, hvc⟩ := run_zero hz W
  simp only [xk] at h
  split at h
  case h_2 => exact h.elim
  rename_i l' hf
  rw [xfillS_eq] at hf
  have hL := repL_is s.H (IsL.svc (H := s.H) z) len
  obtain ⟨out, ho', hO⟩ := xfill_spec (place := fun i => some (i * n, n)) rep parts.toList _ _ _ l' hL hf (by simp) (fun j q p e1 e2 => by
    simp at e2
    obtain ⟨x, y, hx, rfl⟩ := e2
    simp [hx] at e1; subst e1; simp)
  obtain ⟨hx, hh⟩ := newCells rep (t := e) hO
  refine ⟨.slice (some ⟨W.heap.size, 0, none⟩) len len, W.alloc (.cells out.toList.toArray e), _, _, .inl ?_, h W.heap.size, ?_, hx, hh⟩
  · have e1 : (parts.map fun (i, x) => (i, a.eval x)).toList = parts.toList.map fun q => (q.1, a.eval q.2) := by simp
    have hmax' : ¬ len * n > 2 ^ 24 := by omega
    rcases Nat.eq_zero_or_pos (len * n) with h0 | h0
    · subst hzl
      have hl0 : len = 0 := by
        rcases Nat.mul_eq_zero.1 h0 with h1 | h1
        · exact h1
        · omega
      subst hl0
      simp only [Array.toArray_toList, Nat.zero_mul, Array.range_zero', List.map_toArray, List.map_nil] at ho'
      simp only [execOp, ho, Instr.buildSlice, Sem.run_bind, Sem.run_pure, Result.andThen_ok, run_underlying ht, run_sizeOf hn, hmax', if_false, Nat.zero_mul, if_true, e1, Array.range_zero', List.map_toArray, List.map_nil]
      simp only [Sem.run_bind, Sem.run_pure, Result.andThen_ok, ho', newRow, run_newObj, Sem.run_map, Array.toArray_toList]
      rfl
    · have h0' : ¬ len * n = 0 := by omega
      subst hzl
      simp only [Array.toArray_toList] at ho'
      simp only [execOp, ho, Instr.buildSlice, Sem.run_bind, Sem.run_pure, Result.andThen_ok, run_underlying ht, run_sizeOf hn, hmax', if_false, h0', hv, hvc, e1, List.size_toArray]
      simp only [Sem.run_bind, Sem.run_pure, Result.andThen_ok, hv, hvc, List.size_toArray, ho', newRow, run_newObj, Sem.run_map, Array.toArray_toList]
      rfl
  · simp only [Is]; exact ⟨_, blkNew _ _ _ _, rfl⟩

end
end Go.Sx
