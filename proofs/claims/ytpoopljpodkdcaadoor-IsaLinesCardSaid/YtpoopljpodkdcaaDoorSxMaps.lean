/- The engine, part 6b: maps, slices made. -/
import Derived.Test.YtpoopljpodkdcaaDoorSxEqa
import Derived.Laws.Externs
import Derived.KernelRfl
import Derived.MapKept
import Derived.Laws.MakeOwn
import Derived.Laws.IdiomStrings
set_option linter.unusedSimpArgs false
set_option linter.unusedVariables false
set_option linter.unnecessarySimpa false
namespace Go.Sx
open Go.MapKept (IsKey)

section
theorem inv1_mkmap {P : Program} {op : Op} (h : cmpK1 P op = some .mkmap) : ∃ t, op = .makeMap t none := by
  unfold cmpK1 cmpCall1 at h
  repeat' (split at h)
  all_goals first | (cases h; done) | exact ⟨_, rfl⟩
theorem inv1_lkup {P : Program} {op : Op} {c : CK} {z : Value} {ok : Bool} {x i : Operand} (h : cmpK1 P op = some (.lkup c z ok x i)) : ∃ t k e, op = .lookup t x i ok ∧ P.underlying t = some (.map k e) ∧ keyK P k = some c ∧ zeroV P e = some z := by
  unfold cmpK1 cmpCall1 at h
  repeat' (split at h)
  all_goals first | (cases h; done) | (injection h with h; injection h with h1 h2 h3 h4 h5; subst h1; subst h2; subst h3; subst h4; subst h5; exact ⟨_, _, _, rfl, by assumption, by assumption, by assumption⟩)
theorem inv1_mupd {P : Program} {op : Op} {c : CK} {x i v : Operand} (h : cmpK1 P op = some (.mupd c x i v)) : ∃ t k e, op = .mapUpdate t x i v ∧ P.underlying t = some (.map k e) ∧ keyK P k = some c := by
  unfold cmpK1 cmpCall1 at h
  repeat' (split at h)
  all_goals first | (cases h; done) | (injection h with h; injection h with h1 h2 h3 h4; subst h1; subst h2; subst h3; subst h4; exact ⟨_, _, _, rfl, by assumption, by assumption⟩)
theorem inv1_mkslc {P : Program} {op : Op} {t : TypeId} {sz bytes : Nat} {z : List Value} {l c : Operand} (h : cmpK1 P op = some (.mkslc t sz bytes z l c)) : ∃ T, op = .makeSlice T l c ∧ P.underlying T = some (.slice t) ∧ szT P t = some sz ∧ bytesT P t = some bytes ∧ zeroT P t = some z ∧ z.length = sz ∧ 0 < sz := by
  unfold cmpK1 cmpCall1 at h
  repeat' (split at h)
  all_goals first | (cases h; done) | (rename_i hl; injection h with h; injection h with h1 h2 h3 h4 h5 h6; subst h1; subst h2; subst h3; subst h4; subst h5; subst h6; exact ⟨_, rfl, by assumption, by assumption, by assumption, by assumption, by simpa using hl, Nat.succ_pos _⟩)
theorem inv1_lenM {P : Program} {op : Op} {x : Operand} (h : cmpK1 P op = some (.lenM x)) : ∃ t k e, op = .call { callee := .builtin .len, args := #[x], argTypes := #[t] } ∧ P.underlying t = some (.map k e) := by
  unfold cmpK1 at h
  repeat' (split at h)
  all_goals first | (cases h; done) | skip
  rename_i c
  obtain ⟨cc, ⟨al⟩, ⟨tl⟩⟩ := c
  unfold cmpCall1 at h
  dsimp only at h
  repeat' (split at h)
  all_goals first | (cases h; done) | skip
  all_goals (injection h with h; injection h with h1; subst h1; exact ⟨_, _, _, rfl, by assumption⟩)
theorem inv1_mdel {P : Program} {op : Op} {c : CK} {x i : Operand} (h : cmpK1 P op = some (.mdel c x i)) : ∃ t t' k e, op = .call { callee := .builtin .delete, args := #[x, i], argTypes := #[t, t'] } ∧ P.underlying t = some (.map k e) ∧ keyK P k = some c := by
  unfold cmpK1 at h
  repeat' (split at h)
  all_goals first | (cases h; done) | skip
  rename_i c
  obtain ⟨cc, ⟨al⟩, ⟨tl⟩⟩ := c
  unfold cmpCall1 at h
  dsimp only at h
  repeat' (split at h)
  all_goals first | (cases h; done) | skip
  all_goals (injection h with h; injection h with h1 h2 h3; subst h1; subst h2; subst h3; exact ⟨_, _, _, _, rfl, by assumption, by assumption⟩)

theorem isKey_of' {P : Program} {t : TypeId} {c : CK} (hk : keyK P t = some c) {w : Value} (h : keyIs c w = true) : ∃ d, P.underlying t = some d ∧ IsKey d w ∧ ((∃ k, d = .int k ∧ c = .int k) ∨ (d = .string ∧ c = .str)) := by
  unfold keyK at hk
  split at hk
  · rename_i k hu; injection hk with hk; subst hk
    cases w <;> simp [keyIs] at h
    exact ⟨_, hu, by simp [IsKey, kEq_eq h], .inl ⟨_, rfl, rfl⟩⟩
  · rename_i hu; injection hk with hk; subst hk
    cases w <;> simp [keyIs] at h
    exact ⟨_, hu, by simp [IsKey], .inr ⟨rfl, rfl⟩⟩
  · cases hk
theorem same_key {d : TypeDesc} {c : CK} (hd : (∃ k, d = .int k ∧ c = .int k) ∨ (d = .string ∧ c = .str)) {k q : Value} (hk : keyIs c k = true) (hq : keyIs c q = true) : Instr.sameNow d k q = some (keyB k q) ∧ (keyB k q = true → q = k) := by
  rcases hd with ⟨j, rfl, rfl⟩ | ⟨rfl, rfl⟩
  · cases k <;> simp only [keyIs, Bool.false_eq_true] at hk
    cases q <;> simp only [keyIs, Bool.false_eq_true] at hq
    have e1 := kEq_eq hk; have e2 := kEq_eq hq; subst e1; subst e2
    refine ⟨by simp [Instr.sameNow, keyB], fun h => ?_⟩
    simp [keyB] at h; rw [h]
  · cases k <;> simp only [keyIs, Bool.false_eq_true] at hk
    cases q <;> simp only [keyIs, Bool.false_eq_true] at hq
    refine ⟨by simp [Instr.sameNow, keyB], fun h => ?_⟩
    have h : (_ == _) = true := h
    rw [MapKept.bytes_beq] at h
    rw [h]

theorem find_get {d : TypeDesc} {c : CK} (hd : (∃ k, d = .int k ∧ c = .int k) ∨ (d = .string ∧ c = .str)) {w : Value} (hk : keyIs c w = true) : ∀ (es : List MapEntry) (i : Nat), (∀ e ∈ es, keyIs c e.key = true) →
    (mget (es.map fun e => (e.key, e.val)) w = none ∧ Instr.findNow d w es i = some none ∧ (∀ u, mput (es.map fun e => (e.key, e.val)) w u = (es.map fun e => (e.key, e.val)) ++ [(w, u)]) ∧ mrem (es.map fun e => (e.key, e.val)) w = (es.map fun e => (e.key, e.val))) ∨
    ∃ j e, mget (es.map fun e => (e.key, e.val)) w = some e.val ∧ Instr.findNow d w es i = some (some (i + j, e.val)) ∧ es[j]? = some e ∧ e.key = w ∧
      (∀ u, mput (es.map fun e => (e.key, e.val)) w u = ((es.modify j fun e => { e with key := w, val := u }).map fun e => (e.key, e.val))) ∧ mrem (es.map fun e => (e.key, e.val)) w = ((es.eraseIdx j).map fun e => (e.key, e.val))
  | [], i, _ => .inl ⟨rfl, rfl, fun _ => rfl, rfl⟩
  | e :: es, i, h => by
    obtain ⟨hs, he⟩ := same_key hd hk (h e (by simp))
    cases hb : keyB w e.key with
    | true =>
      rw [hb] at hs
      exact .inr ⟨0, e, by simp [mget, hb], by simp [Instr.findNow, hs], rfl, he hb, fun u => by simp [mput, hb], by simp [mrem, hb]⟩
    | false =>
      rw [hb] at hs
      rcases find_get hd hk es (i + 1) (fun x hx => h x (by simp [hx])) with ⟨q1, q2, q3, q4⟩ | ⟨j, e1, q1, q2, q3, q4, q5, q6⟩
      · exact .inl ⟨by simp [mget, hb, q1], by simp [Instr.findNow, hs, q2], fun u => by simp [mput, hb, q3 u], by simp [mrem, hb, q4]⟩
      · refine .inr ⟨j + 1, e1, by simp [mget, hb, q1], ?_, by simpa using q3, q4, fun u => by simp [mput, hb, q5 u], by simp [mrem, hb, q6]⟩
        simp only [Instr.findNow, hs, q2]; congr 3; omega
end

mutual
theorem den_is' {H : List SO} : ∀ (s : SV) {u : Value}, den H s = some u → Is H s u
  | .unk, _, h => by simp [den] at h
  | .val _, _, h => by simp [den] at h; simp [Is, h]
  | .opq _ _, _, h => by simp [den] at h; simp [Is, h]
  | .bt, _, h => by simp [den] at h; simp [Is, h]
  | .bf, _, h => by simp [den] at h; simp [Is, h]
  | .ptr i off, _, h => by
    simp only [den] at h; split at h
    · rename_i g hg; injection h with h; simp only [Is]; exact ⟨g, hg, h.symm⟩
    · cases h
  | .adr A off, _, h => by simp [den] at h; simp [Is, h]
  | .slc i off n c, _, h => by
    simp only [den] at h; split at h
    · rename_i g hg; injection h with h; simp only [Is]; exact ⟨g, hg, h.symm⟩
    · cases h
  | .own i ver, _, h => by
    simp only [den] at h; split at h
    · rename_i t ver' sz A n c xs he
      split at h
      · rename_i hb; injection h with h
        have hb : ver' = ver := by simpa using hb
        simp only [Is]; exact ⟨_, _, _, _, _, _, _, he, by omega, ⟨_, _, _, h.symm⟩, fun _ => h.symm⟩
      · cases h
    · cases h
  | .oad i ver off, _, h => by
    simp only [den] at h; split at h
    · rename_i t ver' sz A n c xs he
      split at h
      · rename_i A' hb; injection h with h
        have hb : ver' = ver := by simpa using hb
        simp only [Is]; exact ⟨_, _, _, _, _, _, _, he, by omega, ⟨_, h.symm⟩, fun _ => ⟨_, rfl, h.symm⟩⟩
      · cases h
    · cases h
  | .mp i, _, h => by
    simp only [den] at h; split at h
    · rename_i g hg; injection h with h; simp only [Is]; exact ⟨g, hg, h.symm⟩
    · cases h
  | .agg l, _, h => by
    simp only [den] at h; split at h
    · rename_i vs hl; injection h with h; simp only [Is]; exact ⟨vs, denL_is' l hl, h.symm⟩
    · cases h
  | .tup l, _, h => by
    simp only [den] at h; split at h
    · rename_i vs hl; injection h with h; simp only [Is]; exact ⟨vs, denL_is' l hl, h.symm⟩
    · cases h
  | .fn f a b, _, h => by
    simp only [den] at h; split at h
    · rename_i x y ha hb; injection h with h; simp only [Is]; exact ⟨x, y, denL_is' a ha, denL_is' b hb, h.symm⟩
    · cases h
theorem denL_is' {H : List SO} : ∀ (l : List SV) {us : List Value}, denL H l = some us → IsL H l us
  | [], _, h => by simp [denL] at h; simp [IsL, h]
  | s :: l, _, h => by
    simp only [denL] at h; split at h
    · rename_i v vs h1 h2; injection h with h; simp only [IsL]; exact ⟨v, vs, den_is' s h1, denL_is' l h2, h.symm⟩
    · cases h
end

section
variable {E : Env} {P : Program} {s : SS} {K : SV → List SO → Prop} {o : Oper} {a : Act} {W : World}

theorem run_zv' {t : TypeId} {z : Value} (h : zeroV P t = some z) (W : World) : (zeroValue t).run P W = .ok z W := by
  unfold zeroV at h
  split at h
  · rename_i i hi; simp [zeroValue, typeInfo, hi, h]
  · cases h

theorem mp_spec (rep : Rep E s a W) {x : Operand} {e g : Nat} {l : List (Value × Value)} (e1 : ev s.F x = .mp e) (e2 : nth s.H e = some (.map g l)) :
    a.eval x = .map (some g) ∧ ∃ (es : Array MapEntry) (ck : Nat), W.heap[g]? = some (.map es ck) ∧ es.toList.map (fun e => (e.key, e.val)) = l ∧ (es.toList.map (·.born)).Nodup ∧ ∀ e ∈ es.toList, e.born < ck := by
  have hx := rep.ev x
  rw [e1] at hx; simp only [Is] at hx
  obtain ⟨g', hg, hv⟩ := hx
  have : g' = g := by simp [blk, e2] at hg; exact hg.symm
  subst this
  exact ⟨hv, rep.heap.ents e _ e2⟩

theorem s_mkmap (hc : cmpK1 P o.op = some .mkmap) (rep : Rep E s a W) (h : xk E s K .mkmap) : Res E P s K o a W := by
  obtain ⟨t, ho⟩ := inv1_mkmap hc
  simp only [xk] at h
  refine ⟨.map (some W.heap.size), W.alloc (.map #[] 0), _, _, .inl ?_, h W.heap.size, ?_, HExt.push _ _, ?_⟩
  · simp [execOp, ho, Instr.makeMap]
  · simp only [Is]; exact ⟨W.heap.size, by rw [blk_eq, nth_eq]; simp [SO.blk], rfl⟩
  · exact rep.heap.push (.map #[] 0) _ rfl ⟨#[], 0, heap_alloc_new W _, rfl, by simp, by simp⟩

theorem s_lkup {c : CK} {z : Value} {ok : Bool} {x i : Operand} (hc : cmpK1 P o.op = some (.lkup c z ok x i)) (rep : Rep E s a W) (h : xk E s K (.lkup c z ok x i)) : ResR P s K o a W := by
  obtain ⟨t, kt, et, ho, hm, hkk, hz⟩ := inv1_lkup hc
  simp only [xk] at h
  split at h
  case h_2 => exact h.elim
  rename_i e w e1 e2
  split at h
  case h_2 => exact h.elim
  rename_i g l e3 hki
  obtain ⟨hall, r, hr, v, hv, hk⟩ := h
  have hi := rep.ev i
  rw [e2] at hi; simp only [Is] at hi
  obtain ⟨hx, es, ck, hb, hl, _⟩ := mp_spec rep e1 e3
  obtain ⟨d, hu, hd, hd2⟩ := isKey_of' hkk hki
  have hb' : ∀ W2, Grow W W2 → W2.heap[g]? = some (.map es ck) := fun W2 hg => by
    rw [hg.block _ (Array.getElem?_eq_some_iff.1 hb).1]; exact hb
  have hall' : ∀ e ∈ es.toList, keyIs c e.key = true := fun e he => hall (e.key, e.val) (by rw [← hl]; exact List.mem_map_of_mem he)
  have hIs : ∀ u, den s.H v = some u → Is s.H v u := fun u hu => den_is' v hu
  have fin : ∀ u b, r.getD z = u → r.isSome = b → Is s.H (lkV ok v r.isSome) (if ok then .tuple #[u, .bool b] else u) := by
    intro u b h1 h2
    rw [h1] at hv
    have := hIs u hv
    cases ok
    · simpa [lkV] using this
    · simp only [lkV, Is, IsL, if_true]
      exact ⟨_, ⟨u, [.bool b], this, ⟨_, _, rfl, rfl, by rw [h2]⟩, rfl⟩, rfl⟩
  rcases find_get hd2 hki es.toList 0 hall' with ⟨q1, q2, _⟩ | ⟨j, e0, q1, q2, q3, q4, _⟩
  · rw [hl, hr] at q1
    subst q1
    refine ⟨_, _, fun W2 hg => ?_, hk, fin _ _ rfl rfl⟩
    simp [execOp, ho, hx, hi, Instr.lookup, run_underlying hm, MapKept.run_getObj_map (hb' W2 hg), MapKept.run_checkKey hu hd, MapKept.run_findKey hu q2, run_zv' hz]
  · rw [hl, hr] at q1
    subst q1
    refine ⟨_, _, fun W2 hg => ?_, hk, fin _ _ rfl rfl⟩
    simp [execOp, ho, hx, hi, Instr.lookup, run_underlying hm, MapKept.run_getObj_map (hb' W2 hg), MapKept.run_checkKey hu hd, MapKept.run_findKey hu q2]

theorem HeapOk.mapSet {H : List SO} (hh : HeapOk E H W) {e g : Nat} {l l' : List (Value × Value)} (he : nth H e = some (.map g l)) {es' : Array MapEntry} {ck' : Nat} (h1 : es'.toList.map (fun e => (e.key, e.val)) = l') (h2 : (es'.toList.map (·.born)).Nodup) (h3 : ∀ e ∈ es'.toList, e.born < ck') :
    HExt H (setn H e (.map g l')) ∧ HeapOk E (setn H e (.map g l')) { W with heap := W.heap.setIfInBounds g (.map es' ck') } := by
  obtain ⟨es, ck, hb, _⟩ := hh.ents e _ he
  have hx : HExt H (setn H e (.map g l')) := HExt.setBlk he rfl rfl
  have hs := MapKept.heap_set (o' := .map es' ck') hb
  refine ⟨hx, hh.set he hx (fun g' hg' => .inl hg') (fun g' hne _ => hs.2 g' fun q => hne (by rw [q]; rfl)) (by simp) rfl rfl rfl ⟨es', ck', hs.1, h1, h2, h3⟩⟩

theorem modify_born (l : List MapEntry) (j : Nat) (w u : Value) : (l.modify j fun e => { e with key := w, val := u }).map (·.born) = l.map (·.born) := by
  apply List.ext_getElem?
  intro i
  simp only [List.getElem?_map, List.getElem?_modify]
  cases l[i]? with
  | none => rfl
  | some e => by_cases h : j = i <;> simp [h]

theorem s_mupd {c : CK} {x i v : Operand} (hc : cmpK1 P o.op = some (.mupd c x i v)) (rep : Rep E s a W) (h : xk E s K (.mupd c x i v)) : Res E P s K o a W := by
  obtain ⟨t, kt, et, ho, hm, hkk⟩ := inv1_mupd hc
  simp only [xk] at h
  split at h
  case h_2 => exact h.elim
  rename_i e w e1 e2
  split at h
  case h_2 => exact h.elim
  rename_i g l u e3 hki hu'
  obtain ⟨hall, hk⟩ := h
  have hi := rep.ev i
  rw [e2] at hi; simp only [Is] at hi
  have hv : a.eval v = u := den_is _ hu' (rep.ev v)
  obtain ⟨hx, es, ck, hb, hl, hnd, hck⟩ := mp_spec rep e1 e3
  obtain ⟨d, hu, hd, hd2⟩ := isKey_of' hkk hki
  have hall' : ∀ e ∈ es.toList, keyIs c e.key = true := fun e he => hall (e.key, e.val) (by rw [← hl]; exact List.mem_map_of_mem he)
  have hf0 : (Instr.checkKey false 10000 kt w).run P W = .ok () W := MapKept.run_checkKey hu hd false 9999
  rcases find_get hd2 hki es.toList 0 hall' with ⟨q1, q2, q3, _⟩ | ⟨j, e0, q1, q2, q3, q4, q5, _⟩
  · obtain ⟨hx', hh⟩ := rep.heap.mapSet (l' := mput l w u) e3 (es' := es.push { key := w, val := u, born := ck }) (ck' := ck + 1)
      (by rw [← hl, q3 u]; simp) (by simp only [Array.toList_push, List.map_append, List.map_cons, List.map_nil]
                                     rw [List.nodup_append]
                                     refine ⟨hnd, by simp, ?_⟩
                                     intro b hb b' hb' e
                                     obtain ⟨x, hx, rfl⟩ := List.mem_map.1 hb
                                     simp only [List.mem_singleton] at hb'; subst hb'
                                     have := hck x hx; omega)
      (by intro x hx
          simp only [Array.toList_push, List.mem_append, List.mem_singleton] at hx
          rcases hx with hx | rfl
          · have := hck x hx; omega
          · simp)
    refine ⟨undef, _, _, _, .inr ⟨?_, rfl⟩, hk, by simp [Is], hx', hh⟩
    simp [execOp, ho, hx, hi, hv, Instr.mapUpdate, run_underlying hm, MapKept.run_getObj_map hb, hf0, MapKept.run_findKey hu q2, MapKept.run_setObj_map _ hb]
  · rw [Nat.zero_add] at q2
    have hm2 : (es.modify j fun e => { e with key := w, val := u }).toList = es.toList.modify j fun e => { e with key := w, val := u } := by simp
    obtain ⟨hx', hh⟩ := rep.heap.mapSet (l' := mput l w u) e3 (es' := es.modify j fun e => { e with key := w, val := u }) (ck' := ck)
      (by rw [hm2, ← hl, q5 u]) (by rw [hm2, modify_born]; exact hnd)
      (by intro x hx
          rw [hm2] at hx
          have : x.born ∈ (es.toList.modify j fun e => { e with key := w, val := u }).map (·.born) := List.mem_map_of_mem hx
          rw [modify_born] at this
          obtain ⟨y, hy, e⟩ := List.mem_map.1 this
          rw [← e]; exact hck y hy)
    have q3' : es[j]? = some e0 := by simpa using q3
    refine ⟨undef, _, _, _, .inr ⟨?_, rfl⟩, hk, by simp [Is], hx', hh⟩
    simp [execOp, ho, hx, hi, hv, Instr.mapUpdate, run_underlying hm, MapKept.run_getObj_map hb, hf0, MapKept.run_findKey hu q2, q3', q4, MapKept.run_keyThatStays hd, MapKept.run_setObj_map _ hb]

theorem s_mdel {c : CK} {x i : Operand} (hc : cmpK1 P o.op = some (.mdel c x i)) (rep : Rep E s a W) (h : xk E s K (.mdel c x i)) : Res E P s K o a W := by
  obtain ⟨t, t', kt, et, ho, hm, hkk⟩ := inv1_mdel hc
  simp only [xk] at h
  split at h
  case h_2 => exact h.elim
  rename_i e w e1 e2
  split at h
  case h_2 => exact h.elim
  rename_i g l e3 hki
  obtain ⟨hall, hk⟩ := h
  have hi := rep.ev i
  rw [e2] at hi; simp only [Is] at hi
  obtain ⟨hx, es, ck, hb, hl, hnd, hck⟩ := mp_spec rep e1 e3
  obtain ⟨d, hu, hd, hd2⟩ := isKey_of' hkk hki
  have hall' : ∀ e ∈ es.toList, keyIs c e.key = true := fun e he => hall (e.key, e.val) (by rw [← hl]; exact List.mem_map_of_mem he)
  have hf0 : ∀ b, (Instr.checkKey b 10000 kt w).run P W = .ok () W := fun b => MapKept.run_checkKey hu hd b 9999
  have ht : ∀ H, Is H (.tup []) (.tuple #[]) := fun H => by simp only [Is, IsL]; exact ⟨[], rfl, rfl⟩
  rcases find_get hd2 hki es.toList 0 hall' with ⟨q1, q2, _, q3⟩ | ⟨j, e0, q1, q2, q3, q4, _, q5⟩
  · obtain ⟨hx', hh⟩ := rep.heap.mapSet (l' := mrem l w) e3 (es' := es) (ck' := ck) (by rw [← hl, q3]) hnd hck
    refine ⟨.tuple #[], _, _, _, .inl ?_, hk, ht _, hx', hh⟩
    simp [execOp, ho, resolve, invoke, builtin, hx, hi, Builtin.delete_, run_underlying hm, MapKept.run_getObj_map hb, hf0, MapKept.run_findKey hu q2, MapKept.run_setObj_map _ hb]
  · rw [Nat.zero_add] at q2
    have q3' : es[j]? = some e0 := by simpa using q3
    have hm2 : (es.eraseIdxIfInBounds j).toList = es.toList.eraseIdx j := by
      unfold Array.eraseIdxIfInBounds
      rw [dif_pos (Array.getElem?_eq_some_iff.1 q3').1]; simp
    obtain ⟨hx', hh⟩ := rep.heap.mapSet (l' := mrem l w) e3 (es' := es.eraseIdxIfInBounds j) (ck' := ck) (by rw [hm2, ← hl, q5])
      (by rw [hm2]; exact List.Nodup.sublist ((List.eraseIdx_sublist _ _).map _) hnd) (by intro x hx; rw [hm2] at hx; exact hck x ((List.eraseIdx_sublist _ _).subset hx))
    refine ⟨.tuple #[], _, _, _, .inl ?_, hk, ht _, hx', hh⟩
    simp [execOp, ho, resolve, invoke, builtin, hx, hi, Builtin.delete_, run_underlying hm, MapKept.run_getObj_map hb, hf0, MapKept.run_findKey hu q2, MapKept.run_setObj_map _ hb]

theorem s_lenM {x : Operand} (hc : cmpK1 P o.op = some (.lenM x)) (rep : Rep E s a W) (h : xk E s K (.lenM x)) : ResR P s K o a W := by
  obtain ⟨t, k, e', ho, hm⟩ := inv1_lenM hc
  simp only [xk] at h
  split at h
  case h_2 => exact h.elim
  rename_i e e1
  split at h
  case h_2 => exact h.elim
  rename_i g l e3
  obtain ⟨hx, es, ck, hb, hl, _⟩ := mp_spec rep e1 e3
  have hb' : ∀ W2, Grow W W2 → W2.heap[g]? = some (.map es ck) := fun W2 hg => by
    rw [hg.block _ (Array.getElem?_eq_some_iff.1 hb).1]; exact hb
  have hsz : es.size = l.length := by
    have := congrArg List.length hl
    simpa using this
  refine ⟨.int .i64 l.length, _, fun W2 hg => ?_, h, by simp [Is]⟩
  simp [execOp, ho, resolve, invoke, builtin, hx, Builtin.len_, run_underlying hm, goInt, MapKept.run_getObj_map (hb' W2 hg), hsz]

theorem repN_length : ∀ (c : Nat) (z : List Value), (repN c z).length = c * z.length
  | 0, z => by simp [repN]
  | c + 1, z => by simp [repN, repN_length c z, Nat.add_mul, Nat.add_comm]
theorem repN_get : ∀ (c : Nat) (z : List Value) (j : Nat), j < c * z.length → (repN c z)[j]? = z[j % z.length]?
  | 0, z, j, h => by simp at h
  | c + 1, z, j, h => by
    simp only [repN]
    by_cases hj : j < z.length
    · rw [List.getElem?_append_left hj, Nat.mod_eq_of_lt hj]
    · have hj : z.length ≤ j := by omega
      rw [List.getElem?_append_right hj, repN_get c z _ (by rw [Nat.add_mul] at h; omega)]
      rw [Nat.mod_eq_sub_mod hj]
theorem made_repN (z : Array Value) (c : Nat) (hz : 0 < z.size) : (madeCells z (c * z.size)).toList = repN c z.toList := by
  apply List.ext_getElem?
  intro j
  by_cases hj : j < c * z.size
  · rw [repN_get c z.toList j (by simpa using hj)]
    have hm : j % z.size < z.size := Nat.mod_lt _ hz
    simp [madeCells, hj, hm]
  · have h1 : (repN c z.toList).length = c * z.size := by simpa using repN_length c z.toList
    rw [List.getElem?_eq_none (by simp [madeCells]; omega), List.getElem?_eq_none (by omega)]
theorem repN_take (z : List Value) : ∀ (l c : Nat), l ≤ c → (repN c z).take (l * z.length) = repN l z
  | 0, c, _ => by simp [repN]
  | l + 1, 0, h => by omega
  | l + 1, c + 1, h => by
    have e : (l + 1) * z.length = z.length + l * z.length := by rw [Nat.add_mul]; omega
    simp only [repN]
    rw [e, List.take_append, List.take_of_length_le (by omega)]
    congr 1
    rw [show z.length + l * z.length - z.length = l * z.length by omega]
    exact repN_take z l c (by omega)

theorem s_mkslc {t : TypeId} {sz bytes : Nat} {z : List Value} {y1 y2 : Operand} (hc : cmpK1 P o.op = some (.mkslc t sz bytes z y1 y2)) (rep : Rep E s a W) (h : xk E s K (.mkslc t sz bytes z y1 y2)) : Res E P s K o a W := by
  obtain ⟨T, ho, hT, hsz, hby, hz, hzl, h0⟩ := inv1_mkslc hc
  simp only [xk] at h
  split at h
  case h_2 => exact h.elim
  rename_i k1 n k2 m e1 e2
  obtain ⟨⟨b0, b1, b2, b3⟩, hk⟩ := h
  have hv1 := rep.ev y1; have hv2 := rep.ev y2
  rw [e1] at hv1; rw [e2] at hv2
  simp only [Is] at hv1 hv2
  unfold szT at hsz; unfold bytesT at hby; unfold zeroT at hz
  cases hi : P.info? t with
  | none => rw [hi] at hsz; cases hsz
  | some inf =>
  rw [hi] at hsz hby hz
  simp only [Option.map_some, Option.some.injEq] at hsz hby
  subst hby
  dsimp only at hz
  split at hz
  case h_2 => cases hz
  rename_i zv hzv
  injection hz with hz
  have hzs : zv.cells.size = sz := by rw [← hzl, ← hz]; simp
  have hrun := run_make (P := P) W T t inf zv hT hi hzv k1 k2 n m (by omega) (by omega) b2 (by omega)
  have hcs : (madeCells zv.cells (m.toNat * sz)).toList = repN m.toNat z := by
    have := made_repN zv.cells m.toNat (by omega)
    rw [hzs, hz] at this; exact this
  rw [hsz] at hrun
  have hex : (execOp a.eval o).run P W = .ok (.value (.slice (some ⟨W.heap.size, 0, none⟩) n.toNat m.toNat)) (W.alloc (.cells (madeCells zv.cells (m.toNat * sz)) t)) := by
    simp only [execOp, ho, hv1, hv2]
    simp [hrun]
  have hmc : madeCells zv.cells (m.toNat * sz) = (repN m.toNat z).toArray := by rw [← hcs]
  rw [hmc] at hex
  have hnm : n.toNat ≤ m.toNat := by omega
  refine ⟨_, _, _, _, .inl hex, hk W.heap.size, ?_, HExt.push _ _, ?_⟩
  · simp only [Is]
    exact ⟨t, 0, sz, some ⟨W.heap.size, 0, none⟩, n.toNat, m.toNat, repN n.toNat z, by rw [nth_eq]; simp, Nat.le_refl _, ⟨_, _, _, rfl⟩, fun _ => rfl⟩
  · refine rep.heap.push _ (.own t 0 sz (some ⟨W.heap.size, 0, none⟩) n.toNat m.toNat (repN n.toNat z)) rfl ⟨by rw [repN_length, hzl], .inr ⟨W.heap.size, (repN m.toNat z).toArray, rfl, heap_alloc_new W _, hnm, by simp [maxLen]; omega, by simp [repN_length, hzl], ?_⟩⟩
    have := repN_take z n.toNat m.toNat hnm
    rw [hzl] at this
    simpa using this
end
end Go.Sx

namespace Go.Sx

section
variable {E : Env} {P : Program} {s : SS} {K : SV → List SO → Prop} {o : Oper} {a : Act} {W : World}

theorem s_fldv {t : TypeId} {fs : Array Field} {i n : Nat} {fd : Field} {x : Operand} (ht : P.underlying t = some (.struct fs)) (hf : fs[i]? = some fd) (hz : szT P fd.type = some n)
    (hu : (P.underlying fd.type).isSome = true) (ho : o.op = .field t x i) (rep : Rep E s a W) (h : xk E s K (.fldv fd.offset n (isAggT P fd.type) x)) : ResP P s K o a := by
  have hx := rep.ev x
  simp only [xk] at h
  split at h
  case h_2 => exact h.elim
  rename_i l e1
  rw [e1] at hx; simp only [Is] at hx
  obtain ⟨us, hL, hv⟩ := hx
  split at h
  case h_2 => exact h.elim
  rename_i vs htk
  obtain ⟨hL', hlen, hfit⟩ := hL.takeDrop htk
  rcases one_spec h with ⟨hg, hk⟩ | ⟨hg, v, rfl, hk⟩
  · refine ResP.mk (v := .agg ((us.drop fd.offset).take n).toArray) ?_ hk (by simp only [Is]; exact ⟨_, hL', rfl⟩)
    simp [execOp, ho, Instr.field, run_underlying ht, hf, hv, asAgg, part, run_isAgg P _ hu, hg, run_sizeOf hz, List.extract_toArray]
  · simp only [IsL] at hL'
    obtain ⟨u, r, hi, rfl, he⟩ := hL'
    have hn : n = 1 := by simpa using hlen.symm
    subst hn
    have hu' : us[fd.offset]? = some u := by
      have := congrArg (·[0]?) he
      simpa using this
    refine ResP.mk (v := u) ?_ hk hi
    simp [execOp, ho, Instr.field, run_underlying ht, hf, hv, asAgg, part, run_isAgg P _ hu, hg, hu']

theorem s_nilc {x : Operand} (ho : o.op = .nilCheck x) (rep : Rep E s a W) (h : xk E s K (.nilc x)) : ResP P s K o a := by
  have key : ∀ A, a.eval x = .pointer (some A) → ∀ W2 : World, (execOp a.eval o).run P W2 = .ok (.value (.pointer (some A))) W2 := by
    intro A hx; simp [execOp, ho, hx]
  have key2 : ∀ f p q, a.eval x = .func (.func f) p q → ∀ W2 : World, (execOp a.eval o).run P W2 = .ok (.value (.func (.func f) p q)) W2 := by
    intro f p q hx; simp [execOp, ho, hx]
  have key3 : ∀ f p q, a.eval x = .func (.yield f) p q → ∀ W2 : World, (execOp a.eval o).run P W2 = .ok (.value (.func (.yield f) p q)) W2 := by
    intro f p q hx; simp [execOp, ho, hx]
  have hx := rep.ev x
  simp only [xk] at h
  split at h
  · rename_i e off e1
    rw [e1] at hx; have hx' := hx; simp only [Is] at hx'
    obtain ⟨g, hg, hv⟩ := hx'
    rw [hv] at hx
    exact ResP.mk (key _ hv) h hx
  · rename_i e ver off e1
    rw [e1] at hx; have hx' := hx; simp only [Is] at hx'
    obtain ⟨t0, ver', sz0, A, m, c, xs, hm, hle, _, hv⟩ := hx'
    obtain ⟨t1, sz1, A1, n1, c1, xs1, he, hk⟩ := cur_spec h
    rw [hm] at he; injection he with he; injection he with f1 f2 f3 f4 f5 f6 f7
    subst f1; subst f2; subst f3; subst f4; subst f5; subst f6; subst f7
    obtain ⟨A', rfl, hv'⟩ := hv rfl
    rw [hv'] at hx
    exact ResP.mk (key _ hv') hk hx
  · rename_i A off e1
    rw [e1] at hx; simp only [Is] at hx
    obtain ⟨hA, hk⟩ := h
    obtain ⟨A', rfl⟩ := Option.isSome_iff_exists.1 hA
    exact ResP.mk (key _ hx) hk (by simp [Is])
  · rename_i f p q e1
    rw [e1] at hx; have hx' := hx; simp only [Is] at hx'
    obtain ⟨u, v, hu, hv, he⟩ := hx'
    rw [he] at hx
    split at h
    · exact ResP.mk (key2 _ _ _ he) h hx
    · exact ResP.mk (key3 _ _ _ he) h hx
    · exact h.elim
  · rename_i f p q e1
    rw [e1] at hx; have hx' := hx; simp only [Is] at hx'
    rw [hx'] at hx
    split at h
    · exact ResP.mk (key2 _ _ _ hx') h hx
    · exact ResP.mk (key3 _ _ _ hx') h hx
    · exact h.elim
  · exact h.elim

theorem s_ext {x : Operand} {i : Nat} (ho : o.op = .extract x i) (rep : Rep E s a W) (h : xk E s K (.ext x i)) : ResP P s K o a := by
  have hx := rep.ev x
  simp only [xk] at h
  split at h
  case h_2 => exact h.elim
  rename_i l e1
  rw [e1] at hx; simp only [Is] at hx
  obtain ⟨us, hL, hv⟩ := hx
  split at h
  case h_2 => exact h.elim
  rename_i v hn
  rw [nth_eq] at hn
  obtain ⟨u, hu, hi⟩ := hL.get hn
  refine ResP.mk (v := u) ?_ h hi
  simp [execOp, ho, Instr.extract, hv, hu]

theorem s_mkfn {f : Fn} {p q : Array Operand} (ho : o.op = .makeFunc f p q) (rep : Rep E s a W) (h : xk E s K (.mkfn f p.toList q.toList)) : ResP P s K o a := by
  simp only [xk] at h
  refine ResP.mk (v := .func f (p.map a.eval) (q.map a.eval)) ?_ h ?_
  · simp [execOp, ho, Instr.makeFunc]
  · simp only [Is]; exact ⟨_, _, rep.evL _, rep.evL _, by rw [← Array.toList_map, ← Array.toList_map, Array.toArray_toList, Array.toArray_toList]⟩

def pureK : XK → Bool
  | .load .. | .store .. | .alloc .. | .box .. | .buildS .. | .app .. | .b2s .. => false
  | .mkmap | .lkup .. | .mupd .. | .mdel .. | .lenM .. | .mkslc .. | .cpy .. | .s2b .. | .rngS .. | .nxtS .. | .clr .. | .mrk .. => false
  | _ => true
def readK : XK → Bool
  | .load .. | .b2s .. | .lkup .. | .lenM .. => true
  | _ => false

def ResK (E : Env) (P : Program) (s : SS) (K : SV → List SO → Prop) (o : Oper) (a : Act) (W : World) (x : XK) : Prop :=
  if pureK x then ResP P s K o a else if readK x then ResR P s K o a W else Res E P s K o a W

theorem xk_sound0 {x : XK} (hc : cmpK0 P o.op = some x) (rep : Rep E s a W) (h : xk E s K x) : ResK E P s K o a W x := by
  generalize hop : o.op = op at hc
  cases op
  case move y => injection hc with hc; subst hc; exact s_mov (.inl hop) rep h
  case assign y => injection hc with hc; subst hc; exact s_mov (.inr hop) rep h
  case pick c y z => injection hc with hc; subst hc; exact s_pick hop rep h
  case nilCheck y => injection hc with hc; subst hc; exact s_nilc hop rep h
  case extract y i => injection hc with hc; subst hc; exact s_ext hop rep h
  case makeFunc f p q => injection hc with hc; subst hc; exact s_mkfn hop rep h
  case alloc t =>
    replace hc : cmpAlloc P t = some x := hc
    unfold cmpAlloc at hc
    split at hc
    · rename_i z hz; injection hc with hc; subst hc; exact s_alloc hz hop rep h
    · cases hc
  case box t v =>
    replace hc : cmpBox P t v = some x := hc
    unfold cmpBox at hc
    split at hc
    · rename_i n hn; injection hc with hc; subst hc; exact s_box hop rep h
    · cases hc
  case build t parts =>
    replace hc : cmpBuild P t parts = some x := hc
    unfold cmpBuild at hc
    split at hc
    · rename_i fs z ht hz
      split at hc
      · rename_i l hall hcv
        injection hc with hc; subst hc
        exact s_buildStruct ht (fun f hf => by simpa using Array.all_eq_true_iff_forall_mem.1 hall f hf) hz hcv hop rep h
      · cases hc
    · rename_i m e z ht hz
      split at hc
      · rename_i n hn; injection hc with hc; subst hc; exact s_buildArray ht hn hz hop rep h
      · cases hc
    · cases hc
  case buildSlice t len parts =>
    replace hc : cmpBuildS P t len parts = some x := hc
    unfold cmpBuildS at hc
    split at hc
    · rename_i e ht
      split at hc
      · rename_i n z hn hz
        split at hc
        · rename_i hh; injection hc with hc; subst hc; exact s_buildS ht hn hz hh.1 hh.2.1 hh.2.2 hop rep h
        · cases hc
      · cases hc
    · cases hc
  case load t y =>
    replace hc : cmpLoad P t y = some x := hc
    unfold cmpLoad at hc
    split at hc
    · rename_i l d n hl hu hn
      split at hc
      · rename_i hh; injection hc with hc; subst hc; exact s_load (by omega) (by rw [hu]; rfl) (by rw [hn, hh]) hop rep h
      · cases hc
    · cases hc
  case store t y v =>
    replace hc : cmpStore P t y v = some x := hc
    unfold cmpStore at hc
    split at hc
    · rename_i n hn; injection hc with hc; subst hc; exact s_store (by omega) hn hop rep h
    · cases hc
  case binOp op t y z t' =>
    replace hc : cmpBin P op t y z = some x := hc
    unfold cmpBin at hc
    split at hc
    · rename_i k hk
      cases op <;> injection hc with hc <;> subst hc
      case add => exact s_arith hop rep h
      case sub => exact s_arith hop rep h
      case mul => exact s_arith hop rep h
      case quo => exact s_div hop rep h
      case rem => exact s_div hop rep h
      case and => exact s_bits hop rep h
      case or => exact s_bits hop rep h
      case xor => exact s_bits hop rep h
      case andNot => exact s_bits hop rep h
      case shl => exact s_shift hop rep h
      case shr => exact s_shift hop rep h
      all_goals exact s_cmp rfl hop rep h
    · rename_i hk
      split at hc
      · injection hc with hc; subst hc; exact s_eqb (neg := false) hk hop rep h
      · injection hc with hc; subst hc; exact s_eqb (neg := true) hk hop rep h
      · cases hc
    · split at hc
      · injection hc with hc; subst hc; exact s_cat hop rep h
      · split at hc
        · rename_i hcb; injection hc with hc; subst hc; exact s_eqs hcb hop rep h
        · cases hc
    · rename_i fs hu
      have hagg : isAggT P t = true := by simp [isAggT, hu]
      split at hc
      · unfold cmpEqa at hc; split at hc
        · rename_i ks hks hg; injection hc with hc; subst hc; exact s_eqa (neg := false) hks hg hagg hop rep h
        · cases hc
      · unfold cmpEqa at hc; split at hc
        · rename_i ks hks hg; injection hc with hc; subst hc; exact s_eqa (neg := true) hks hg hagg hop rep h
        · cases hc
      · cases hc
    · rename_i n e hu
      have hagg : isAggT P t = true := by simp [isAggT, hu]
      split at hc
      · unfold cmpEqa at hc; split at hc
        · rename_i ks hks hg; injection hc with hc; subst hc; exact s_eqa (neg := false) hks hg hagg hop rep h
        · cases hc
      · unfold cmpEqa at hc; split at hc
        · rename_i ks hks hg; injection hc with hc; subst hc; exact s_eqa (neg := true) hks hg hagg hop rep h
        · cases hc
      · cases hc
    · rename_i td _ _ _ _ _ hu
      split at hc
      · unfold cmpNil at hc; split at hc
        · rename_i k hk
          split at hc
          · rename_i hn; injection hc with hc; subst hc; exact s_isnil (neg := false) hu hk hn (.inl hop) rep h
          · rename_i hn; injection hc with hc; subst hc; exact s_isnil (neg := false) hu hk hn (.inr hop) rep h
          · cases hc
        · cases hc
      · unfold cmpNil at hc; split at hc
        · rename_i k hk
          split at hc
          · rename_i hn; injection hc with hc; subst hc; exact s_isnil (neg := true) hu hk hn (.inl hop) rep h
          · rename_i hn; injection hc with hc; subst hc; exact s_isnil (neg := true) hu hk hn (.inr hop) rep h
          · cases hc
        · cases hc
      · cases hc
    · cases hc
  case slice t y lo hi mx =>
    replace hc : cmpSub P t y lo hi mx = some x := hc
    unfold cmpSub at hc
    split at hc
    · rename_i e ht
      split at hc
      · rename_i n hn; injection hc with hc; subst hc; exact s_sub ht hn hop rep h
      · cases hc
    · rename_i ht; injection hc with hc; subst hc; exact s_subT ht hop rep h
    · cases hc
  case index t y i =>
    replace hc : cmpIxv P t y i = some x := hc
    unfold cmpIxv at hc
    split at hc
    · rename_i n e ht
      split at hc
      · rename_i m d hm hu; injection hc with hc; subst hc; exact s_ixA ht hm (by rw [hu]; rfl) hop rep h
      · cases hc
    · rename_i ht; injection hc with hc; subst hc; exact s_ixT ht hop rep h
    · cases hc
  case unOp op t y =>
    replace hc : cmpUn op y = some x := hc
    unfold cmpUn at hc
    split at hc
    · injection hc with hc; subst hc; exact s_not hop rep h
    · cases hc
  case convert src dst y =>
    replace hc : cmpConv P src dst y = some x := hc
    unfold cmpConv at hc
    split at hc
    · rename_i j k hs hd; injection hc with hc; subst hc; exact s_conv hs hd hop rep h
    · rename_i e hs hd
      split at hc
      · rename_i he; injection hc with hc; subst hc; exact s_b2s hs he hd hop rep h
      · cases hc
    · cases hc
  case fieldAddr t y f =>
    replace hc : cmpFld P t y f = some x := hc
    unfold cmpFld at hc
    split at hc
    · rename_i fs ht
      split at hc
      · rename_i fd hf
        split at hc
        · rename_i n hn; injection hc with hc; subst hc; exact s_fld ht hf hn hop rep h
        · cases hc
      · cases hc
    · cases hc
  case field t y f =>
    replace hc : cmpFldv P t y f = some x := hc
    unfold cmpFldv at hc
    split at hc
    · rename_i fs ht
      split at hc
      · rename_i fd hf
        split at hc
        · rename_i n d hn hu; injection hc with hc; subst hc; exact s_fldv ht hf hn (by rw [hu]; rfl) hop rep h
        · cases hc
      · cases hc
    · cases hc
  case indexAddr t y i =>
    replace hc : cmpIdx P t y i = some x := hc
    unfold cmpIdx at hc
    split at hc
    · rename_i e ht
      split at hc
      · rename_i n hn; injection hc with hc; subst hc; exact s_idx ht hn hop rep h
      · cases hc
    · rename_i n e ht
      split at hc
      · rename_i m hm
        split at hc
        · rename_i hlt; injection hc with hc; subst hc; exact s_idxA hlt ht hm hop rep h
        · cases hc
      · cases hc
    · cases hc
  case call c =>
    replace hc : cmpCall P c = some x := hc
    unfold cmpCall at hc
    split at hc
    · rename_i d y t t' h1 h2 h3
      unfold cmpApp at hc
      split at hc
      case h_2 => cases hc
      rename_i e e' hT _
      split at hc
      case h_2 => cases hc
      rename_i n b z hn hb hz
      split at hc
      case h_2 => cases hc
      rename_i hzl htt
      injection hc with hc; subst hc
      have htt : t = t' := by simpa using htt
      subst htt
      have ec : c = { callee := .builtin .append, args := #[d, y], argTypes := #[t, t] } := by
        obtain ⟨cc, aa, tt⟩ := c
        simp at h1 h2 h3
        subst h1
        have e1 : aa = #[d, y] := by rw [← Array.toArray_toList (xs := aa), h2]
        have e2 : tt = #[t, t] := by rw [← Array.toArray_toList (xs := tt), h3]
        rw [e1, e2]
      rw [ec] at hop
      exact s_app hT hn hb hz (by simpa using hzl) (by omega) hop rep h
    · rename_i y t h1 h2 h3
      have e : c = { callee := .builtin .len, args := #[y], argTypes := #[t] } := by
        obtain ⟨cc, aa, tt⟩ := c
        simp at h1 h2 h3
        subst h1
        have e1 : aa = #[y] := by rw [← Array.toArray_toList (xs := aa), h2]
        have e2 : tt = #[t] := by rw [← Array.toArray_toList (xs := tt), h3]
        rw [e1, e2]
      rw [e] at hop
      split at hc
      · rename_i el ht; injection hc with hc; subst hc; exact s_lenS ht hop rep h
      · rename_i ht; injection hc with hc; subst hc; exact s_lenT ht hop rep h
      · rename_i n el ht; injection hc with hc; subst hc; exact s_lenA ht hop rep h
      · cases hc
    · cases hc
  all_goals (replace hc : (none : Option XK) = some x := hc; cases hc)

theorem inv_mm' {P : Program} {op : Op} {mx : Bool} {k : IntKind} {x y : Operand} (h : cmpK1 P op = some (.mm mx k x y)) : ∃ tt, op = .call { callee := .builtin (if mx then .max else .min), args := #[x, y], argTypes := tt } := by
  unfold cmpK1 at h
  repeat' (split at h)
  all_goals first | (cases h; done) | skip
  rename_i c
  obtain ⟨cc, ⟨al⟩, ⟨tl⟩⟩ := c
  unfold cmpCall1 at h
  dsimp only at h
  repeat' (split at h)
  all_goals first | (cases h; done) | skip
  all_goals (injection h with h; injection h with h1 h2 h3 h4; subst h1; subst h2; subst h3; subst h4; exact ⟨_, rfl⟩)
theorem inv_lib' {P : Program} {op : Op} {w : Nat} {l : List Operand} (h : cmpK1 P op = some (.lib w l)) : ∃ c f, op = .call c ∧ c.callee = .value (.func f) ∧ libOf P f = some w ∧ c.args.toList = l := by
  unfold cmpK1 cmpCall1 at h
  repeat' (split at h)
  all_goals first | (cases h; done) | (injection h with h; injection h with h1 h2; subst h1; subst h2; exact ⟨_, _, rfl, by assumption, by assumption, rfl⟩)
theorem find0' {fn : Func} (ho : fn.origin = "") (hn : fn.name = "internal/bytealg.IndexByteString") : Extern.findNext fn = none ∧ Extern.find fn = some Extern.BytealgIndexByte.indexByte := by
  cases fn
  dsimp only at ho hn
  subst ho; subst hn
  exact ⟨by kernel_rfl, by kernel_rfl⟩
theorem libOf0 {P : Program} {f : FuncId} (h : libOf P f = some 0) : ∃ fn, P.funcs[f]? = some fn ∧ fn.body = none ∧ fn.origin = "" ∧ fn.name = "internal/bytealg.IndexByteString" := by
  unfold libOf at h
  split at h
  case h_2 => cases h
  rename_i fn hf
  split at h
  · cases h
  rename_i hb
  split at h
  case h_2 => cases h
  rename_i ho
  split at h
  · rename_i hn; exact ⟨fn, hf, hb, ho, hn⟩
  · cases h
  · cases h
  · cases h
theorem s_mm {mx : Bool} {k : IntKind} {y z : Operand} (hc : cmpK1 P o.op = some (.mm mx k y z)) (rep : Rep E s a W) (h : xk E s K (.mm mx k y z)) : ResP P s K o a := by
  obtain ⟨tt, ho⟩ := inv_mm' hc
  have hy := rep.ev y; have hz := rep.ev z
  simp only [xk] at h
  split at h
  case h_2 => exact h.elim
  rename_i j m i n e1 e2
  split at h
  case h_2 => exact h.elim
  rename_i q1 q2
  rw [e1, kEq_eq q1] at hy; rw [e2, kEq_eq q2] at hz
  simp only [Is] at hy hz
  refine ResP.mk (v := .int k (mmV mx m n)) ?_ h (by simp [Is])
  intro W2
  cases mx
  · simp [execOp, ho, hy, hz, resolve, invoke, builtin, Builtin.min_, Builtin.min2, List.foldlM, mmV]; omega
  · simp [execOp, ho, hy, hz, resolve, invoke, builtin, Builtin.max_, Builtin.max2, List.foldlM, mmV]; omega
theorem inv_neg' {P : Program} {op : Op} {k : IntKind} {x : Operand} (h : cmpK1 P op = some (.neg k x)) : ∃ t, op = .unOp .neg t x := by
  unfold cmpK1 cmpCall1 at h
  repeat' (split at h)
  all_goals first | (cases h; done) | (injection h with h; injection h with h1 h2; subst h1; subst h2; exact ⟨_, rfl⟩)
theorem s_neg {k : IntKind} {y : Operand} (hc : cmpK1 P o.op = some (.neg k y)) (rep : Rep E s a W) (h : xk E s K (.neg k y)) : ResP P s K o a := by
  obtain ⟨t, ho⟩ := inv_neg' hc
  have hy := rep.ev y
  simp only [xk] at h
  split at h
  case h_2 => exact h.elim
  rename_i j m e1
  rw [e1] at hy
  simp only [Is] at hy
  obtain ⟨r, hr, h⟩ := h
  unfold ConvOk at hr
  refine ResP.mk (v := .int j r) ?_ h (by simp [Is])
  intro W2
  simp [execOp, ho, hy, Op.unary, Op.intArith, hr]
theorem inv_s2b' {P : Program} {op : Op} {t : TypeId} {x : Operand} (h : cmpK1 P op = some (.s2b t x)) : ∃ src dst, op = .convert src dst x ∧ P.underlying src = some .string ∧ P.underlying dst = some (.slice t) ∧ P.underlying t = some (.int .u8) := by
  unfold cmpK1 cmpCall1 at h
  repeat' (split at h)
  all_goals first | (cases h; done) | (injection h with h; injection h with h1 h2; subst h1; subst h2; exact ⟨_, _, rfl, by assumption, by assumption, by assumption⟩)
theorem inv_mrk' {P : Program} {op : Op} {x : Operand} (h : cmpK1 P op = some (.mrk x)) : ∃ t e0 e, op = .convert t t x ∧ P.underlying t = some (.slice e0) ∧ P.underlying t = some (.slice e) ∧ P.underlying e = some (.int .u8) := by
  unfold cmpK1 cmpCall1 at h
  repeat' (split at h)
  all_goals first | (cases h; done) | (rename_i e6 e7; injection h with h; injection h with h1; subst h1; have e6 := eq_of_beq e6; subst e6
                                       exact ⟨_, _, _, rfl, by assumption, by assumption, by assumption⟩)
theorem s_s2b {t : TypeId} {y : Operand} (hc : cmpK1 P o.op = some (.s2b t y)) (rep : Rep E s a W) (h : xk E s K (.s2b t y)) : Res E P s K o a W := by
  obtain ⟨src, dst, ho, hsrc, hdst, ht⟩ := inv_s2b' hc
  have hv := rep.ev y
  simp only [xk] at h
  split at h
  case h_2 => exact h.elim
  rename_i b e1
  rw [e1] at hv
  simp only [Is] at hv
  have hrun := Go.run_bytes_of_string (P := P) W src dst t b hsrc hdst ht
  have hd := rep.heap.drawn (W' := W.drew) rfl rfl rfl rfl
  generalize grownCap W b.size 0 t = cap at hrun
  have hrow : (bytesRow b cap).toList.take (bytesV b).length = bytesV b := by
    unfold bytesRow bytesV
    simp only [Array.toList_append, Array.toList_map]
    rw [List.take_left' (by simp)]
  refine ⟨.slice (some ⟨W.heap.size, 0, none⟩) b.size cap, W.drew.alloc (.cells (bytesRow b cap) t ((bytesRow b cap).size, (bytesRow b cap).size + 1)), _, _, .inl ?_, h W.heap.size cap, ?_, HExt.push _ _, ?_⟩
  rotate_left
  · simp only [Is]
    exact ⟨W.heap.size, by rw [blk_eq, nth_eq]; simp [SO.blk], rfl⟩
  · exact hd.push (.cells (bytesRow b cap) t ((bytesRow b cap).size, (bytesRow b cap).size + 1)) _ rfl ⟨_, _, heap_alloc_new W.drew _, hrow⟩
  · simp only [execOp, ho, hv, Sem.run_bind, hrun, Result.andThen_ok, Sem.run_pure, Sem.run_map]
theorem s_mrk {y : Operand} (hc : cmpK1 P o.op = some (.mrk y)) (rep : Rep E s a W) (h : xk E s K (.mrk y)) : Res E P s K o a W := by
  obtain ⟨t, e0, e, ho, ht0, ht, hu⟩ := inv_mrk' hc
  have hx := rep.ev y
  simp only [xk] at h
  split at h
  case h_2 => exact h.elim
  rename_i i n c e1
  split at h
  case h_2 => exact h.elim
  rename_i g tt l hn
  split at h
  case h_2 => exact h.elim
  rename_i xs hxs
  rw [e1] at hx; simp only [Is] at hx
  obtain ⟨g', hg, hv⟩ := hx
  rw [blk_eq, hn] at hg; simp only [Option.bind_some, SO.blk] at hg; injection hg with hg; subst hg
  obtain ⟨cs, hcs, hL⟩ := rep.heap.ents i _ hn
  have hcx : cs.toList = xs := denL_is _ hxs hL
  replace hcs : W.heap[g]? = some (.cells cs tt (0, 0)) := hcs
  have hx2 : HExt s.H (setn s.H i (.frz g tt xs)) := HExt.setBlk hn rfl rfl
  have hsh : W.shape? g = some (tt, cs.size) := by unfold World.shape?; rw [hcs]
  have hW' : (W.freeze ⟨g, cs.size, none⟩ 1).heap[g]? = some (.cells cs tt (cs.size, cs.size + 1)) ∧ ∀ j, j ≠ g → (W.freeze ⟨g, cs.size, none⟩ 1).heap[j]? = W.heap[j]? := by
    unfold World.freeze
    rw [if_neg (by decide)]
    simp only [Array.getElem?_modify]
    exact ⟨by rw [hcs]; simp, fun j hj => by rw [if_neg (Ne.symm hj)]⟩
  obtain ⟨hg', hoth⟩ := hW'
  have hsz : (W.freeze ⟨g, cs.size, none⟩ 1).heap.size = W.heap.size := by unfold World.freeze; rw [if_neg (by decide)]; simp
  refine ⟨.slice (some ⟨g, 0, none⟩) n c, W.freeze ⟨g, cs.size, none⟩ 1, _, _, .inl ?_, h, ?_, hx2, ?_⟩
  · simp [execOp, ho, hv, convert, run_underlying ht, run_underlying hu, markStringish, hsh]
  · simp only [Is]
    exact ⟨g, by rw [blk_eq, nth_setn_eq _ (nth_lt hn)]; rfl, rfl⟩
  · refine rep.heap.set hn hx2 (fun g1 h1 => .inl (by simpa [SO.fp] using h1)) (fun g1 hne _ => hoth g1 fun e => hne (by rw [e]; rfl)) (by rw [hsz]; exact Nat.le_refl _) ?_ ?_ ?_ ⟨cs, _, hg', by rw [← hcx]; exact List.take_length⟩
    all_goals (unfold World.freeze; rw [if_neg (by decide)])
theorem inv_eqif' {P : Program} {op : Op} {neg : Bool} {t : TypeId} {x y : Operand} (h : cmpK1 P op = some (.eqif neg t x y)) : ∃ t', op = .binOp (if neg then .neq else .eql) t x y t' ∧ ∃ m, P.underlying t = some (.interface m) := by
  unfold cmpK1 cmpCall1 at h
  repeat' (split at h)
  all_goals first | (cases h; done) | (injection h with h; injection h with h1 h2 h3 h4; subst h1; subst h2; subst h3; subst h4; exact ⟨_, rfl, _, by assumption⟩)
theorem eqn_guard (neg : Bool) (t : TypeId) (y : Operand) (v : Value) (hv : v = .nilIface ∨ ∃ t2 u, v = .iface t2 u) (W : World) : (eqGuard (if neg then .neq else .eql) t y (.const .nilIface) v .nilIface).run P W = .ok () W := by
  rcases hv with rfl | ⟨t2, u, rfl⟩
  · cases neg <;> cases y <;> rfl
  · cases neg <;> rfl
theorem eqn_eq {t : TypeId} (hu : ∃ m, P.underlying t = some (.interface m)) (d : Nat) (v : Value) (b : Bool) (hv : (v = .nilIface ∧ b = true) ∨ (∃ t2 u, v = .iface t2 u) ∧ b = false) (W : World) : (Op.equalIn (d + 2) t v .nilIface).run P W = .ok b W := by
  obtain ⟨m, hu⟩ := hu
  rcases hv with ⟨rfl, rfl⟩ | ⟨⟨t2, u, rfl⟩, rfl⟩ <;> simp [Op.equalIn, run_underlying hu]
theorem s_eqif {neg : Bool} {t : TypeId} {y z : Operand} (hc : cmpK1 P o.op = some (.eqif neg t y z)) (rep : Rep E s a W) (h : xk E s K (.eqif neg t y z)) : ResP P s K o a := by
  obtain ⟨t', ho, hu⟩ := inv_eqif' hc
  have hy := rep.ev y
  simp only [xk] at h
  have main : ∀ (v : Value) (b : Bool), a.eval y = v → z = .const .nilIface → (v = .nilIface ∧ b = true) ∨ (∃ t2 u, v = .iface t2 u) ∧ b = false → ∀ W2, (execOp a.eval o).run P W2 = .ok (.value (.bool (neg ^^ b))) W2 := by
    intro v b hv hz hb W2
    subst hz
    have h1 := eqn_guard (P := P) neg t y v (hb.imp (·.1) (·.1)) W2
    have h2 : (Op.equal t v .nilIface).run P W2 = .ok b W2 := eqn_eq hu 9998 v b hb W2
    have h3 : (binOp (if neg then .neq else .eql) t v .nilIface).run P W2 = .ok (.bool (neg ^^ b)) W2 := by
      cases neg <;> rcases hb with ⟨rfl, rfl⟩ | ⟨⟨t2, u, rfl⟩, rfl⟩ <;> simp [binOp, h2]
    have hz : a.eval (.const .nilIface) = .nilIface := rfl
    simp only [execOp, ho, hv, hz, Sem.run_bind, h1, Result.andThen_ok, h3]
    rfl
  generalize ev s.F y = q at h hy
  unfold xEqi at h
  split at h
  case h_5 => exact h.elim
  all_goals simp only [Is] at hy
  · exact ResP.mk (v := .bool false) (main _ true hy rfl (.inl ⟨rfl, rfl⟩)) h (by simp [Is])
  · exact ResP.mk (v := .bool true) (main _ false hy rfl (.inr ⟨⟨_, _, rfl⟩, rfl⟩)) h (by simp [Is])
  · exact ResP.mk (v := .bool true) (main _ true hy rfl (.inl ⟨rfl, rfl⟩)) h (by simp [Is])
  · exact ResP.mk (v := .bool false) (main _ false hy rfl (.inr ⟨⟨_, _, rfl⟩, rfl⟩)) h (by simp [Is])
theorem s_lib {w : Nat} {args : List Operand} (hc : cmpK1 P o.op = some (.lib w args)) (rep : Rep E s a W) (h : xk E s K (.lib w args)) : ResP P s K o a := by
  obtain ⟨c, f, ho, hcal, hl, rfl⟩ := inv_lib' hc
  have hL := rep.evL c.args.toList
  simp only [xk] at h
  split at h
  case h_2 => exact h.elim
  rename_i b n e1
  rw [e1] at hL
  simp only [IsL, Is] at hL
  obtain ⟨_, _, rfl, ⟨_, _, rfl, rfl, rfl⟩, hL⟩ := hL
  obtain ⟨fn, hf, hb, hor, hname⟩ := libOf0 hl
  have hargs' : c.args.map a.eval = #[.string b, .int .u8 n] := by
    rw [← Array.toList_inj]; simpa using hL
  obtain ⟨h1, h2⟩ := find0' hor hname
  refine ResP.mk (v := .int .i64 (Lib.indexByte b.data.toList n.toNat.toUInt8)) ?_ h (by simp [Is])
  intro W2
  simp only [execOp, ho, resolve, hcal, Act.eval, hargs', Deferred.ofValue, Sem.run_bind, Sem.run_pure, Result.andThen_ok, invoke, Array.append_empty, Array.empty_append]
  rw [run_callFunc_extern hf (by rw [hname]; decide) (by rw [hb]; rfl) h1 h2, Lib.run_indexByteString]
  rfl

def isNew2 : XK → Bool
  | .eqif .. | .neg .. | .mm .. | .lib .. | .mkmap | .lkup .. | .mupd .. | .mdel .. | .lenM .. | .mkslc .. | .s2b .. | .mrk .. => false
  | x => isNew x
theorem xk_new {x : XK} (hn : isNew2 x = true) (h : xk E s K x) : False := by
  cases x <;> first | exact h | cases hn
theorem xk_sound {x : XK} (hc : cmpK P o.op = some x) (rep : Rep E s a W) (h : xk E s K x) : ResK E P s K o a W x := by
  unfold cmpK at hc
  split at hc
  · rename_i y hy; injection hc with hc; subst hc; exact xk_sound0 hy rep h
  · split at hc
    · rename_i y hy; injection hc with hc; subst hc
      cases y
      case mm => exact s_mm hy rep h
      case neg => exact s_neg hy rep h
      case s2b => exact s_s2b hy rep h
      case eqif => exact s_eqif hy rep h
      case mrk => exact s_mrk hy rep h
      case lib => exact s_lib hy rep h
      case mkmap => exact s_mkmap hy rep h
      case lkup => exact s_lkup hy rep h
      case mupd => exact s_mupd hy rep h
      case mdel => exact s_mdel hy rep h
      case lenM => exact s_lenM hy rep h
      case mkslc => exact s_mkslc hy rep h
      all_goals first | exact (xk_new rfl h).elim | (have := cmpK1_new hy; cases this)
    · split at hc
      · injection hc with hc; subst hc; exact (xk_new rfl h).elim
      · cases hc

end
end Go.Sx
