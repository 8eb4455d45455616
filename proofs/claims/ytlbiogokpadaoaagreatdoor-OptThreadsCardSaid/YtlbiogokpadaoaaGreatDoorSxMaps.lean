/- The engine, part 6b: maps, slices made. -/
import Derived.Test.YtlbiogokpadaoaaGreatDoorSxEqa
import Derived.Laws.Externs
import Derived.KernelRfl
import Derived.MapKept
import Derived.Laws.MakeOwn
set_option linter.unusedSimpArgs false
set_option linter.unusedVariables false
set_option linter.unnecessarySimpa false
namespace Go.Sx
open Go.MapKept (IsKey)

section
theorem inv1_mkmap {P : Program} {op : Op} (h : cmpK1 P op = some .mkmap) : ∃ t, op = .makeMap t none := by
  unfold cmpK1 cmpCall1 at h
  repeat' (split at h)
  all_goals first | (cases h; done) | exact ⟨_, rfl⟩
theorem inv1_lkup {P : Program} {op : Op} {c : CK} {z : Value} {ok : Bool} {x i : Operand} (h : cmpK1 P op = some (.lkup c z ok x i)) : ∃ t k e, op = .lookup t x i ok ∧ P.underlying t = some (.map k e) ∧ keyK P k = some c ∧ zeroV P e = some z := by
  unfold cmpK1 cmpCall1 at h
  repeat' (split at h)
  all_goals first | (cases h; done) | (injection h with h; injection h with h1 h2 h3 h4 h5; subst h1; subst h2; subst h3; subst h4; subst h5; exact ⟨_, _, _, rfl, by assumption, by assumption, by assumption⟩)
theorem inv1_mupd {P : Program} {op : Op} {c : CK} {x i v : Operand} (h : cmpK1 P op = some (.mupd c x i v)) : ∃ t k e, op = .mapUpdate t x i v ∧ P.underlying t = some (.map k e) ∧ keyK P k = some c := by
  unfold cmpK1 cmpCall1 at h
  repeat' (split at h)
  all_goals first | (cases h; done) | (injection h with h; injection h with h1 h2 h3 h4; subst h1; subst h2; subst h3; subst h4; exact ⟨_, _, _, rfl, by assumption, by assumption⟩)
theorem inv1_mkslc {P : Program} {op : Op} {t : TypeId} {sz bytes : Nat} {z : List Value} {l c : Operand} (h : cmpK1 P op = some (.mkslc t sz bytes z l c)) : ∃ T, op = .makeSlice T l c ∧ P.underlying T = some (.slice t) ∧ szT P t = some sz ∧ bytesT P t = some bytes ∧ zeroT P t = some z ∧ z.length = sz ∧ 0 < sz := by
  unfold cmpK1 cmpCall1 at h
  repeat' (split at h)
  all_goals first | (cases h; done) | (rename_i hl; injection h with h; injection h with h1 h2 h3 h4 h5 h6; subst h1; subst h2; subst h3; subst h4; subst h5; subst h6; exact ⟨_, rfl, by assumption, by assumption, by assumption, by assumption, by simpa using hl, Nat.succ_pos _⟩)
theorem inv1_lenM {P : Program} {op : Op} {x : Operand} (h : cmpK1 P op = some (.lenM x)) : ∃ t k e, op = .call { callee := .builtin .len, args := #[x], argTypes := #[t] } ∧ P.underlying t = some (.map k e) := by
  unfold cmpK1 at h
  repeat' (split at h)
  all_goals first | (cases h; done) | skip
  rename_i c
  obtain ⟨cc, ⟨al⟩, ⟨tl⟩⟩ := c
  unfold cmpCall1 at h
  dsimp only at h
  repeat' (split at h)
  all_goals first | (cases h; done) | skip
  all_goals (injection h with h; injection h with h1; subst h1; exact ⟨_, _, _, rfl, by assumption⟩)
theorem inv1_mdel {P : Program} {op : Op} {c : CK} {x i : Operand} (h : cmpK1 P op = some (.mdel c x i)) : ∃ t t' k e, op = .call { callee := .builtin .delete, args := #[x, i], argTypes := #[t, t'] } ∧ P.underlying t = some (.map k e) ∧ keyK P k = some c := by
  unfold cmpK1 at h
  repeat' (split at h)
  all_goals first | (cases h; done) | skip
  rename_i c
  obtain ⟨cc, ⟨al⟩, ⟨tl⟩⟩ := c
  unfold cmpCall1 at h
  dsimp only at h
  repeat' (split at h)
  all_goals first | (cases h; done) | skip
  all_goals (injection h with h; injection h with h1 h2 h3; subst h1; subst h2; subst h3; exact ⟨_, _, _, _, rfl, by assumption, by assumption⟩)

theorem isKey_of' {P : Program} {t : TypeId} {c : CK} (hk : keyK P t = some c) {w : Value} (h : keyIs c w = true) : ∃ d, P.underlying t = some d ∧ IsKey d w ∧ ((∃ k, d = .int k ∧ c = .int k) ∨ (d = .string ∧ c = .str)) := by
  unfold keyK at hk
  split at hk
  · rename_i k hu; injection hk with hk; subst hk
    cases w <;> simp [keyIs] at h
    exact ⟨_, hu, by simp [IsKey, kEq_eq h], .inl ⟨_, rfl, rfl⟩⟩
  · rename_i hu; injection hk with hk; subst hk
    cases w <;> simp [keyIs] at h
    exact ⟨_, hu, by simp [IsKey], .inr ⟨rfl, rfl⟩⟩
  · cases hk
theorem same_key {d : TypeDesc} {c : CK} (hd : (∃ k, d = .int k ∧ c = .int k) ∨ (d = .string ∧ c = .str)) {k q : Value} (hk : keyIs c k = true) (hq : keyIs c q = true) : Instr.sameNow d k q = some (keyB k q) ∧ (keyB k q = true → q = k) := by
  rcases hd with ⟨j, rfl, rfl⟩ | ⟨rfl, rfl⟩
  · cases k <;> simp only [keyIs, Bool.false_eq_true] at hk
    cases q <;> simp only [keyIs, Bool.false_eq_true] at hq
    have e1 := kEq_eq hk; have e2 := kEq_eq hq; subst e1; subst e2
    refine ⟨by simp [Instr.sameNow, keyB], fun h => ?_⟩
    simp [keyB] at h; rw [h]
  · cases k <;> simp only [keyIs, Bool.false_eq_true] at hk
    cases q <;> simp only [keyIs, Bool.false_eq_true] at hq
    refine ⟨by simp [Instr.sameNow, keyB], fun h => ?_⟩
    have h : (_ == _) = true := h
    rw [MapKept.bytes_beq] at h
    rw [h]

theorem find_get {d : TypeDesc} {c : CK} (hd : (∃ k, d = .int k ∧ c = .int k) ∨ (d = .string ∧ c = .str)) {w : Value} (hk : keyIs c w = true) : ∀ (es : List MapEntry) (i : Nat), (∀ e ∈ es, keyIs c e.key = true) →
    (mget (es.map fun e => (e.key, e.val)) w = none ∧ Instr.findNow d w es i = some none ∧ (∀ u, mput (es.map fun e => (e.key, e.val)) w u = (es.map fun e => (e.key, e.val)) ++ [(w, u)]) ∧ mrem (es.map fun e => (e.key, e.val)) w = (es.map fun e => (e.key, e.val))) ∨
    ∃ j e, mget (es.map fun e => (e.key, e.val)) w = some e.val ∧ Instr.findNow d w es i = some (some (i + j, e.val)) ∧ es[j]? = some e ∧ e.key = w ∧
      (∀ u, mput (es.map fun e => (e.key, e.val)) w u = ((es.modify j fun e => { e with key := w, val := u }).map fun e => (e.key, e.val))) ∧ mrem (es.map fun e => (e.key, e.val)) w = ((es.eraseIdx j).map fun e => (e.key, e.val))
  | [], i, _ => .inl ⟨rfl, rfl, fun _ => rfl, rfl⟩
  | e :: es, i, h => by
    obtain ⟨hs, he⟩ := same_key hd hk (h e (by simp))
    cases hb : keyB w e.key with
    | true =>
      rw [hb] at hs
      exact .inr ⟨0, e, by simp [mget, hb], by simp [Instr.findNow, hs], rfl, he hb, fun u => by simp [mput, hb], by simp [mrem, hb]⟩
    | false =>
      rw [hb] at hs
      rcases find_get hd hk es (i + 1) (fun x hx => h x (by simp [hx])) with ⟨q1, q2, q3, q4⟩ | ⟨j, e1, q1, q2, q3, q4, q5, q6⟩
      · exact .inl ⟨by simp [mget, hb, q1], by simp [Instr.findNow, hs, q2], fun u => by simp [mput, hb, q3 u], by simp [mrem, hb, q4]⟩
      · refine .inr ⟨j + 1, e1, by simp [mget, hb, q1], ?_, by simpa using q3, q4, fun u => by simp [mput, hb, q5 u], by simp [mrem, hb, q6]⟩
        simp only [Instr.findNow, hs, q2]; congr 3; omega
end

mutual
theorem den_is' {H : List SO} : ∀ (s : SV) {u : Value}, den H s = some u → Is H s u
  | .unk, _, h => by simp [den] at h
  | .val _, _, h => by simp [den] at h; simp [Is, h]
  | .opq _ _, _, h => by simp [den] at h; simp [Is, h]
  | .bt, _, h => by simp [den] at h; simp [Is, h]
  | .bf, _, h => by simp [den] at h; simp [Is, h]
  | .ptr i off, _, h => by
    simp only [den] at h; split at h
    · rename_i g hg; injection h with h; simp only [Is]; exact ⟨g, hg, h.symm⟩
    · cases h
  | .adr A off, _, h => by simp [den] at h; simp [Is, h]
  | .slc i off n c, _, h => by
    simp only [den] at h; split at h
    · rename_i g hg; injection h with h; simp only [Is]; exact ⟨g, hg, h.symm⟩
    · cases h
  | .own i ver, _, h => by
    simp only [den] at h; split at h
    · rename_i t ver' sz A n c xs he
      split at h
      · rename_i hb; injection h with h
        have hb : ver' = ver := by simpa using hb
        simp only [Is]; exact ⟨_, _, _, _, _, _, _, he, by omega, ⟨_, _, _, h.symm⟩, fun _ => h.symm⟩
      · cases h
    · cases h
  | .oad i ver off, _, h => by
    simp only [den] at h; split at h
    · rename_i t ver' sz A n c xs he
      split at h
      · rename_i A' hb; injection h with h
        have hb : ver' = ver := by simpa using hb
        simp only [Is]; exact ⟨_, _, _, _, _, _, _, he, by omega, ⟨_, h.symm⟩, fun _ => ⟨_, rfl, h.symm⟩⟩
      · cases h
    · cases h
  | .mp i, _, h => by
    simp only [den] at h; split at h
    · rename_i g hg; injection h with h; simp only [Is]; exact ⟨g, hg, h.symm⟩
    · cases h
  | .agg l, _, h => by
    simp only [den] at h; split at h
    · rename_i vs hl; injection h with h; simp only [Is]; exact ⟨vs, denL_is' l hl, h.symm⟩
    · cases h
  | .tup l, _, h => by
    simp only [den] at h; split at h
    · rename_i vs hl; injection h with h; simp only [Is]; exact ⟨vs, denL_is' l hl, h.symm⟩
    · cases h
  | .fn f a b, _, h => by
    simp only [den] at h; split at h
    · rename_i x y ha hb; injection h with h; simp only [Is]; exact ⟨x, y, denL_is' a ha, denL_is' b hb, h.symm⟩
    · cases h
theorem denL_is' {H : List SO} : ∀ (l : List SV) {us : List Value}, denL H l = some us → IsL H l us
  | [], _, h => by simp [denL] at h; simp [IsL, h]
  | s :: l, _, h => by
    simp only [denL] at h; split at h
    · rename_i v vs h1 h2; injection h with h; simp only [IsL]; exact ⟨v, vs, den_is' s h1, denL_is' l h2, h.symm⟩
    · cases h
end

section
variable {E : Env} {P : Program} {s : SS} {K : SV → List SO → Prop} {o : Oper} {a : Act} {W : World}

theorem run_zv' {t : TypeId} {z : Value} (h : zeroV P t = some z) (W : World) : (zeroValue t).run P W = .ok z W := by
  unfold zeroV at h
  split at h
  · rename_i i hi; simp [zeroValue, typeInfo, hi, h]
  · cases h

theorem mp_spec (rep : Rep E s a W) {x : Operand} {e g : Nat} {l : List (Value × Value)} (e1 : ev s.F x = .mp e) (e2 : nth s.H e = some (.map g l)) :
    a.eval x = .map (some g) ∧ ∃ (es : Array MapEntry) (ck : Nat), W.heap[g]? = some (.map es ck) ∧ es.toList.map (fun e => (e.key, e.val)) = l ∧ (es.toList.map (·.born)).Nodup ∧ ∀ e ∈ es.toList, e.born < ck := by
  have hx := rep.ev x
  rw [e1] at hx; simp only [Is] at hx
  obtain ⟨g', hg, hv⟩ := hx
  have : g' = g := by simp [blk, e2] at hg; exact hg.symm
  subst this
  exact ⟨hv, rep.heap.ents e _ e2⟩

theorem s_mkmap (hc : cmpK1 P o.op = some .mkmap) (rep : Rep E s a W) (h : xk E s K .mkmap) : Res E P s K o a W := by
  obtain ⟨t, ho⟩ := inv1_mkmap hc
  simp only [xk] at h
  refine ⟨.map (some W.heap.size), W.alloc (.map #[] 0), _, _, .inl ?_, h W.heap.size, ?_, HExt.push _ _, ?_⟩
  · simp [execOp, ho, Instr.makeMap]
  · simp only [Is]; exact ⟨W.heap.size, by rw [blk_eq, nth_eq]; simp [SO.blk], rfl⟩
  · exact rep.heap.push (.map #[] 0) _ rfl ⟨#[], 0, heap_alloc_new W _, rfl, by simp, by simp⟩

theorem s_lkup {c : CK} {z : Value} {ok : Bool} {x i : Operand} (hc : cmpK1 P o.op = some (.lkup c z ok x i)) (rep : Rep E s a W) (h : xk E s K (.lkup c z ok x i)) : ResR P s K o a W := by
  obtain ⟨t, kt, et, ho, hm, hkk, hz⟩ := inv1_lkup hc
  simp only [xk] at h
  split at h
  case h_2 => exact h.elim
  rename_i e w e1 e2
  split at h
  case h_2 => exact h.elim
  rename_i g l e3 hki
  obtain ⟨hall, r, hr, v, hv, hk⟩ := h
  have hi := rep.ev i
  rw [e2] at hi; simp only [Is] at hi
  obtain ⟨hx, es, ck, hb, hl, _⟩ := mp_spec rep e1 e3
  obtain ⟨d, hu, hd, hd2⟩ := isKey_of' hkk hki
  have hb' : ∀ W2, Grow W W2 → W2.heap[g]? = some (.map es ck) := fun W2 hg => by
    rw [hg.block _ (Array.getElem?_eq_some_iff.1 hb).1]; exact hb
  have hall' : ∀ e ∈ es.toList, keyIs c e.key = true := fun e he => hall (e.key, e.val) (by rw [← hl]; exact List.mem_map_of_mem he)
  have hIs : ∀ u, den s.H v = some u → Is s.H v u := fun u hu => den_is' v hu
  have fin : ∀ u b, r.getD z = u → r.isSome = b → Is s.H (lkV ok v r.isSome) (if ok then .tuple #[u, .bool b] else u) := by
    intro u b h1 h2
    rw [h1] at hv
    have := hIs u hv
    cases ok
    · simpa [lkV] using this
    · simp only [lkV, Is, IsL, if_true]
      exact ⟨_, ⟨u, [.bool b], this, ⟨_, _, rfl, rfl, by rw [h2]⟩, rfl⟩, rfl⟩
  rcases find_get hd2 hki es.toList 0 hall' with ⟨q1, q2, _⟩ | ⟨j, e0, q1, q2, q3, q4, _⟩
  · rw [hl, hr] at q1
    subst q1
    refine ⟨_, _, fun W2 hg => ?_, hk, fin _ _ rfl rfl⟩
    simp [execOp, ho, hx, hi, Instr.lookup, run_underlying hm, MapKept.run_getObj_map (hb' W2 hg), MapKept.run_checkKey hu hd, MapKept.run_findKey hu q2, run_zv' hz]
  · rw [hl, hr] at q1
    subst q1
    refine ⟨_, _, fun W2 hg => ?_, hk, fin _ _ rfl rfl⟩
    simp [execOp, ho, hx, hi, Instr.lookup, run_underlying hm, MapKept.run_getObj_map (hb' W2 hg), MapKept.run_checkKey hu hd, MapKept.run_findKey hu q2]

theorem HeapOk.mapSet {H : List SO} (hh : HeapOk E H W) {e g : Nat} {l l' : List (Value × Value)} (he : nth H e = some (.map g l)) {es' : Array MapEntry} {ck' : Nat} (h1 : es'.toList.map (fun e => (e.key, e.val)) = l') (h2 : (es'.toList.map (·.born)).Nodup) (h3 : ∀ e ∈ es'.toList, e.born < ck') :
    HExt H (setn H e (.map g l')) ∧ HeapOk E (setn H e (.map g l')) { W with heap := W.heap.setIfInBounds g (.map es' ck') } := by
  obtain ⟨es, ck, hb, _⟩ := hh.ents e _ he
  have hx : HExt H (setn H e (.map g l')) := HExt.setBlk he rfl rfl
  have hs := MapKept.heap_set (o' := .map es' ck') hb
  refine ⟨hx, hh.set he hx (fun g' hg' => .inl hg') (fun g' hne _ => hs.2 g' fun q => hne (by rw [q]; rfl)) (by simp) rfl rfl rfl ⟨es', ck', hs.1, h1, h2, h3⟩⟩

theorem modify_born (l : List MapEntry) (j : Nat) (w u : Value) : (l.modify j fun e => { e with key := w, val := u }).map (·.born) = l.map (·.born) := by
  apply List.ext_getElem?
  intro i
  simp only [List.getElem?_map, List.getElem?_modify]
  cases l[i]? with
  | none => rfl
  | some e => by_cases h : j = i <;> simp [h]

theorem s_mupd {c : CK} {x i v : Operand} (hc : cmpK1 P o.op = some (.mupd c x i v)) (rep : Rep E s a W) (h : xk E s K (.mupd c x i v)) : Res E P s K o a W := by
  obtain ⟨t, kt, et, ho, hm, hkk⟩ := inv1_mupd hc
  simp only [xk] at h
  split at h
  case h_2 => exact h.elim
  rename_i e w e1 e2
  split at h
  case h_2 => exact h.elim
  rename_i g l u e3 hki hu'
  obtain ⟨hall, hk⟩ := h
  have hi := rep.ev i
  rw [e2] at hi; simp only [Is] at hi
  have hv : a.eval v = u := den_is _ hu' (rep.ev v)
  obtain ⟨hx, es, ck, hb, hl, hnd, hck⟩ := mp_spec rep e1 e3
  obtain ⟨d, hu, hd, hd2⟩ := isKey_of' hkk hki
  have hall' : ∀ e ∈ es.toList, keyIs c e.key = true := fun e he => hall (e.key, e.val) (by rw [← hl]; exact List.mem_map_of_mem he)
  have hf0 : (Instr.checkKey false 10000 kt w).run P W = .ok () W := MapKept.run_checkKey hu hd false 9999
  rcases find_get hd2 hki es.toList 0 hall' with ⟨q1, q2, q3, _⟩ | ⟨j, e0, q1, q2, q3, q4, q5, _⟩
  · obtain ⟨hx', hh⟩ := rep.heap.mapSet (l' := mput l w u) e3 (es' := es.push { key := w, val := u, born := ck }) (ck' := ck + 1)
      (by rw [← hl, q3 u]; simp) (by simp only [Array.toList_push, List.map_append, List.map_cons, List.map_nil]
                                     rw [List.nodup_append]
                                     refine ⟨hnd, by simp, ?_⟩
                                     intro b hb b' hb' e
                                     obtain ⟨x, hx, rfl⟩ := List.mem_map.1 hb
                                     simp only [List.mem_singleton] at hb'; subst hb'
                                     have := hck x hx; omega)
      (by intro x hx
          simp only [Array.toList_push, List.mem_append, List.mem_singleton] at hx
          rcases hx with hx | rfl
          · have := hck x hx; omega
          · simp)
    refine ⟨undef, _, _, _, .inr ⟨?_, rfl⟩, hk, by simp [Is], hx', hh⟩
    simp [execOp, ho, hx, hi, hv, Instr.mapUpdate, run_underlying hm, MapKept.run_getObj_map hb, hf0, MapKept.run_findKey hu q2, MapKept.run_setObj_map _ hb]
  · rw [Nat.zero_add] at q2
    have hm2 : (es.modify j fun e => { e with key := w, val := u }).toList = es.toList.modify j fun e => { e with key := w, val := u } := by simp
    obtain ⟨hx', hh⟩ := rep.heap.mapSet (l' := mput l w u) e3 (es' := es.modify j fun e => { e with key := w, val := u }) (ck' := ck)
      (by rw [hm2, ← hl, q5 u]) (by rw [hm2, modify_born]; exact hnd)
      (by intro x hx
          rw [hm2] at hx
          have : x.born ∈ (es.toList.modify j fun e => { e with key := w, val := u }).map (·.born) := List.mem_map_of_mem hx
          rw [modify_born] at this
          obtain ⟨y, hy, e⟩ := List.mem_map.1 this
          rw [← e]; exact hck y hy)
    have q3' : es[j]? = some e0 := by simpa using q3
    refine ⟨undef, _, _, _, .inr ⟨?_, rfl⟩, hk, by simp [Is], hx', hh⟩
    simp [execOp, ho, hx, hi, hv, Instr.mapUpdate, run_underlying hm, MapKept.run_getObj_map hb, hf0, MapKept.run_findKey hu q2, q3', q4, MapKept.run_keyThatStays hd, MapKept.run_setObj_map _ hb]

theorem s_mdel {c : CK} {x i : Operand} (hc : cmpK1 P o.op = some (.mdel c x i)) (rep : Rep E s a W) (h : xk E s K (.mdel c x i)) : Res E P s K o a W := by
  obtain ⟨t, t', kt, et, ho, hm, hkk⟩ := inv1_mdel hc
  simp only [xk] at h
  split at h
  case h_2 => exact h.elim
  rename_i e w e1 e2
  split at h
  case h_2 => exact h.elim
  rename_i g l e3 hki
  obtain ⟨hall, hk⟩ := h
  have hi := rep.ev i
  rw [e2] at hi; simp only [Is] at hi
  obtain ⟨hx, es, ck, hb, hl, hnd, hck⟩ := mp_spec rep e1 e3
  obtain ⟨d, hu, hd, hd2⟩ := isKey_of' hkk hki
  have hall' : ∀ e ∈ es.toList, keyIs c e.key = true := fun e he => hall (e.key, e.val) (by rw [← hl]; exact List.mem_map_of_mem he)
  have hf0 : ∀ b, (Instr.checkKey b 10000 kt w).run P W = .ok () W := fun b => MapKept.run_checkKey hu hd b 9999
  have ht : ∀ H, Is H (.tup []) (.tuple #[]) := fun H => by simp only [Is, IsL]; exact ⟨[], rfl, rfl⟩
  rcases find_get hd2 hki es.toList 0 hall' with ⟨q1, q2, _, q3⟩ | ⟨j, e0, q1, q2, q3, q4, _, q5⟩
  · obtain ⟨hx', hh⟩ := rep.heap.mapSet (l' := mrem l w) e3 (es' := es) (ck' := ck) (by rw [← hl, q3]) hnd hck
    refine ⟨.tuple #[], _, _, _, .inl ?_, hk, ht _, hx', hh⟩
    simp [execOp, ho, resolve, invoke, builtin, hx, hi, Builtin.delete_, run_underlying hm, MapKept.run_getObj_map hb, hf0, MapKept.run_findKey hu q2, MapKept.run_setObj_map _ hb]
  · rw [Nat.zero_add] at q2
    have q3' : es[j]? = some e0 := by simpa using q3
    have hm2 : (es.eraseIdxIfInBounds j).toList = es.toList.eraseIdx j := by
      unfold Array.eraseIdxIfInBounds
      rw [dif_pos (Array.getElem?_eq_some_iff.1 q3').1]; simp
    obtain ⟨hx', hh⟩ := rep.heap.mapSet (l' := mrem l w) e3 (es' := es.eraseIdxIfInBounds j) (ck' := ck) (by rw [hm2, ← hl, q5])
      (by rw [hm2]; exact List.Nodup.sublist ((List.eraseIdx_sublist _ _).map _) hnd) (by intro x hx; rw [hm2] at hx; exact hck x ((List.eraseIdx_sublist _ _).subset hx))
    refine ⟨.tuple #[], _, _, _, .inl ?_, hk, ht _, hx', hh⟩
    simp [execOp, ho, resolve, invoke, builtin, hx, hi, Builtin.delete_, run_underlying hm, MapKept.run_getObj_map hb, hf0, MapKept.run_findKey hu q2, MapKept.run_setObj_map _ hb]

theorem s_lenM {x : Operand} (hc : cmpK1 P o.op = some (.lenM x)) (rep : Rep E s a W) (h : xk E s K (.lenM x)) : ResR P s K o a W := by
  obtain ⟨t, k, e', ho, hm⟩ := inv1_lenM hc
  simp only [xk] at h
  split at h
  case h_2 => exact h.elim
  rename_i e e1
  split at h
  case h_2 => exact h.elim
  rename_i g l e3
  obtain ⟨hx, es, ck, hb, hl, _⟩ := mp_spec rep e1 e3
  have hb' : ∀ W2, Grow W W2 → W2.heap[g]? = some (.map es ck) := fun W2 hg => by
    rw [hg.block _ (Array.getElem?_eq_some_iff.1 hb).1]; exact hb
  have hsz : es.size = l.length := by
    have := congrArg List.length hl
    simpa using this
  refine ⟨.int .i64 l.length, _, fun W2 hg => ?_, h, by simp [Is]⟩
  simp [execOp, ho, resolve, invoke, builtin, hx, Builtin.len_, run_underlying hm, goInt, MapKept.run_getObj_map (hb' W2 hg), hsz]

theorem repN_length : ∀ (c : Nat) (z : List Value), (repN c z).length = c * z.length
  | 0, z => by simp [repN]
  | c + 1, z => by simp [repN, repN_length c z, Nat.add_mul, Nat.add_comm]
theorem repN_get : ∀ (c : Nat) (z : List Value) (j : Nat), j < c * z.length → (repN c z)[j]? = z[j % z.length]?
  | 0, z, j, h => by simp at h
  | c + 1, z, j, h => by
    simp only [repN]
    by_cases hj : j < z.length
    · rw [List.getElem?_append_left hj, Nat.mod_eq_of_lt hj]
    · have hj : z.length ≤ j := by omega
      rw [List.getElem?_append_right hj, repN_get c z _ (by rw [Nat.add_mul] at h; omega)]
      rw [Nat.mod_eq_sub_mod hj]
theorem made_repN (z : Array Value) (c : Nat) (hz : 0 < z.size) : (madeCells z (c * z.size)).toList = repN c z.toList := by
  apply List.ext_getElem?
  intro j
  by_cases hj : j < c * z.size
  · rw [repN_get c z.toList j (by simpa using hj)]
    have hm : j % z.size < z.size := Nat.mod_lt _ hz
    simp [madeCells, hj, hm]
  · have h1 : (repN c z.toList).length = c * z.size := by simpa using repN_length c z.toList
    rw [List.getElem?_eq_none (by simp [madeCells]; omega), List.getElem?_eq_none (by omega)]
theorem repN_take (z : List Value) : ∀ (l c : Nat), l ≤ c → (repN c z).take (l * z.length) = repN l z
  | 0, c, _ => by simp [repN]
  | l + 1, 0, h => by omega
  | l + 1, c + 1, h => by
    have e : (l + 1) * z.length = z.length + l * z.length := by rw [Nat.add_mul]; omega
    simp only [repN]
    rw [e, List.take_append, List.take_of_length_le (by omega)]
    congr 1
    rw [show z.length + l * z.length - z.length = l * z.length by omega]
    exact repN_take z l c (by omega)

theorem s_mkslc {t : TypeId} {sz bytes : Nat} {z : List Value} {y1 y2 : Operand} (hc : cmpK1 P o.op = some (.mkslc t sz bytes z y1 y2)) (rep : Rep E s a W) (h : xk E s K (.mkslc t sz bytes z y1 y2)) : Res E P s K o a W := by
  obtain ⟨T, ho, hT, hsz, hby, hz, hzl, h0⟩ := inv1_mkslc hc
  simp only [xk] at h
  split at h
  case h_2 => exact h.elim
  rename_i k1 n k2 m e1 e2
  obtain ⟨⟨b0, b1, b2, b3⟩, hk⟩ := h
  have hv1 := rep.ev y1; have hv2 := rep.ev y2
  rw [e1] at hv1; rw [e2] at hv2
  simp only [Is] at hv1 hv2
  unfold szT at hsz; unfold bytesT at hby; unfold zeroT at hz
  cases hi : P.info? t with
  | none => rw [hi] at hsz; cases hsz
  | some inf =>
  rw [hi] at hsz hby hz
  simp only [Option.map_some, Option.some.injEq] at hsz hby
  subst hby
  dsimp only at hz
  split at hz
  case h_2 => cases hz
  rename_i zv hzv
  injection hz with hz
  have hzs : zv.cells.size = sz := by rw [← hzl, ← hz]; simp
  have hrun := run_make (P := P) W T t inf zv hT hi hzv k1 k2 n m (by omega) (by omega) b2 (by omega)
  have hcs : (madeCells zv.cells (m.toNat * sz)).toList = repN m.toNat z := by
    have := made_repN zv.cells m.toNat (by omega)
    rw [hzs, hz] at this; exact this
  rw [hsz] at hrun
  have hex : (execOp a.eval o).run P W = .ok (.value (.slice (some ⟨W.heap.size, 0, none⟩) n.toNat m.toNat)) (W.alloc (.cells (madeCells zv.cells (m.toNat * sz)) t)) := by
    simp only [execOp, ho, hv1, hv2]
    simp [hrun]
  have hmc : madeCells zv.cells (m.toNat * sz) = (repN m.toNat z).toArray := by rw [← hcs]
  rw [hmc] at hex
  have hnm : n.toNat ≤ m.toNat := by omega
  refine ⟨_, _, _, _, .inl hex, hk W.heap.size, ?_, HExt.push _ _, ?_⟩
  · simp only [Is]
    exact ⟨t, 0, sz, some ⟨W.heap.size, 0, none⟩, n.toNat, m.toNat, repN n.toNat z, by rw [nth_eq]; simp, Nat.le_refl _, ⟨_, _, _, rfl⟩, fun _ => rfl⟩
  · refine rep.heap.push _ (.own t 0 sz (some ⟨W.heap.size, 0, none⟩) n.toNat m.toNat (repN n.toNat z)) rfl ⟨by rw [repN_length, hzl], .inr ⟨W.heap.size, (repN m.toNat z).toArray, rfl, heap_alloc_new W _, hnm, by simp [maxLen]; omega, by simp [repN_length, hzl], ?_⟩⟩
    have := repN_take z n.toNat m.toNat hnm
    rw [hzl] at this
    simpa using this
theorem inv1_str0 {P : Program} {op : Op} {x v : Operand} (h : cmpK1 P op = some (.str0 x v)) : ∃ t, op = .store t x v ∧ szT P t = some 0 := by
  unfold cmpK1 cmpCall1 at h
  repeat' (split at h)
  all_goals first | (cases h; done) | (injection h with h; injection h with h1 h2; subst h1; subst h2; exact ⟨_, rfl, by assumption⟩)
theorem s_str0 {x v : Operand} (hc : cmpK1 P o.op = some (.str0 x v)) (rep : Rep E s a W) (h : xk E s K (.str0 x v)) : Res E P s K o a W := by
  obtain ⟨t, ho, hz⟩ := inv1_str0 hc
  have hx := rep.ev x
  have hv := rep.ev v
  simp only [xk] at h
  split at h
  case h_2 => exact h.elim
  rename_i e1 e2
  rw [e1] at hx; rw [e2] at hv
  simp only [Is] at hx hv
  obtain ⟨vs, hl, hv⟩ := hv
  simp only [IsL] at hl
  subst hl
  obtain ⟨g, hg, hx⟩ := hx
  refine ⟨undef, W, _, _, .inr ⟨?_, rfl⟩, h, by simp [Is], HExt.refl _, rep.heap⟩
  have hc0 : (a.eval v).cells = #[] := by rw [hv]; rfl
  simp [execOp, ho, hx, Instr.storeAt, Instr.sureAddr, storeVar, run_sizeOf hz, hc0, storeCells]

end
end Go.Sx
