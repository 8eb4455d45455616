/- The runner, part 8: maps. -/
import Derived.Test.YtfgdmcnlbgbleaaDoorKxNew
set_option linter.unusedSimpArgs false
set_option linter.unusedVariables false
set_option linter.unnecessarySimpa false
namespace Go.Kx
open Go
open Go.Sx (Grow Keep XC XS XI XK CK NK cmp theOrder Jump Ran SV SO kEq cmpK cmpK0 cmpK1 isNew pureK readK xk xk_sound ResK ResP ResR Res svc nth takeL dropL szT isAggT zeroT zeroV bytesT keyK splice)
open Go.MapKept (IsKey)

def keyIs : CK → Value → Bool
  | .int k, .int j _ => kEq j k
  | .str, .string _ => true
  | _, _ => false
def kkey (c : CK) : KV → Option Value
  | .v w => (match keyIs c w with | true => some w | false => none)
  | _ => none
def eqBs : List UInt8 → List UInt8 → Bool
  | [], [] => true
  | a :: l, b :: m => (match Nat.beq a.toNat b.toNat with | true => eqBs l m | false => false)
  | _, _ => false
def eqInt : Int → Int → Bool
  | .ofNat a, .ofNat b => Nat.beq a b
  | .negSucc a, .negSucc b => Nat.beq a b
  | _, _ => false
def vkey : Value → Value → Option Bool
  | .int j a, .int k b => (match kEq j k with | true => some (eqInt a b) | false => none)
  | .string ⟨⟨a⟩⟩, .string ⟨⟨b⟩⟩ => some (eqBs a b)
  | _, _ => none
def kfind (k : Value) : List (Value × KV) → Nat → Option (Option (Nat × KV))
  | [], _ => some none
  | (q, v) :: l, i => match vkey k q with
    | some true => some (some (i, v))
    | some false => kfind k l (i + 1)
    | none => none
def fin2 (ok : Bool) (v : KV) (b : Bool) : KV := match ok with
  | true => .t [v, .v (.bool b)]
  | false => v
def klkup (T : Tr KO) (z : Value) (ok : Bool) (k : Value) : KV → Option KV
  | .v (.map none) => some (fin2 ok (kc z) false)
  | .m i => (match T.get i with
    | some (.map l) => (match kfind k l 0 with
      | some (some (_, v)) => some (fin2 ok v true)
      | some none => some (fin2 ok (kc z) false)
      | none => none)
    | _ => none)
  | _ => none
def setAt : List (Value × KV) → Nat → Value → KV → List (Value × KV)
  | [], _, _, _ => []
  | _ :: l, 0, k, v => (k, v) :: l
  | p :: l, i + 1, k, v => p :: setAt l i k v
def delAt : List (Value × KV) → Nat → List (Value × KV)
  | [], _ => []
  | _ :: l, 0 => l
  | p :: l, i + 1 => p :: delAt l i
def kmupd (S : KS) (k : Value) (v : KV) : KV → KA
  | .m i => (match S.T.get i with
    | some (.map l) => (match kfind k l 0 with
      | some (some (j, _)) => (match setE S i (.map (setAt l j k v)) with | some S' => some (.v undef, S') | none => none)
      | some none => (match setE S i (.map (l ++ [(k, v)])) with | some S' => some (.v undef, S') | none => none)
      | none => none)
    | _ => none)
  | _ => none
def kmdel (S : KS) (k : Value) : KV → KA
  | .m i => (match S.T.get i with
    | some (.map l) => (match kfind k l 0 with
      | some (some (j, _)) => (match setE S i (.map (delAt l j)) with | some S' => some (.v undef, S') | none => none)
      | some none => (match setE S i (.map l) with | some S' => some (.v undef, S') | none => none)
      | none => none)
    | _ => none)
  | _ => none
def klenM (T : Tr KO) : KV → Option Nat
  | .v (.map none) => some 0
  | .m i => (match T.get i with | some (.map l) => some l.length | _ => none)
  | _ => none

theorem eqBs_iff : ∀ (a b : List UInt8), eqBs a b = true ↔ a = b
  | [], [] => by simp [eqBs]
  | [], _ :: _ => by simp [eqBs]
  | _ :: _, [] => by simp [eqBs]
  | a :: l, b :: m => by
    simp only [eqBs]
    split
    · rename_i h
      have h := Nat.eq_of_beq_eq_true h
      have h : a = b := UInt8.toNat_inj.1 h
      subst h
      simpa using eqBs_iff l m
    · rename_i h
      have h := Nat.ne_of_beq_eq_false h
      constructor
      · intro q; cases q
      · intro q; injection q with q _; subst q; exact absurd rfl h
theorem eqInt_iff (a b : Int) : eqInt a b = true ↔ a = b := by
  cases a <;> cases b <;> simp [eqInt]
  exact Int.ofNat_inj.symm
theorem isKey_of {P : Program} {t : TypeId} {c : CK} (hk : keyK P t = some c) {w : Value} (h : keyIs c w = true) : ∃ d, P.underlying t = some d ∧ IsKey d w ∧ ((∃ k, d = .int k) ∨ d = .string) := by
  unfold keyK at hk
  split at hk
  · rename_i k hu; injection hk with hk; subst hk
    cases w <;> simp [keyIs] at h
    exact ⟨_, hu, by simp [IsKey, Sx.kEq_eq h], .inl ⟨_, rfl⟩⟩
  · rename_i hu; injection hk with hk; subst hk
    cases w <;> simp [keyIs] at h
    exact ⟨_, hu, by simp [IsKey], .inr rfl⟩
  · cases hk
theorem vkey_spec {d : TypeDesc} (hd : (∃ k, d = .int k) ∨ d = .string) {k q : Value} {b : Bool} (hk : IsKey d k) (h : vkey k q = some b) : Instr.sameNow d k q = some b ∧ (b = true → q = k) := by
  unfold vkey at h
  split at h
  · rename_i j1 x j2 y
    split at h
    · rename_i he
      have he := Sx.kEq_eq he; subst he
      injection h with h
      rcases hd with ⟨k0, rfl⟩ | rfl
      · have e : (x == y) = eqInt x y := by
          rw [Bool.eq_iff_iff, eqInt_iff]; simp
        exact ⟨by simp only [Instr.sameNow, if_pos trivial]; rw [e, h], fun hb => by rw [hb] at h; rw [(eqInt_iff _ _).1 h]⟩
      · simp [IsKey] at hk
    · cases h
  · injection h with h
    rename_i x y
    rcases hd with ⟨k0, rfl⟩ | rfl
    · simp [IsKey] at hk
    · have e : ((⟨⟨x⟩⟩ : ByteArray) == ⟨⟨y⟩⟩) = eqBs x y := by
        rw [Bool.eq_iff_iff, eqBs_iff, MapKept.bytes_beq]; simp
      exact ⟨by simp only [Instr.sameNow]; rw [e, h], fun hb => by rw [hb] at h; rw [(eqBs_iff _ _).1 h]⟩
  · cases h
section
variable {E : KE} {P : Program} {nt : Nat} {mk : List Nat} {F : Tr KV} {S S' : KS} {γ : Nat → Gh} {a : Act} {W : World} {o : Oper} {kv : KV} {x : XK}

theorem kfind_spec {h : KH} {d : TypeDesc} (hd : (∃ k, d = .int k) ∨ d = .string) {k : Value} (hk : IsKey d k) : ∀ {l : List (Value × KV)} {es : List MapEntry} {i : Nat} {r : Option (Nat × KV)}, es.map (·.key) = l.map (·.1) → IsL h γ (l.map (·.2)) (es.map (·.val)) → kfind k l i = some r →
    (r = none ∧ Instr.findNow d k es i = some none) ∨ ∃ j v e, r = some (i + j, v) ∧ Instr.findNow d k es i = some (some (i + j, e.val)) ∧ es[j]? = some e ∧ e.key = k ∧ Is h γ v e.val
  | [], [], i, r, _, _, hr => by simp [kfind] at hr; subst hr; exact .inl ⟨rfl, rfl⟩
  | [], e :: es, i, r, h1, _, _ => by simp at h1
  | p :: l, [], i, r, h1, _, _ => by simp at h1
  | (q, v) :: l, e :: es, i, r, h1, h2, hr => by
    simp only [List.map_cons, List.cons.injEq] at h1
    obtain ⟨hq, h1⟩ := h1
    simp only [List.map_cons, IsL] at h2
    obtain ⟨v', r', hv, h2, e2⟩ := h2
    injection e2 with e2 e3; subst e2; subst e3
    simp only [kfind] at hr
    split at hr
    · rename_i hvk
      injection hr with hr; subst hr
      obtain ⟨hs, he⟩ := vkey_spec hd hk hvk
      rw [← hq] at hs he
      exact .inr ⟨0, v, e, rfl, by simp [Instr.findNow, hs], rfl, he rfl, hv⟩
    · rename_i hvk
      obtain ⟨hs, _⟩ := vkey_spec hd hk hvk
      rw [← hq] at hs
      rcases kfind_spec hd hk h1 h2 hr with ⟨q1, q2⟩ | ⟨j, v1, e1, q1, q2, q3, q4, q5⟩
      · exact .inl ⟨q1, by simp [Instr.findNow, hs, q2]⟩
      · refine .inr ⟨j + 1, v1, e1, by rw [q1]; congr 2; omega, ?_, by simpa using q3, q4, q5⟩
        simp only [Instr.findNow, hs, q2]; congr 3; omega
    · cases hr
theorem kkey_is {c : CK} {k : KV} {w v : Value} {h : KH} (e : kkey c k = some w) (hi : Is h γ k v) : v = w ∧ keyIs c w = true := by
  unfold kkey at e; split at e
  · split at e
    · rename_i hk; injection e with e; subst e; exact ⟨by simpa [Is] using hi, hk⟩
    · cases e
  · cases e
theorem fin2_is {h : KH} {ok : Bool} {v : KV} {u : Value} {b : Bool} (hv : Is h γ v u) : Is h γ (fin2 ok v b) (if ok then .tuple #[u, .bool b] else u) := by
  cases ok
  · simpa [fin2] using hv
  · simp only [fin2, Is, if_true]
    exact ⟨[u, .bool b], IsL.cons hv (IsL.cons (by simp [Is]) IsL.nil), rfl⟩
theorem run_zv {t : TypeId} {z : Value} (h : zeroV P t = some z) (W : World) : (zeroValue t).run P W = .ok z W := by
  unfold zeroV at h
  split at h
  · rename_i i hi; simp [zeroValue, typeInfo, hi, h]
  · cases h
theorem lkup_ok (r : Rep E P nt mk F S.T.get γ a W) {c : CK} {z : Value} {ok : Bool} {y i : Operand} (hc : cmpK P o.op = some (.lkup c z ok y i)) {k : Value} (h1 : kkey c (ev F i) = some k) (h : klkup S.T z ok k (ev F y) = some kv) : OkR P o a W S.T.get γ kv := by
  obtain ⟨t, kt, et, ho, hm, hkk, hz⟩ := inv_lkup (cmpK1_of hc rfl)
  obtain ⟨hv, hki⟩ := kkey_is h1 (r.ev i)
  obtain ⟨d, hu, hd, hd2⟩ := isKey_of hkk hki
  have hy := r.ev y
  unfold klkup at h
  split at h
  · rename_i e
    rw [e] at hy
    simp only [Is] at hy
    injection h with h; subst h
    refine ⟨_, fun W2 hg => ?_, fin2_is (kc_is z)⟩
    have e2 : (Instr.findNow d k [] 0) = some none := rfl
    simp [execOp, ho, hy, hv, Instr.lookup, run_underlying hm, MapKept.run_checkKey hu hd, MapKept.run_findKey hu e2, run_zv hz]
  · rename_i j e
    rw [e] at hy
    simp only [Is] at hy
    obtain ⟨_, hy⟩ := hy
    split at h
    case h_2 => cases h
    rename_i l hl
    obtain ⟨es, ck, hb, hks, hL⟩ := r.heap.ents j _ hl
    have hb' : ∀ W2, Grow W W2 → W2.heap[(γ j).g]? = some (.map es ck) := fun W2 hg => by
      rw [hg.block _ (Array.getElem?_eq_some_iff.1 hb).1]; exact hb
    split at h
    · rename_i n v hf
      injection h with h; subst h
      rcases kfind_spec hd2 hd hks hL hf with ⟨q1, _⟩ | ⟨j1, v1, e1, q1, q2, q3, q4, q5⟩
      · cases q1
      · injection q1 with q1; injection q1 with q0 q1; subst q1
        refine ⟨_, fun W2 hg => ?_, fin2_is q5⟩
        simp [execOp, ho, hy, hv, Instr.lookup, run_underlying hm, MapKept.run_getObj_map (hb' W2 hg), MapKept.run_checkKey hu hd, MapKept.run_findKey hu q2]
    · rename_i hf
      injection h with h; subst h
      rcases kfind_spec hd2 hd hks hL hf with ⟨_, q2⟩ | ⟨j1, v1, e1, q1, _⟩
      · refine ⟨_, fun W2 hg => ?_, fin2_is (kc_is z)⟩
        simp [execOp, ho, hy, hv, Instr.lookup, run_underlying hm, MapKept.run_getObj_map (hb' W2 hg), MapKept.run_checkKey hu hd, MapKept.run_findKey hu q2, run_zv hz]
      · cases q1
    · cases h
  · cases h

theorem setAt_keys : ∀ (l : List (Value × KV)) (es : List MapEntry) (j : Nat) (k val : Value) (v : KV), es.map (·.key) = l.map (·.1) → (es.modify j fun e => { e with key := k, val := val }).map (·.key) = (setAt l j k v).map (·.1)
  | [], [], _, _, _, _, _ => by simp [setAt]
  | [], _ :: _, _, _, _, _, h => by simp at h
  | _ :: _, [], _, _, _, _, h => by simp at h
  | p :: l, e :: es, 0, k, val, v, h => by simp at h; simp [setAt, h.2]
  | p :: l, e :: es, j + 1, k, val, v, h => by
    simp only [List.map_cons, List.cons.injEq] at h
    simp only [List.modify_succ_cons, setAt, List.map_cons, h.1, setAt_keys l es j k val v h.2]
theorem setAt_vals {h : KH} : ∀ (l : List (Value × KV)) (es : List MapEntry) (j : Nat) (k val : Value) (v : KV), IsL h γ (l.map (·.2)) (es.map (·.val)) → Is h γ v val → IsL h γ ((setAt l j k v).map (·.2)) ((es.modify j fun e => { e with key := k, val := val }).map (·.val))
  | [], es, _, _, _, _, h, _ => by
    simp only [List.map_nil, IsL] at h
    have : es = [] := by simpa using h
    subst this; simp [setAt, IsL]
  | _ :: _, [], _, _, _, _, h, _ => by simp only [List.map_cons, List.map_nil, IsL] at h; obtain ⟨_, _, _, _, e⟩ := h; cases e
  | p :: l, e :: es, 0, k, val, v, h, hv => by
    simp only [List.map_cons, IsL] at h; obtain ⟨v1, r1, h1, h2, e⟩ := h
    injection e with e1 e2; subst e1; subst e2
    simp only [setAt, List.modify_zero_cons, List.map_cons]
    exact IsL.cons hv h2
  | p :: l, e :: es, j + 1, k, val, v, h, hv => by
    simp only [List.map_cons, IsL] at h; obtain ⟨v1, r1, h1, h2, e⟩ := h
    injection e with e1 e2; subst e1; subst e2
    simp only [setAt, List.modify_succ_cons, List.map_cons]
    exact IsL.cons h1 (setAt_vals l es j k val v h2 hv)
theorem delAt_keys : ∀ (l : List (Value × KV)) (es : List MapEntry) (j : Nat), es.map (·.key) = l.map (·.1) → (es.eraseIdx j).map (·.key) = (delAt l j).map (·.1)
  | [], [], _, _ => by simp [delAt]
  | [], _ :: _, _, h => by simp at h
  | _ :: _, [], _, h => by simp at h
  | p :: l, e :: es, 0, h => by simp at h; simp [delAt, h.2]
  | p :: l, e :: es, j + 1, h => by
    simp only [List.map_cons, List.cons.injEq] at h
    simp only [List.eraseIdx_cons_succ, delAt, List.map_cons, h.1, delAt_keys l es j h.2]
theorem delAt_vals {h : KH} : ∀ (l : List (Value × KV)) (es : List MapEntry) (j : Nat), IsL h γ (l.map (·.2)) (es.map (·.val)) → IsL h γ ((delAt l j).map (·.2)) ((es.eraseIdx j).map (·.val))
  | [], es, _, h => by
    simp only [List.map_nil, IsL] at h
    have : es = [] := by simpa using h
    subst this; simp [delAt, IsL]
  | _ :: _, [], _, h => by simp only [List.map_cons, List.map_nil, IsL] at h; obtain ⟨_, _, _, _, e⟩ := h; cases e
  | p :: l, e :: es, 0, h => by
    simp only [List.map_cons, IsL] at h; obtain ⟨v1, r1, h1, h2, e⟩ := h
    injection e with e1 e2; subst e1; subst e2
    simpa only [delAt, List.eraseIdx_cons_zero] using h2
  | p :: l, e :: es, j + 1, h => by
    simp only [List.map_cons, IsL] at h; obtain ⟨v1, r1, h1, h2, e⟩ := h
    injection e with e1 e2; subst e1; subst e2
    simp only [delAt, List.eraseIdx_cons_succ, List.map_cons]
    exact IsL.cons h1 (delAt_vals l es j h2)

theorem mapPut (hh : HeapOk E P S.T.get γ W) {i : Nat} {l l' : List (Value × KV)} (hl : S.T.get i = some (.map l)) (hS : setE S i (.map l') = some S') {es' : Array MapEntry} {ck' : Nat} (h1 : es'.toList.map (·.key) = l'.map (·.1)) (h2 : IsL S.T.get γ (l'.map (·.2)) (es'.toList.map (·.val))) :
    Ext S.T.get γ S'.T.get γ ∧ HeapOk E P S'.T.get γ { W with heap := W.heap.setIfInBounds (γ i).g (.map es' ck') } := by
  have ek := setE_get hS
  obtain ⟨es, ck, hb, _, _⟩ := hh.ents i _ hl
  have hx : Ext S.T.get γ (upd S.T.get i (some (.map l'))) (upd γ i (γ i)) := Ext.fixd hl rfl rfl rfl
  have hs := MapKept.heap_set (o' := .map es' ck') hb
  have hp := hh.put (W' := { W with heap := W.heap.setIfInBounds (γ i).g (.map es' ck') }) hx (by simp) rfl rfl rfl
    (fun j hj hne => hs.2 j fun q => hne _ hl (by rw [q]; rfl))
    (fun g hg => by
      have : (γ i).g = g := by simpa [KO.fp] using hg
      subst this
      exact ⟨.inl ⟨_, hl, rfl⟩, by simpa using (hh.fresh i _ _ hl rfl).2⟩)
    ⟨es', ck', hs.1, h1, h2.ext hx⟩
  rw [upd_id] at hx hp
  rw [ek]
  exact ⟨hx, hp⟩

theorem mupd_ok (r : Rep E P nt mk F S.T.get γ a W) {c : CK} {y i z : Operand} (hc : cmpK P o.op = some (.mupd c y i z)) {k : Value} (h1 : kkey c (ev F i) = some k) (h : kmupd S k (ev F z) (ev F y) = some (kv, S')) : OkW E P o a W S.T.get γ kv S' := by
  obtain ⟨t, kt, et, ho, hm, hkk⟩ := inv_mupd (cmpK1_of hc rfl)
  obtain ⟨hv, hki⟩ := kkey_is h1 (r.ev i)
  obtain ⟨d, hu, hd, hd2⟩ := isKey_of hkk hki
  have hy := r.ev y
  have hz := r.ev z
  unfold kmupd at h
  split at h
  case h_2 => cases h
  rename_i j e
  rw [e] at hy
  simp only [Is] at hy
  obtain ⟨_, hy⟩ := hy
  split at h
  case h_2 => cases h
  rename_i l hl
  obtain ⟨es, ck, hb, hks, hL⟩ := r.heap.ents j _ hl
  have hf0 : (Instr.checkKey false 10000 kt k).run P W = .ok () W := MapKept.run_checkKey hu hd false 9999
  split at h
  · rename_i n v hf
    split at h
    case h_2 => cases h
    rename_i S1 hS
    injection h with h; injection h with h0 h; subst h0; subst h
    rcases kfind_spec hd2 hd hks hL hf with ⟨q1, _⟩ | ⟨j1, v1, e1, q1, q2, q3, q4, q5⟩
    · cases q1
    · injection q1 with q1; injection q1 with q0 q1; subst q1
      rw [Nat.zero_add] at q0 q2; subst q0
      have hm2 : (es.modify n fun e => { e with key := k, val := a.eval z }).toList = es.toList.modify n fun e => { e with key := k, val := a.eval z } := by simp
      obtain ⟨hx, hh⟩ := mapPut (ck' := ck) r.heap hl hS (es' := es.modify n fun e => { e with key := k, val := a.eval z }) (by rw [hm2]; exact setAt_keys _ _ _ _ _ _ hks) (by rw [hm2]; exact setAt_vals _ _ _ _ _ _ hL hz)
      refine ⟨undef, _, γ, .inr ⟨?_, rfl⟩, by simp [Is], hx, hh⟩
      have q3' : es[n]? = some e1 := by simpa using q3
      simp [execOp, ho, hy, hv, Instr.mapUpdate, run_underlying hm, MapKept.run_getObj_map hb, hf0, MapKept.run_findKey hu q2, q3', q4, MapKept.run_keyThatStays hd, MapKept.run_setObj_map _ hb]
  · rename_i hf
    split at h
    case h_2 => cases h
    rename_i S1 hS
    injection h with h; injection h with h0 h; subst h0; subst h
    rcases kfind_spec hd2 hd hks hL hf with ⟨_, q2⟩ | ⟨j1, v1, e1, q1, _⟩
    · obtain ⟨hx, hh⟩ := mapPut (ck' := ck + 1) r.heap hl hS (es' := es.push { key := k, val := a.eval z, born := ck }) (by simp [hks]) (by
        simp only [Array.toList_push, List.map_append, List.map_cons, List.map_nil]
        exact hL.append (IsL.cons hz IsL.nil))
      refine ⟨undef, _, γ, .inr ⟨?_, rfl⟩, by simp [Is], hx, hh⟩
      simp [execOp, ho, hy, hv, Instr.mapUpdate, run_underlying hm, MapKept.run_getObj_map hb, hf0, MapKept.run_findKey hu q2, MapKept.run_setObj_map _ hb]
    · cases q1
  · cases h
theorem mkmap_ok (r : Rep E P nt mk F S.T.get γ a W) (hc : cmpK P o.op = some .mkmap) {i : Nat} (h : newE S (.map []) = some (i, S')) : OkW E P o a W S.T.get γ (.m i) S' := by
  obtain ⟨t, ho⟩ := inv_mkmap (cmpK1_of hc rfl)
  obtain ⟨hn, ek⟩ := newE_get h
  have hh := r.heap.new hn (.map #[] 0) (.map []) ⟨W.heap.size, 0, 0⟩ rfl ⟨#[], 0, heap_alloc_new W _, rfl, IsL.nil⟩
  refine ⟨.map (some W.heap.size), W.alloc (.map #[] 0), upd γ i ⟨W.heap.size, 0, 0⟩, .inl ?_, ?_, by rw [ek]; exact Ext.new hn _ _, by rw [ek]; exact hh⟩
  · simp [execOp, ho, Instr.makeMap]
  · simp only [Is]
    exact ⟨⟨.map [], by rw [ek, upd_self], rfl⟩, by rw [upd_self]⟩
theorem lenM_ok (r : Rep E P nt mk F S.T.get γ a W) {y : Operand} (hc : cmpK P o.op = some (.lenM y)) {n : Nat} (h : klenM S.T (ev F y) = some n) : OkR P o a W S.T.get γ (.v (.int .i64 n)) := by
  obtain ⟨t, k, e, ho, hm⟩ := inv_lenM (cmpK1_of hc rfl)
  have hy := r.ev y
  refine ⟨.int .i64 n, fun W2 hg => ?_, by simp [Is]⟩
  unfold klenM at h
  split at h
  · rename_i e
    rw [e] at hy
    simp only [Is] at hy
    injection h with h; subst h
    simp [execOp, ho, resolve, invoke, builtin, hy, Builtin.len_, run_underlying hm, goInt]
  · rename_i j e
    rw [e] at hy
    simp only [Is] at hy
    obtain ⟨_, hy⟩ := hy
    split at h
    case h_2 => cases h
    rename_i l hl
    injection h with h; subst h
    obtain ⟨es, ck, hb, hks, hL⟩ := r.heap.ents j _ hl
    have hb' : W2.heap[(γ j).g]? = some (.map es ck) := by rw [hg.block _ (Array.getElem?_eq_some_iff.1 hb).1]; exact hb
    have : es.size = l.length := by
      have := congrArg List.length hks
      simpa using this
    simp [execOp, ho, resolve, invoke, builtin, hy, Builtin.len_, run_underlying hm, goInt, MapKept.run_getObj_map hb', this]
  · cases h
theorem mdel_ok (r : Rep E P nt mk F S.T.get γ a W) {c : CK} {y i : Operand} (hc : cmpK P o.op = some (.mdel c y i)) {k : Value} (h1 : kkey c (ev F i) = some k) (h : kmdel S k (ev F y) = some (kv, S')) : OkW E P o a W S.T.get γ (.t []) S' := by
  obtain ⟨t, t', kt, et, ho, hm, hkk⟩ := inv_mdel (cmpK1_of hc rfl)
  obtain ⟨hv, hki⟩ := kkey_is h1 (r.ev i)
  obtain ⟨d, hu, hd, hd2⟩ := isKey_of hkk hki
  have hy := r.ev y
  have ht : ∀ h' g', Is h' g' (.t []) (.tuple #[]) := fun h' g' => by simp only [Is]; exact ⟨[], IsL.nil, rfl⟩
  unfold kmdel at h
  split at h
  case h_2 => cases h
  rename_i j e
  rw [e] at hy
  simp only [Is] at hy
  obtain ⟨_, hy⟩ := hy
  split at h
  case h_2 => cases h
  rename_i l hl
  obtain ⟨es, ck, hb, hks, hL⟩ := r.heap.ents j _ hl
  have hf0 : ∀ b, (Instr.checkKey b 10000 kt k).run P W = .ok () W := fun b => MapKept.run_checkKey hu hd b 9999
  split at h
  · rename_i n v hf
    split at h
    case h_2 => cases h
    rename_i S1 hS
    injection h with h; injection h with h0 h; subst h0; subst h
    rcases kfind_spec hd2 hd hks hL hf with ⟨q1, _⟩ | ⟨j1, v1, e1, q1, q2, q3, q4, q5⟩
    · cases q1
    · injection q1 with q1; injection q1 with q0 q1; subst q1
      rw [Nat.zero_add] at q0 q2; subst q0
      have q3' : es[n]? = some e1 := by simpa using q3
      have hm2 : (es.eraseIdxIfInBounds n).toList = es.toList.eraseIdx n := by
        unfold Array.eraseIdxIfInBounds
        rw [dif_pos (Array.getElem?_eq_some_iff.1 q3').1]; simp
      obtain ⟨hx, hh⟩ := mapPut (ck' := ck) r.heap hl hS (es' := es.eraseIdxIfInBounds n) (by rw [hm2]; exact delAt_keys _ _ _ hks) (by rw [hm2]; exact delAt_vals _ _ _ hL)
      refine ⟨.tuple #[], _, γ, .inl ?_, ht _ _, hx, hh⟩
      simp [execOp, ho, resolve, invoke, builtin, hy, hv, Builtin.delete_, run_underlying hm, MapKept.run_getObj_map hb, hf0, MapKept.run_findKey hu q2, MapKept.run_setObj_map _ hb]
  · rename_i hf
    split at h
    case h_2 => cases h
    rename_i S1 hS
    injection h with h; injection h with h0 h; subst h0; subst h
    rcases kfind_spec hd2 hd hks hL hf with ⟨_, q2⟩ | ⟨j1, v1, e1, q1, _⟩
    · obtain ⟨hx, hh⟩ := mapPut (ck' := ck) r.heap hl hS (es' := es) hks hL
      refine ⟨.tuple #[], _, γ, .inl ?_, ht _ _, hx, hh⟩
      simp [execOp, ho, resolve, invoke, builtin, hy, hv, Builtin.delete_, run_underlying hm, MapKept.run_getObj_map hb, hf0, MapKept.run_findKey hu q2, MapKept.run_setObj_map _ hb]
    · cases q1
  · cases h
end
end Go.Kx
