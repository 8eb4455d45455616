/- The runner, part 8b: maps whose keys are structs of numbers, texts and bools. -/
import Derived.Test.YtfgdmcnlbgbleaaDoorKxMap
import Derived.DeepKeys3
set_option linter.unusedSimpArgs false
set_option linter.unusedVariables false
set_option linter.unnecessarySimpa false
namespace Go.Kx
open Go
open Go.Sx (Grow Keep XC XS XI XK CK NK cmp theOrder Jump Ran SV SO kEq cmpK cmpK0 cmpK1 isNew pureK readK nth takeL dropL zeroV keyK flatK flatFs keyA)

def fitC : CK → Value → Bool
  | .int k, .int j n => (match kEq j k with | true => (Lit.int k n).wf | false => false)
  | .str, .string s => Nat.ble s.size maxLen
  | .bool, .bool _ => true
  | _, _ => false
def fitL : List CK → List Value → Bool
  | [], [] => true
  | c :: cs, v :: vs => (match fitC c v with | true => fitL cs vs | false => false)
  | _, _ => false
def fitV (cs : List CK) : Value → Bool
  | .agg ⟨vs⟩ => fitL cs vs
  | _ => false
def fitAll (cs : List CK) : List (Value × KV) → Bool
  | [] => true
  | p :: l => (match fitV cs p.1 with | true => fitAll cs l | false => false)
def vals : List KV → Option (List Value)
  | [] => some []
  | .v x :: l => (match vals l with | some r => some (x :: r) | none => none)
  | _ => none
def kkeyA (cs : List CK) : KV → Option Value
  | .a l => (match vals l with | some vs => (match fitL cs vs with | true => some (.agg ⟨vs⟩) | false => none) | none => none)
  | .v (.agg ⟨vs⟩) => (match fitL cs vs with | true => some (.agg ⟨vs⟩) | false => none)
  | _ => none
def eqC : Value → Value → Option Bool
  | .int _ a, .int _ b => some (eqInt a b)
  | .string ⟨⟨a⟩⟩, .string ⟨⟨b⟩⟩ => some (eqBs a b)
  | .bool true, .bool true => some true
  | .bool false, .bool false => some true
  | .bool _, .bool _ => some false
  | _, _ => none
def eqCs : List Value → List Value → Option Bool
  | [], [] => some true
  | a :: l, b :: m => (match eqC a b with
    | some true => eqCs l m
    | some false => some false
    | none => none)
  | _, _ => none
def vkeyA : Value → Value → Option Bool
  | .agg ⟨a⟩, .agg ⟨b⟩ => eqCs a b
  | _, _ => none
def kfindA (k : Value) : List (Value × KV) → Nat → Option (Option (Nat × KV))
  | [], _ => some none
  | (q, v) :: l, i => match vkeyA k q with
    | some true => some (some (i, v))
    | some false => kfindA k l (i + 1)
    | none => none
def klkupA (T : Tr KO) (cs : List CK) (z : Value) (ok : Bool) (k : Value) : KV → Option KV
  | .m i => (match T.get i with
    | some (.map l) => (match fitAll cs l, kfindA k l 0 with
      | true, some (some (_, v)) => some (fin2 ok v true)
      | true, some none => some (fin2 ok (kc z) false)
      | _, _ => none)
    | _ => none)
  | _ => none
def kmupdA (S : KS) (cs : List CK) (k : Value) (v : KV) : KV → KA
  | .m i => (match S.T.get i with
    | some (.map l) => (match fitAll cs l, kfindA k l 0 with
      | true, some (some (j, _)) => (match setE S i (.map (setAt l j k v)) with | some S' => some (.v undef, S') | none => none)
      | true, some none => (match setE S i (.map (l ++ [(k, v)])) with | some S' => some (.v undef, S') | none => none)
      | _, _ => none)
    | _ => none)
  | _ => none

theorem inv_lkupA {P : Program} {op : Op} {c : List CK} {z : Value} {ok : Bool} {x i : Operand} (h : cmpK1 P op = some (.lkupA c z ok x i)) : ∃ t k e, op = .lookup t x i ok ∧ P.underlying t = some (.map k e) ∧ keyA P k = some c ∧ zeroV P e = some z := by
  unfold Sx.cmpK1 Sx.cmpCall1 at h
  repeat' (split at h)
  all_goals first | (cases h; done) | (injection h with h; injection h with h1 h2 h3 h4 h5; subst h1; subst h2; subst h3; subst h4; subst h5; exact ⟨_, _, _, rfl, by assumption, by assumption, by assumption⟩)
theorem inv_mupdA {P : Program} {op : Op} {c : List CK} {x i v : Operand} (h : cmpK1 P op = some (.mupdA c x i v)) : ∃ t k e, op = .mapUpdate t x i v ∧ P.underlying t = some (.map k e) ∧ keyA P k = some c := by
  unfold Sx.cmpK1 Sx.cmpCall1 at h
  repeat' (split at h)
  all_goals first | (cases h; done) | (injection h with h; injection h with h1 h2 h3 h4; subst h1; subst h2; subst h3; subst h4; exact ⟨_, _, _, rfl, by assumption, by assumption⟩)

theorem eqC_spec {a b : Value} {r : Bool} {c : CK} (ha : fitC c a = true) (hb : fitC c b = true) (h : eqC a b = some r) : (r = true ↔ a = b) := by
  unfold eqC at h
  split at h
  · injection h with h; subst h
    cases c <;> simp only [fitC, Bool.false_eq_true] at ha hb
    split at ha
    case h_2 => cases ha
    rename_i e1
    split at hb
    case h_2 => cases hb
    rename_i e2
    rw [eqInt_iff, Sx.kEq_eq e1, Sx.kEq_eq e2]
    simp
  · injection h with h; subst h
    rw [eqBs_iff]; simp
  · injection h with h; subst h; simp
  · injection h with h; subst h; simp
  · rename_i h1 h2
    injection h with h; subst h
    rename_i x y
    cases x <;> cases y <;> simp_all
  · cases h
theorem eqCs_spec : ∀ {cs : List CK} {a b : List Value} {r : Bool}, fitL cs a = true → fitL cs b = true → eqCs a b = some r → (r = true ↔ a = b)
  | [], [], [], r, _, _, h => by simp [eqCs] at h; simp [← h]
  | [], _ :: _, _, _, ha, _, _ => by simp [fitL] at ha
  | [], [], _ :: _, _, _, hb, _ => by simp [fitL] at hb
  | _ :: _, [], _, _, ha, _, _ => by simp [fitL] at ha
  | _ :: _, _ :: _, [], _, _, hb, _ => by simp [fitL] at hb
  | c :: cs, x :: a, y :: b, r, ha, hb, h => by
    simp only [fitL] at ha hb
    split at ha
    case h_2 => cases ha
    rename_i a1
    split at hb
    case h_2 => cases hb
    rename_i b1
    simp only [eqCs] at h
    split at h
    · rename_i e
      have := (eqC_spec a1 b1 e).1 rfl
      subst this
      rw [eqCs_spec ha hb h]; simp
    · rename_i e
      injection h with h; subst h
      have := eqC_spec a1 b1 e
      simp only [Bool.false_eq_true, false_iff] at this
      simp [this]
    · cases h
theorem vkeyA_spec {cs : List CK} {k q : Value} {r : Bool} (hk : fitV cs k = true) (hq : fitV cs q = true) (h : vkeyA k q = some r) : (r = true ↔ k = q) := by
  unfold vkeyA at h
  split at h
  · rename_i a b
    simp only [fitV] at hk hq
    rw [eqCs_spec hk hq h]; simp
  · cases h

section
variable {P : Program}
theorem mapM_flat {d : Nat} : ∀ (fs : List Field) (i : Nat) (cks : List CK) (vs : List Value), flatFs P fs i = some cks → fitL cks (vs.drop i) = true → ∃ ls, fs.mapM (fun f => P.keyLits (d + 1) f.type ((vs.drop f.offset).take (P.cellsOf f.type))) = some ls
  | [], _, _, _, _, _ => ⟨[], rfl⟩
  | f :: fs, i, cks, vs, h, hf => by
    simp only [flatFs] at h
    split at h
    case h_2 => cases h
    rename_i c l h1 h2 h3 h4
    injection h with h; subst h
    have h1 := Nat.eq_of_beq_eq_true h1; have h2 := Nat.eq_of_beq_eq_true h2
    cases e : vs.drop i with
    | nil => rw [e] at hf; simp [fitL] at hf
    | cons v r =>
      rw [e] at hf
      simp only [fitL] at hf
      split at hf
      case h_2 => cases hf
      rename_i hv
      have er : vs.drop (i + 1) = r := by
        rw [← List.drop_drop, e]; rfl
      obtain ⟨ls, hls⟩ := mapM_flat (d := d) fs (i + 1) l vs h4 (by rw [er]; exact hf)
      have hone : ∃ x, P.keyLits (d + 1) f.type ((vs.drop f.offset).take (P.cellsOf f.type)) = some x := by
        rw [h1, h2, e]
        show ∃ x, P.keyLits (d + 1) f.type [v] = some x
        unfold Program.keyLits
        unfold flatK at h3
        split at h3
        · rename_i k hu
          injection h3 with h3; subst h3
          cases v <;> simp only [fitC, Bool.false_eq_true] at hv
          split at hv
          case h_2 => cases hv
          rename_i e1
          rw [hu, Sx.kEq_eq e1]
          exact ⟨_, if_pos ⟨rfl, hv⟩⟩
        · rename_i hu
          injection h3 with h3; subst h3
          cases v <;> simp only [fitC, Bool.false_eq_true] at hv
          rw [hu]
          exact ⟨_, if_pos (Nat.le_of_ble_eq_true hv)⟩
        · rename_i hu
          injection h3 with h3; subst h3
          cases v <;> simp only [fitC, Bool.false_eq_true] at hv
          rw [hu]
          exact ⟨_, rfl⟩
        · cases h3
      obtain ⟨x, hx⟩ := hone
      refine ⟨x :: ls, ?_⟩
      rw [List.mapM_cons, hx, hls]; rfl
structure KeyAOk (P : Program) (t : TypeId) (cs : List CK) : Prop where
  law : WideMaps.KeyLaw P t
  wide : (match P.underlying t with | some (.array _ _) | some (.struct _) => true | _ => false) = true
  typ : P.keyTypeAt 3 t = true
  lit : ∀ v, fitV cs v = true → ∃ l, keyOf P t v = some l
theorem keyA_ok {t : TypeId} {cs : List CK} (h : keyA P t = some cs) : KeyAOk P t cs := by
  unfold keyA at h
  split at h
  case h_2 => cases h
  rename_i fs hu
  split at h
  case h_2 => cases h
  rename_i l h1 h2 h3 h4 h5
  split at h
  case h_2 => cases h
  rename_i h6
  injection h with h; subst h
  have h6 := Nat.eq_of_beq_eq_true h6
  have h5 := Nat.le_of_ble_eq_true h5
  have hw : (match P.underlying t with | some (.array _ _) | some (.struct _) => true | _ => false) = true := by rw [hu]
  refine ⟨deep_law (m := 3) (by omega) h2 h3 hw, hw, h2, fun v hv => ?_⟩
  unfold fitV at hv
  split at hv
  case h_2 => cases hv
  rename_i vs
  have hlen : ∀ {cs : List CK} {vs : List Value}, fitL cs vs = true → vs.length = cs.length := by
    intro cs
    induction cs with
    | nil => intro vs h; cases vs <;> simp [fitL] at h ⊢
    | cons c cs ih =>
      intro vs h
      cases vs with
      | nil => simp [fitL] at h
      | cons v vs =>
        simp only [fitL] at h
        split at h
        · simp [ih h]
        · cases h
  have hl := hlen hv
  obtain ⟨n, hn⟩ : ∃ n, P.types.size = n + 1 := ⟨P.types.size - 1, by omega⟩
  obtain ⟨ls, hls⟩ := mapM_flat (P := P) (d := n) fs.toList 0 l vs h1 (by simpa using hv)
  have hnames : fs.all (·.name != "_") = true := by
    unfold Program.keyTypeAt at h2
    rw [hu] at h2
    simp only [Bool.and_eq_true] at h2
    have := h2.1.1
    rw [Array.all_eq_true_iff_forall_mem] at this ⊢
    intro f hf
    have := this f hf
    simp only [Bool.and_eq_true] at this
    exact this.1
  have hform : (Value.agg ⟨vs⟩).formed P t = true := by
    unfold Value.formed
    rw [hu]
    show (Array.size ⟨vs⟩ == P.cellsOf t) = true
    rw [h6, ← hl]; simp
  unfold keyOf
  rw [hu]
  simp only
  rw [h4, hform]
  simp only [Bool.and_self, if_true]
  have hk : P.keyLits (P.types.size + 1) t (Value.agg ⟨vs⟩).cells.toList = some ls.flatten := by
    rw [hn]
    unfold Program.keyLits
    rw [hu]
    show (if vs.length = P.cellsOf t ∧ fs.all (·.name != "_") = true then (fs.toList.mapM fun f => P.keyLits (n + 1) f.type ((vs.drop f.offset).take (P.cellsOf f.type))).map List.flatten else none) = _
    rw [if_pos ⟨by rw [h6, hl], hnames⟩, hls]; rfl
  rw [hk]
  exact ⟨_, rfl⟩

variable {E : KE} {nt : Nat} {mk : List Nat} {F : Tr KV} {S S' : KS} {γ : Nat → Gh} {a : Act} {W : World} {o : Oper} {kv : KV} {x : XK}
theorem fitAll_mem {cs : List CK} : ∀ {l : List (Value × KV)}, fitAll cs l = true → ∀ p ∈ l, fitV cs p.1 = true
  | p :: l, h, q, hq => by
    simp only [fitAll] at h
    split at h
    · rename_i h1
      rcases List.mem_cons.1 hq with rfl | hq
      · exact h1
      · exact fitAll_mem h q hq
    · cases h
theorem kfindA_spec {h : KH} {t : TypeId} {cs : List CK} (K : KeyAOk P t cs) {k : Value} (hk : fitV cs k = true) (W2 : World) : ∀ {l : List (Value × KV)} {es : List MapEntry} {i : Nat} {r : Option (Nat × KV)}, es.map (·.key) = l.map (·.1) → IsL h γ (l.map (·.2)) (es.map (·.val)) → fitAll cs l = true → kfindA k l i = some r →
    (r = none ∧ (Instr.findAsking t k es i).run P W2 = .ok none W2) ∨ ∃ j v e, r = some (i + j, v) ∧ (Instr.findAsking t k es i).run P W2 = .ok (some (i + j, e.val)) W2 ∧ es[j]? = some e ∧ e.key = k ∧ Is h γ v e.val
  | [], [], i, r, _, _, _, hr => by simp [kfindA] at hr; subst hr; exact .inl ⟨rfl, by simp [Instr.findAsking]⟩
  | [], e :: es, i, r, h1, _, _, _ => by simp at h1
  | p :: l, [], i, r, h1, _, _, _ => by simp at h1
  | (q, v) :: l, e :: es, i, r, h1, h2, hf, hr => by
    simp only [List.map_cons, List.cons.injEq] at h1
    obtain ⟨hq, h1⟩ := h1
    simp only [List.map_cons, IsL] at h2
    obtain ⟨v', r', hv, h2, e2⟩ := h2
    injection e2 with e2 e3; subst e2; subst e3
    simp only [fitAll] at hf
    split at hf
    case h_2 => cases hf
    rename_i hqf
    obtain ⟨lk, hlk⟩ := K.lit k hk
    obtain ⟨lq, hlq⟩ := K.lit q hqf
    obtain ⟨b, hb, hiff⟩ := run_equal_deep (P := P) W2 (m := 3) (by omega) K.typ K.wide hlk hlq
    simp only [kfindA] at hr
    split at hr
    · rename_i hvk
      injection hr with hr; subst hr
      have hkq := (vkeyA_spec hk hqf hvk).1 rfl
      have hbt : b = true := hiff.2 (by rw [hkq] at hlk; rw [hlk] at hlq; injection hlq)
      subst hbt
      refine .inr ⟨0, v, e, rfl, ?_, rfl, by rw [hq, hkq], hv⟩
      simp [Instr.findAsking, hq, hb]
    · rename_i hvk
      have hkq := vkeyA_spec hk hqf hvk
      simp only [Bool.false_eq_true, false_iff] at hkq
      have hbf : b = false := by
        cases b with
        | false => rfl
        | true =>
          have := hiff.1 rfl
          rw [this] at hlk
          exact absurd (K.law.inj hlk hlq) hkq
      subst hbf
      rcases kfindA_spec K hk W2 h1 h2 hf hr with ⟨q1, q2⟩ | ⟨j, v1, e1, q1, q2, q3, q4, q5⟩
      · exact .inl ⟨q1, by simp [Instr.findAsking, hq, hb, q2]⟩
      · refine .inr ⟨j + 1, v1, e1, by rw [q1]; congr 2; omega, ?_, by simpa using q3, q4, q5⟩
        have e3 : i + 1 + j = i + (j + 1) := by omega
        simp [Instr.findAsking, hq, hb, q2, e3]
    · cases hr
theorem vals_is {h : KH} : ∀ {l : List KV} {vs us : List Value}, vals l = some vs → IsL h γ l us → us = vs
  | [], vs, us, e, hi => by simp [vals] at e; subst e; simpa [IsL] using hi
  | k :: l, vs, us, e, hi => by
    unfold vals at e
    split at e
    · simp at *
    · rename_i x l' heq
      injection heq with e1 e2; subst e1; subst e2
      split at e
      · rename_i r hr
        injection e with e; subst e
        simp only [IsL] at hi
        obtain ⟨v, r', hv, hr', rfl⟩ := hi
        simp only [Is] at hv
        rw [hv, vals_is hr hr']
      · cases e
    · cases e
theorem kkeyA_is {cs : List CK} {k : KV} {w v : Value} {h : KH} (e : kkeyA cs k = some w) (hi : Is h γ k v) : v = w ∧ fitV cs w = true := by
  unfold kkeyA at e
  split at e
  · split at e
    · rename_i vs hvs
      split at e
      · rename_i hf
        injection e with e; subst e
        simp only [Is] at hi
        obtain ⟨us, hL, rfl⟩ := hi
        rw [vals_is hvs hL]
        exact ⟨rfl, hf⟩
      · cases e
    · cases e
  · split at e
    · rename_i hf
      injection e with e; subst e
      exact ⟨by simpa [Is] using hi, hf⟩
    · cases e
  · cases e
theorem run_findA {t : TypeId} {cs : List CK} (K : KeyAOk P t cs) (k : Value) (es : List MapEntry) (W2 : World) : (Instr.findKey t k es).run P W2 = (Instr.findAsking t k es).run P W2 := run_findKey_eq W2 K.wide k es
theorem lkupA_ok (r : Rep E P nt mk F S.T.get γ a W) {c : List CK} {z : Value} {ok : Bool} {y i : Operand} (hc : cmpK P o.op = some (.lkupA c z ok y i)) {k : Value} (h1 : kkeyA c (ev F i) = some k) (h : klkupA S.T c z ok k (ev F y) = some kv) : OkR P o a W S.T.get γ kv := by
  obtain ⟨t, kt, et, ho, hm, hkk, hz⟩ := inv_lkupA (cmpK1_of hc rfl)
  obtain ⟨hv, hki⟩ := kkeyA_is h1 (r.ev i)
  have K := keyA_ok hkk
  obtain ⟨lk, hlk⟩ := K.lit k hki
  have hy := r.ev y
  unfold klkupA at h
  split at h
  · rename_i j e
    rw [e] at hy
    simp only [Is] at hy
    obtain ⟨_, hy⟩ := hy
    split at h
    case h_2 => cases h
    rename_i l hl
    obtain ⟨es, ck, hb, hks, hL⟩ := r.heap.ents j _ hl
    have hb' : ∀ W2, Grow W W2 → W2.heap[(γ j).g]? = some (.map es ck) := fun W2 hg => by
      rw [hg.block _ (Array.getElem?_eq_some_iff.1 hb).1]; exact hb
    split at h
    · rename_i n v hfa hf
      injection h with h; subst h
      have key : ∀ W2, _ := fun W2 => kfindA_spec K hki W2 hks hL hfa hf
      rcases key W with ⟨q1, _⟩ | ⟨j1, v1, e1, q1, q2, q3, q4, q5⟩
      · cases q1
      · injection q1 with q1; injection q1 with q0 q1; subst q1
        refine ⟨_, fun W2 hg => ?_, fin2_is q5⟩
        rcases key W2 with ⟨q6, _⟩ | ⟨j2, v2, e2, q6, q7, q8, q9, _⟩
        · cases q6
        · injection q6 with q6; injection q6 with q6 _
          have : j2 = j1 := by omega
          subst this
          rw [q3] at q8; injection q8 with q8; subst q8
          simp [execOp, ho, hy, hv, Instr.lookup, run_underlying hm, MapKept.run_getObj_map (hb' W2 hg), K.law.check W2 _ hlk, run_findA K, q7]
    · rename_i hfa hf
      injection h with h; subst h
      refine ⟨_, fun W2 hg => ?_, fin2_is (kc_is z)⟩
      rcases kfindA_spec K hki W2 hks hL hfa hf with ⟨_, q2⟩ | ⟨j1, v1, e1, q1, _⟩
      · simp [execOp, ho, hy, hv, Instr.lookup, run_underlying hm, MapKept.run_getObj_map (hb' W2 hg), K.law.check W2 _ hlk, run_findA K, q2, run_zv hz]
      · cases q1
    · cases h
  · cases h
theorem mupdA_ok (r : Rep E P nt mk F S.T.get γ a W) {c : List CK} {y i z : Operand} (hc : cmpK P o.op = some (.mupdA c y i z)) {k : Value} (h1 : kkeyA c (ev F i) = some k) (h : kmupdA S c k (ev F z) (ev F y) = some (kv, S')) : OkW E P o a W S.T.get γ kv S' := by
  obtain ⟨t, kt, et, ho, hm, hkk⟩ := inv_mupdA (cmpK1_of hc rfl)
  obtain ⟨hv, hki⟩ := kkeyA_is h1 (r.ev i)
  have K := keyA_ok hkk
  obtain ⟨lk, hlk⟩ := K.lit k hki
  have hy := r.ev y
  have hz := r.ev z
  unfold kmupdA at h
  split at h
  case h_2 => cases h
  rename_i j e
  rw [e] at hy
  simp only [Is] at hy
  obtain ⟨_, hy⟩ := hy
  split at h
  case h_2 => cases h
  rename_i l hl
  obtain ⟨es, ck, hb, hks, hL⟩ := r.heap.ents j _ hl
  have hf0 : (Instr.checkKey false 10000 kt k).run P W = .ok () W := K.law.check W false hlk
  split at h
  · rename_i n v hfa hf
    split at h
    case h_2 => cases h
    rename_i S1 hS
    injection h with h; injection h with h0 h; subst h0; subst h
    rcases kfindA_spec K hki W hks hL hfa hf with ⟨q1, _⟩ | ⟨j1, v1, e1, q1, q2, q3, q4, q5⟩
    · cases q1
    · injection q1 with q1; injection q1 with q0 q1; subst q1
      rw [Nat.zero_add] at q0 q2; subst q0
      have hm2 : (es.modify n fun e => { e with key := k, val := a.eval z }).toList = es.toList.modify n fun e => { e with key := k, val := a.eval z } := by simp
      obtain ⟨hx, hh⟩ := mapPut (ck' := ck) r.heap hl hS (es' := es.modify n fun e => { e with key := k, val := a.eval z }) (by rw [hm2]; exact setAt_keys _ _ _ _ _ _ hks) (by rw [hm2]; exact setAt_vals _ _ _ _ _ _ hL hz)
      refine ⟨undef, _, γ, .inr ⟨?_, rfl⟩, by simp [Is], hx, hh⟩
      have q3' : es[n]? = some e1 := by simpa using q3
      simp [execOp, ho, hy, hv, Instr.mapUpdate, run_underlying hm, MapKept.run_getObj_map hb, hf0, run_findA K, q2, q3', q4, K.law.stays W hlk, MapKept.run_setObj_map _ hb]
  · rename_i hfa hf
    split at h
    case h_2 => cases h
    rename_i S1 hS
    injection h with h; injection h with h0 h; subst h0; subst h
    rcases kfindA_spec K hki W hks hL hfa hf with ⟨_, q2⟩ | ⟨j1, v1, e1, q1, _⟩
    · obtain ⟨hx, hh⟩ := mapPut (ck' := ck + 1) r.heap hl hS (es' := es.push { key := k, val := a.eval z, born := ck }) (by simp [hks]) (by
        simp only [Array.toList_push, List.map_append, List.map_cons, List.map_nil]
        exact hL.append (IsL.cons hz IsL.nil))
      refine ⟨undef, _, γ, .inr ⟨?_, rfl⟩, by simp [Is], hx, hh⟩
      simp [execOp, ho, hy, hv, Instr.mapUpdate, run_underlying hm, MapKept.run_getObj_map hb, hf0, run_findA K, q2, MapKept.run_setObj_map _ hb]
    · cases q1
  · cases h
def kstr0 (S : KS) : KV → KV → KA
  | .p _ _, .a [] => some (.v undef, S)
  | .p _ _, .v (.agg ⟨[]⟩) => some (.v undef, S)
  | _, _ => none
theorem inv_str0 {op : Op} {x v : Operand} (h : cmpK1 P op = some (.str0 x v)) : ∃ t, op = .store t x v ∧ Sx.szT P t = some 0 := by
  unfold Sx.cmpK1 Sx.cmpCall1 at h
  repeat' (split at h)
  all_goals first | (cases h; done) | (injection h with h; injection h with h1 h2; subst h1; subst h2; exact ⟨_, rfl, by assumption⟩)
theorem str0_ok (r : Rep E P nt mk F S.T.get γ a W) {y z : Operand} (hc : cmpK P o.op = some (.str0 y z)) (h : kstr0 S (ev F y) (ev F z) = some (kv, S')) : OkW E P o a W S.T.get γ kv S' := by
  obtain ⟨t, ho, hz⟩ := inv_str0 (cmpK1_of hc rfl)
  have hy := r.ev y
  have hv := r.ev z
  have key : ∀ g off, a.eval y = .pointer (some ⟨g, off, none⟩) → (a.eval z).cells = #[] → OkW E P o a W S.T.get γ (.v undef) S := fun g off h1 h2 => by
    refine ⟨undef, W, γ, .inr ⟨?_, rfl⟩, by simp [Is], Ext.refl _ _, r.heap⟩
    simp [execOp, ho, h1, Instr.storeAt, Instr.sureAddr, storeVar, Sx.run_sizeOf hz, h2, storeCells]
  unfold kstr0 at h
  split at h
  · rename_i e1 e2
    injection h with h; injection h with h1 h2; subst h1; subst h2
    rw [e1] at hy; rw [e2] at hv
    simp only [Is] at hy hv
    obtain ⟨vs, hl, hv⟩ := hv
    simp only [IsL] at hl
    subst hl
    exact key _ _ hy.2 (by rw [hv]; rfl)
  · rename_i e1 e2
    injection h with h; injection h with h1 h2; subst h1; subst h2
    rw [e1] at hy; rw [e2] at hv
    simp only [Is] at hy hv
    exact key _ _ hy.2 (by rw [hv]; rfl)
  · cases h
end
end Go.Kx
