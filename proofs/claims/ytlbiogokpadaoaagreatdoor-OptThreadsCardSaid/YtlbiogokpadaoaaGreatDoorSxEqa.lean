/- The engine: records and arrays compared cell by cell. -/
import Derived.Test.YtlbiogokpadaoaaGreatDoorSxMore
import Derived.ChangeKeysEq
set_option linter.unusedSimpArgs false
set_option linter.unusedVariables false
set_option linter.unnecessarySimpa false
namespace Go.Sx

def eqVs : List CK → List Value → List Value → Option Bool
  | [], [], [] => some true
  | .int k :: ks, .int j a :: l, .int i b :: m => (match kEq j k, kEq i k, eqVs ks l m with | true, true, some r => some (a == b && r) | _, _, _ => none)
  | .bool :: ks, .bool a :: l, .bool b :: m => (match eqVs ks l m with | some r => some (a == b && r) | none => none)
  | .str :: ks, .string a :: l, .string b :: m => (match eqVs ks l m with | some r => some (a.toList == b.toList && r) | none => none)
  | _, _, _ => none

theorem eqVs_len : ∀ (ks : List CK) (l m : List Value) {r : Bool}, eqVs ks l m = some r → l.length = ks.length ∧ m.length = ks.length
  | [], [], [], r, h => ⟨rfl, rfl⟩
  | [], [], _ :: _, r, h => by simp [eqVs] at h
  | [], _ :: _, _, r, h => by simp [eqVs] at h
  | c :: ks, l, m, r, h => by
    unfold eqVs at h
    split at h
    · contradiction
    · rename_i e1; injection e1 with e0 e1; subst e1
      split at h
      · rename_i q _ _ hq
        obtain ⟨h1, h2⟩ := eqVs_len _ _ _ hq
        simp [h1, h2]
      · cases h
    · rename_i e1; injection e1 with e0 e1; subst e1
      split at h
      · rename_i q hq
        obtain ⟨h1, h2⟩ := eqVs_len _ _ _ hq
        simp [h1, h2]
      · cases h
    · rename_i e1; injection e1 with e0 e1; subst e1
      split at h
      · rename_i q hq
        obtain ⟨h1, h2⟩ := eqVs_len _ _ _ hq
        simp [h1, h2]
      · cases h
    · cases h

def eqV1 : CK → Value → Value → Option Bool
  | .int k, .int j a, .int i b => and2' (kEq j k) (kEq i k) (a == b)
  | .bool, .bool a, .bool b => some (a == b)
  | .str, .string a, .string b => some (a.toList == b.toList)
  | _, _, _ => none
where and2' (x y : Bool) (r : Bool) : Option Bool := match x, y with | true, true => some r | _, _ => none

theorem eqVs_cons {c : CK} {ks : List CK} {l m : List Value} {r : Bool} (h : eqVs (c :: ks) l m = some r) :
    ∃ u l' v m' r1 r2, l = u :: l' ∧ m = v :: m' ∧ eqV1 c u v = some r1 ∧ eqVs ks l' m' = some r2 ∧ r = (r1 && r2) := by
  unfold eqVs at h
  split at h
  · contradiction
  · rename_i e1; injection e1 with e0 e1; subst e1; subst e0
    split at h
    · rename_i q h1 h2 hq
      injection h with h; subst h
      exact ⟨_, _, _, _, _, _, rfl, rfl, by simp [eqV1, eqV1.and2', h1, h2], hq, rfl⟩
    · cases h
  · rename_i e1; injection e1 with e0 e1; subst e1; subst e0
    split at h
    · rename_i q hq
      injection h with h; subst h
      exact ⟨_, _, _, _, _, _, rfl, rfl, rfl, hq, rfl⟩
    · cases h
  · rename_i e1; injection e1 with e0 e1; subst e1; subst e0
    split at h
    · rename_i q hq
      injection h with h; subst h
      exact ⟨_, _, _, _, _, _, rfl, rfl, rfl, hq, rfl⟩
    · cases h
  · cases h

theorem eqVs_mk {c : CK} {ks : List CK} {l m : List Value} {u v : Value} {r1 r2 : Bool} (h1 : eqV1 c u v = some r1) (h2 : eqVs ks l m = some r2) : eqVs (c :: ks) (u :: l) (v :: m) = some (r1 && r2) := by
  unfold eqV1 at h1
  split at h1
  · unfold eqV1.and2' at h1
    split at h1
    · rename_i e1 e2; injection h1 with h1; subst h1
      simp only [eqVs, e1, e2, h2]
    · cases h1
  · injection h1 with h1; subst h1; simp only [eqVs, h2]
  · injection h1 with h1; subst h1; simp only [eqVs, h2]
  · cases h1

theorem eqVs_app : ∀ (ks ks' : List CK) (l m : List Value) {r : Bool}, eqVs (ks ++ ks') l m = some r →
    ∃ r1 r2, eqVs ks (l.take ks.length) (m.take ks.length) = some r1 ∧ eqVs ks' (l.drop ks.length) (m.drop ks.length) = some r2 ∧ r = (r1 && r2)
  | [], ks', l, m, r, h => ⟨true, r, by simp [eqVs], by simpa using h, by simp⟩
  | c :: ks, ks', l, m, r, h => by
    obtain ⟨u, l', v, m', r1, r2, rfl, rfl, h1, h2, rfl⟩ := eqVs_cons h
    obtain ⟨q1, q2, h3, h4, rfl⟩ := eqVs_app ks ks' l' m' h2
    exact ⟨r1 && q1, q2, by simpa using eqVs_mk h1 h3, by simpa using h4, by rw [Bool.and_assoc]⟩

theorem bOf_is {H : List SO} {x : SV} {b : Bool} {v : Value} (h : bOf x = some b) (k : Is H x v) : v = .bool b := by
  unfold bOf at h
  split at h
  · injection h with h; subst h; simpa [Is] using k
  · injection h with h; subst h; simpa [Is] using k
  · injection h with h; subst h; simpa [Is] using k
  · cases h

theorem eqSV_spec {H : List SO} : ∀ (ks : List CK) (l m : List SV) (us ws : List Value) {r : Bool}, eqSV ks l m = some r → IsL H l us → IsL H m ws → eqVs ks us ws = some r := by
  intro ks l m
  induction l generalizing ks m with
  | nil =>
    intro us ws r h hu hw
    simp only [IsL] at hu; subst hu
    unfold eqSV at h
    split at h
    · simp only [IsL] at hw; subst hw; simpa [eqVs] using h
    all_goals (first | cases h | (rename_i e; cases e))
    all_goals (rename_i e _; cases e)
  | cons x l ih =>
    intro us ws r h hu hw
    simp only [IsL] at hu
    obtain ⟨u, us', hu1, hu2, rfl⟩ := hu
    unfold eqSV at h
    split at h
    · contradiction
    · rename_i k ks' j a l' i b m' e
      injection e with e1 e2; subst e1; subst e2
      simp only [IsL] at hw
      obtain ⟨v, ws', hw1, hw2, rfl⟩ := hw
      simp only [Is] at hu1 hw1; subst hu1; subst hw1
      split at h
      · rename_i q g1 g2 hq
        simp only [eqVs, g1, g2, ih _ _ _ _ hq hu2 hw2]; exact h
      · cases h
    · rename_i ks' x' l' y m' e
      injection e with e1 e2; subst e1; subst e2
      simp only [IsL] at hw
      obtain ⟨v, ws', hw1, hw2, rfl⟩ := hw
      split at h
      · rename_i p q w g1 g2 hq
        have e1 := bOf_is g1 hu1
        have e2 := bOf_is g2 hw1
        subst e1; subst e2
        simp only [eqVs, ih _ _ _ _ hq hu2 hw2]; exact h
      · cases h
    · rename_i ks' a l' b m' e
      injection e with e1 e2; subst e1; subst e2
      simp only [IsL] at hw
      obtain ⟨v, ws', hw1, hw2, rfl⟩ := hw
      simp only [Is] at hu1 hw1; subst hu1; subst hw1
      split at h
      · rename_i q hq
        simp only [eqVs, ih _ _ _ _ hq hu2 hw2]; exact h
      · cases h
    · cases h

section
variable {P : Program}

theorem run_part' {t : TypeId} {m : Nat} (hu : (P.underlying t).isSome = true) (hz : szT P t = some m) (us : List Value) (off : Nat) (W : World) :
    (isAggT P t = true → (part t us.toArray off).run P W = .ok (.agg ((us.drop off).take m).toArray) W) ∧ (isAggT P t = false → ∀ u, us[off]? = some u → (part t us.toArray off).run P W = .ok u W) := by
  constructor
  · intro hg; simp [part, run_isAgg P _ hu, hg, run_sizeOf hz, List.extract_toArray]
  · intro hg u h; simp [part, run_isAgg P _ hu, hg, h]

def EqG (P : Program) (D : Nat) (t : TypeId) (ks : List CK) : Prop := ∀ (W : World) (us ws : List Value) (r : Bool), eqVs ks us ws = some r →
  (isAggT P t = true → (Op.equalIn D t (.agg us.toArray) (.agg ws.toArray)).run P W = .ok r W) ∧ (isAggT P t = false → ∃ u v, us = [u] ∧ ws = [v] ∧ (Op.equalIn D t u v).run P W = .ok r W)

theorem EqG.part {D : Nat} {t : TypeId} {ks : List CK} (h : EqG P D t ks) (hu : (P.underlying t).isSome = true) (hz : szT P t = some ks.length) {us ws : List Value} {off : Nat} {r : Bool}
    (he : eqVs ks ((us.drop off).take ks.length) ((ws.drop off).take ks.length) = some r) (W : World) :
    ∃ x y, (part t us.toArray off).run P W = .ok x W ∧ (part t ws.toArray off).run P W = .ok y W ∧ (Op.equalIn D t x y).run P W = .ok r W := by
  obtain ⟨h1, h2⟩ := h W _ _ _ he
  cases hg : isAggT P t with
  | true => exact ⟨_, _, (run_part' hu hz us off W).1 hg, (run_part' hu hz ws off W).1 hg, h1 hg⟩
  | false =>
    obtain ⟨u, v, e1, e2, h3⟩ := h2 hg
    have g1 : us[off]? = some u := by have := congrArg (·[0]?) e1; simp only [List.getElem?_take, List.getElem?_drop] at this; split at this <;> simp_all
    have g2 : ws[off]? = some v := by have := congrArg (·[0]?) e2; simp only [List.getElem?_take, List.getElem?_drop] at this; split at this <;> simp_all
    exact ⟨u, v, (run_part' hu hz us off W).2 hg u g1, (run_part' hu hz ws off W).2 hg v g2, h3⟩

theorem eqFs_run {D : Nat} {f : TypeId → Option (List CK)} : ∀ (fs : List Field) (off : Nat) (ks : List CK), eqFs f off fs = some ks →
    (∀ x ∈ fs, ∀ l, f x.type = some l → EqG P D x.type l ∧ (P.underlying x.type).isSome = true ∧ szT P x.type = some l.length) →
    ∀ (W : World) (us ws : List Value) (r : Bool), eqVs ks (us.drop off) (ws.drop off) = some r → (Op.eqFields D us.toArray ws.toArray fs).run P W = .ok r W
  | [], off, ks, h, hall, W, us, ws, r, he => by
    simp only [eqFs] at h; injection h with h; subst h
    have hr : r = true := by
      obtain ⟨h1, h2⟩ := eqVs_len _ _ _ he
      have e1 := List.eq_nil_of_length_eq_zero h1
      have e2 := List.eq_nil_of_length_eq_zero h2
      rw [e1, e2] at he; simp [eqVs] at he; exact he
    subst hr
    simp [Op.eqFields]
  | x :: fs, off, ks, h, hall, W, us, ws, r, he => by
    simp only [eqFs] at h
    split at h
    case h_2 => cases h
    rename_i l h1 h2 h3
    split at h
    case h_2 => cases h
    rename_i q hq
    injection h with h; subst h
    have hoff : x.offset = off := by simpa using h2
    obtain ⟨r1, r2, g1, g2, rfl⟩ := eqVs_app _ _ _ _ he
    obtain ⟨hG, hu, hz⟩ := hall x (by simp) l h3
    obtain ⟨p, q', p1, p2, p3⟩ := hG.part hu hz g1 W
    have hn : x.name ≠ "_" := by simpa using h1
    have ih := eqFs_run fs (off + l.length) q hq (fun y hy => hall y (by simp [hy])) W us ws r2 (by rw [List.drop_drop, List.drop_drop] at g2; exact g2)
    simp only [Op.eqFields, hn, ne_eq, not_false_eq_true, if_true, Sem.run_bind, hoff, p1, p2, p3, Result.andThen_ok]
    cases r1
    · simp
    · simpa using ih

theorem eqIt_run {D : Nat} {e : TypeId} {l : List CK} (hG : EqG P D e l) (hu : (P.underlying e).isSome = true) (hz : szT P e = some l.length) : ∀ (n i : Nat) (W : World) (us ws : List Value) (r : Bool),
    eqVs ((List.replicate n l).flatten) (us.drop (i * l.length)) (ws.drop (i * l.length)) = some r → (Op.eqItems D e l.length us.toArray ws.toArray (List.range' i n)).run P W = .ok r W
  | 0, i, W, us, ws, r, he => by
    simp only [List.replicate_zero, List.flatten_nil] at he
    have hr : r = true := by
      obtain ⟨h1, h2⟩ := eqVs_len _ _ _ he
      have e1 := List.eq_nil_of_length_eq_zero h1
      have e2 := List.eq_nil_of_length_eq_zero h2
      rw [e1, e2] at he; simp [eqVs] at he; exact he
    subst hr
    simp [Op.eqItems]
  | n + 1, i, W, us, ws, r, he => by
    rw [List.replicate_succ, List.flatten_cons] at he
    obtain ⟨r1, r2, g1, g2, rfl⟩ := eqVs_app _ _ _ _ he
    obtain ⟨p, q', p1, p2, p3⟩ := hG.part hu hz g1 W
    have ih := eqIt_run hG hu hz n (i + 1) W us ws r2 (by rw [List.drop_drop, List.drop_drop] at g2; rw [show (i + 1) * l.length = i * l.length + l.length by rw [Nat.add_mul]; omega]; exact g2)
    simp only [List.range'_succ, Op.eqItems, Sem.run_bind, p1, p2, p3, Result.andThen_ok]
    cases r1
    · simp
    · simpa using ih

theorem eqKs_und {d : Nat} {t : TypeId} {ks : List CK} (h : eqKs P d t = some ks) : (P.underlying t).isSome = true := by
  cases d with
  | zero => simp [eqKs] at h
  | succ d =>
    simp only [eqKs] at h
    cases hu : P.underlying t with
    | none => rw [hu] at h; cases h
    | some _ => rfl

theorem eqKs_run : ∀ (d : Nat) (t : TypeId) (ks : List CK) (D : Nat), eqKs P d t = some ks → EqG P (D + d) t ks
  | 0, t, ks, D, h => by simp [eqKs] at h
  | d + 1, t, ks, D, h => by
    intro W us ws r he
    simp only [eqKs] at h
    have one : ∀ c, ks = [c] → ∃ u v, us = [u] ∧ ws = [v] ∧ ∃ r1, eqV1 c u v = some r1 ∧ r = r1 := by
      intro c hc; subst hc
      obtain ⟨u, l', v, m', r1, r2, rfl, rfl, h1, h2, rfl⟩ := eqVs_cons he
      obtain ⟨g1, g2⟩ := eqVs_len _ _ _ h2
      have e1 := List.eq_nil_of_length_eq_zero g1
      have e2 := List.eq_nil_of_length_eq_zero g2
      subst e1; subst e2
      simp only [eqVs] at h2; injection h2 with h2; subst h2
      exact ⟨u, v, rfl, rfl, r1, h1, by simp⟩
    split at h
    · rename_i k hk
      injection h with h; subst h
      obtain ⟨u, v, rfl, rfl, r1, h1, rfl⟩ := one _ rfl
      refine ⟨fun hg => by simp [isAggT, hk] at hg, fun _ => ⟨u, v, rfl, rfl, ?_⟩⟩
      unfold eqV1 at h1
      split at h1
      · rename_i e; injection e with e; subst e
        unfold eqV1.and2' at h1
        split at h1
        · rename_i e1 e2
          injection h1 with h1; subst h1
          have e1 := kEq_eq e1; have e2 := kEq_eq e2; subst e1; subst e2
          exact run_equalIn_int W (D + d) t _ _ _ _ hk
        · cases h1
      · rename_i e; cases e
      · rename_i e; cases e
      · cases h1
    · rename_i hk
      injection h with h; subst h
      obtain ⟨u, v, rfl, rfl, r1, h1, rfl⟩ := one _ rfl
      refine ⟨fun hg => by simp [isAggT, hk] at hg, fun _ => ⟨u, v, rfl, rfl, ?_⟩⟩
      unfold eqV1 at h1
      split at h1
      · rename_i e; cases e
      · injection h1 with h1; subst h1
        exact run_equalIn_bool' W (D + d) t _ _ hk
      · rename_i e; cases e
      · cases h1
    · rename_i hk
      injection h with h; subst h
      obtain ⟨u, v, rfl, rfl, r1, h1, rfl⟩ := one _ rfl
      refine ⟨fun hg => by simp [isAggT, hk] at hg, fun _ => ⟨u, v, rfl, rfl, ?_⟩⟩
      unfold eqV1 at h1
      split at h1
      · rename_i e; cases e
      · rename_i e; cases e
      · injection h1 with h1; subst h1
        exact run_equalIn_string W (D + d) t _ _ hk
      · cases h1
    · rename_i n e hk
      split at h
      case h_2 => cases h
      rename_i l hl
      split at h
      case h_2 => cases h
      rename_i m hm
      split at h
      case isFalse => cases h
      rename_i hlm
      injection h with h; subst h
      refine ⟨fun _ => ?_, fun hg => by simp [isAggT, hk] at hg⟩
      obtain ⟨i, hi⟩ : ∃ i, P.info? e = some i := by
        cases hi : P.info? e with
        | none => simp [szT, hi] at hm
        | some i => exact ⟨i, rfl⟩
      have hc : P.cellsOf e = l.length := by
        have : szT P e = some (P.cellsOf e) := by simp [szT, hi, Program.cellsOf]
        rw [this] at hm; injection hm with hm; rw [hm, hlm]
      show (Op.equalIn ((D + d) + 1) t _ _).run P W = _
      rw [run_equalIn_array W (D + d) us.toArray ws.toArray hk hi, hc, List.range_eq_range']
      exact eqIt_run (eqKs_run d e l D hl) (eqKs_und hl) (by rw [hm, hlm]) n 0 W us ws r (by simpa using he)
    · rename_i fs hk
      split at h
      case h_1 => cases h
      rename_i hst
      split at h
      case h_2 => cases h
      rename_i hall
      refine ⟨fun _ => ?_, fun hg => by simp [isAggT, hk] at hg⟩
      have hfs : P.fieldsOf t = fs := by simp [Program.fieldsOf, hk]
      show (Op.equalIn ((D + d) + 1) t _ _).run P W = _
      rw [run_equalIn_struct W (D + d) t us.toArray ws.toArray (by rw [hfs]; exact hk) hst, hfs]
      refine eqFs_run fs.toList 0 ks h ?_ W us ws r (by simpa using he)
      intro x hx l hl
      have := List.all_eq_true.1 hall x hx
      simp only [hl] at this
      split at this
      · rename_i l' m e1 e2
        injection e1 with e1; subst e1
        exact ⟨eqKs_run d x.type l D hl, eqKs_und hl, by rw [e2, (by simpa using this : l.length = m)]⟩
      · cases this
    · cases h

variable {E : Env} {s : SS} {K : SV → List SO → Prop} {o : Oper} {a : Act} {W : World}

theorem s_eqa {neg : Bool} {t t' : TypeId} {ks : List CK} {x y : Operand} (hk : eqKs P 6 t = some ks) (hg : P.eqGuardType P.depth t = false) (hagg : isAggT P t = true) (ho : o.op = .binOp (if neg then .neq else .eql) t x y t') (rep : Rep E s a W) (h : xk E s K (.eqa neg ks x y)) :
    ResP P s K o a := by
  have hx := rep.ev x
  have hy := rep.ev y
  simp only [xk] at h
  split at h
  case h_2 => exact h.elim
  rename_i l m e1 e2
  rw [e1] at hx; rw [e2] at hy; simp only [Is] at hx hy
  obtain ⟨us, hu, hv⟩ := hx
  obtain ⟨ws, hw, hv'⟩ := hy
  split at h
  case h_2 => exact h.elim
  rename_i b hb
  have run := fun W2 => (eqKs_run 6 t ks 9994 hk W2 us ws b (eqSV_spec ks l m us ws hb hu hw)).1 hagg
  cases neg with
  | true =>
    refine ResP.mk (v := .bool (!b)) (fun W2 => ?_) h (by simp [Is])
    have := run W2
    simp [execOp, ho, hv, hv', run_eqGuard_agg W2 _ t x y _ _ hg, run_neq_struct, this]
  | false =>
    refine ResP.mk (v := .bool b) (fun W2 => ?_) h (by simp [Is])
    have := run W2
    simp [execOp, ho, hv, hv', run_eqGuard_agg W2 _ t x y _ _ hg, run_eql_struct, this]

theorem nilOf_spec {H : List SO} {k : NK} {sv : SV} {v : Value} {b : Bool} (h : nilOf k H sv = some b) (hi : Is H sv v) : nilV k v = some b := by
  unfold nilOf at h
  split at h
  · injection h with h; subst h; simp only [Is] at hi; obtain ⟨_, _, rfl⟩ := hi; rfl
  · injection h with h; subst h; simp only [Is] at hi; subst hi; rename_i A _; cases A <;> rfl
  · injection h with h; subst h; simp only [Is] at hi; subst hi; rfl
  · injection h with h; subst h; simp only [Is] at hi; obtain ⟨_, _, rfl⟩ := hi; rfl
  · injection h with h; subst h; simp only [Is] at hi; subst hi; rfl
  · rename_i i ver
    split at h
    case h_2 => cases h
    rename_i t ver' sz A n c xs hn
    split at h
    case h_2 => cases h
    rename_i hb
    injection h with h; subst h
    simp only [Is] at hi
    obtain ⟨t1, v1, sz1, A1, n1, c1, xs1, he, _, _, hv⟩ := hi
    rw [hn] at he; injection he with he; injection he with e1 e2 e3 e4 e5 e6 e7
    subst e1; subst e2; subst e3; subst e4; subst e5; subst e6; subst e7
    rw [hv (by simpa using hb)]; rfl
  · injection h with h; subst h; simp only [Is] at hi; obtain ⟨_, _, rfl⟩ := hi; rfl
  · injection h with h; subst h; simp only [Is] at hi; subst hi; rfl
  · injection h with h; subst h; simp only [Is] at hi; obtain ⟨_, _, _, _, rfl⟩ := hi; rfl
  · injection h with h; subst h; simp only [Is] at hi; subst hi; rfl
  · injection h with h; subst h; simp only [Is] at hi; subst hi; rfl
  · cases h

theorem run_isnil {k : NK} {t : TypeId} {td : TypeDesc} (hu : P.underlying t = some td) (hk : nkOf td = some k) {u v : Value} {b : Bool} (hv : nilV k u = some b) (hn : v = nilVal k) (W2 : World) :
    ((Op.equal t u v).run P W2 = .ok b W2) ∧ ((Op.equal t v u).run P W2 = .ok b W2) := by
  subst hn
  suffices key : ∀ d, (Op.equalIn (d + 1) t u (nilVal k)).run P W2 = .ok b W2 ∧ (Op.equalIn (d + 1) t (nilVal k) u).run P W2 = .ok b W2 from key 9999
  intro d
  unfold nkOf at hk
  split at hk <;> cases hk <;> cases u <;> simp only [nilV] at hv <;> (try cases hv)
  · rename_i A; cases A <;> simp [Op.equalIn, run_underlying hu, nilVal]
  · rename_i A _ _; cases A <;> simp [Op.equalIn, run_underlying hu, nilVal]
  · rename_i r; cases r <;> simp [Op.equalIn, run_underlying hu, nilVal]
  · simp [Op.equalIn, run_underlying hu, nilVal]
  · simp [Op.equalIn, run_underlying hu, nilVal]

theorem isNilC_eval {k : NK} {y : Operand} (h : isNilC k y = true) (a : Act) : a.eval y = nilVal k := by
  unfold isNilC at h
  split at h
  · rfl
  · rfl
  · rfl
  · rfl
  · cases h

theorem nil_shape {k : NK} {u : Value} {b : Bool} (h : nilV k u = some b) : (∀ x y : Operand, ∀ op, ∀ t, ∀ W2 : World, (eqGuard op t x y u (nilVal k)).run P W2 = .ok () W2 ∧ (eqGuard op t y x (nilVal k) u).run P W2 = .ok () W2) ∧
    (∀ t, binOp .eql t u (nilVal k) = (do pure (.bool (← Op.equal t u (nilVal k)))) ∧ binOp .neq t u (nilVal k) = (do pure (.bool (!(← Op.equal t u (nilVal k))))) ∧
      binOp .eql t (nilVal k) u = (do pure (.bool (← Op.equal t (nilVal k) u))) ∧ binOp .neq t (nilVal k) u = (do pure (.bool (!(← Op.equal t (nilVal k) u))))) := by
  unfold nilV at h
  split at h <;> (try cases h) <;> refine ⟨fun x y op t W2 => ?_, fun t => ⟨rfl, rfl, rfl, rfl⟩⟩ <;> cases op <;> constructor <;> simp [eqGuard, nilVal]

theorem s_isnil {neg : Bool} {k : NK} {t t' : TypeId} {td : TypeDesc} {x y : Operand} (hu : P.underlying t = some td) (hk : nkOf td = some k) (hn : isNilC k y = true)
    (ho : o.op = .binOp (if neg then .neq else .eql) t x y t' ∨ o.op = .binOp (if neg then .neq else .eql) t y x t') (rep : Rep E s a W) (h : xk E s K (.isnil k neg x)) : ResP P s K o a := by
  have hx := rep.ev x
  simp only [xk] at h
  split at h
  case h_2 => exact h.elim
  rename_i b hb
  have hv := nilOf_spec hb hx
  have ey := isNilC_eval hn a
  have run := fun W2 => run_isnil hu hk hv (rfl : nilVal k = nilVal k) W2
  obtain ⟨g1, g2⟩ := nil_shape (P := P) hv
  cases neg with
  | true =>
    refine ResP.mk (v := .bool (!b)) (fun W2 => ?_) h (by simp [Is])
    obtain ⟨r1, r2⟩ := run W2
    rcases ho with ho | ho <;> simp [execOp, ho, ey, (g1 x y .neq t W2).1, (g1 x y .neq t W2).2, (g2 t).2.1, (g2 t).2.2.2, r1, r2]
  | false =>
    refine ResP.mk (v := .bool b) (fun W2 => ?_) h (by simp [Is])
    obtain ⟨r1, r2⟩ := run W2
    rcases ho with ho | ho <;> simp [execOp, ho, ey, (g1 x y .eql t W2).1, (g1 x y .eql t W2).2, (g2 t).1, (g2 t).2.2.1, r1, r2]
end
end Go.Sx
