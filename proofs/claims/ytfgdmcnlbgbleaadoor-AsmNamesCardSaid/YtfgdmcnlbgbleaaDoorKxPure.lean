/- The runner, part 3: operations on plain values. -/
import Derived.Test.YtfgdmcnlbgbleaaDoorKxOps
set_option linter.unusedSimpArgs false
set_option linter.unusedVariables false
set_option linter.unnecessarySimpa false
namespace Go.Kx
open Go
open Go.Sx (Grow Keep XC XS XI XK CK NK cmp theOrder Jump Ran SV SO kEq cmpK pureK readK xk xk_sound ResK ResP ResR Res svc nth takeL dropL)

def boundS (F : Tr KV) (d : Nat) : Option Operand → Option Nat
  | none => some d
  | some x => match ev F x with
    | .v (.int _ (.ofNat m)) => some m
    | _ => none

def bextract (b : ByteArray) (l h : Nat) : ByteArray := ⟨((b.data.toList.take h).drop l).toArray⟩
theorem bextract_eq (b : ByteArray) (l h : Nat) : bextract b l h = b.extract l h := by
  apply ByteArray.ext
  rw [ByteArray.data_extract]
  apply Array.toList_inj.1
  rw [Array.toList_extract]
  simp only [bextract, List.extract, List.drop_take]
def bcat (a b : ByteArray) : ByteArray := ⟨(a.data.toList ++ b.data.toList).toArray⟩
theorem bcat_eq (a b : ByteArray) : bcat a b = a ++ b := by
  apply ByteArray.ext
  simp [bcat, ByteArray.data_append]

def kP (F : Tr KV) (S : KS) : XK → KA
  | .mov x => some (ev F x, S)
  | .pick c x y => (match kb (ev F c) with | some true => some (ev F x, S) | some false => some (ev F y, S) | none => none)
  | .arith op k x y => (match k2 k (ev F x) (ev F y) with | some (a, b) => giveI k S (arithR op k a b) | none => none)
  | .div op k x y => (match k2 k (ev F x) (ev F y) with | some (a, b) => giveI k S (divR op k a b) | none => none)
  | .bits op k x y => (match k2 k (ev F x) (ev F y) with | some (a, b) => giveI k S (bitsR op k a b) | none => none)
  | .shift op k x y => (match ki (ev F x), ki (ev F y) with
    | some (i, a), some (_, b) => (match kEq i k with | true => giveI k S (shiftR op k a b) | false => none)
    | _, _ => none)
  | .cmp op k x y => (match k2 k (ev F x) (ev F y) with | some (a, b) => giveB S (Sx.cmpB op a b) | none => none)
  | .eqb neg x y => (match kb (ev F x), kb (ev F y) with
    | some a, some b => giveB S (match neg with | true => !(a == b) | false => a == b)
    | _, _ => none)
  | .eqs op x y => (match kstr (ev F x), kstr (ev F y) with
    | some a, some b => giveB S (Sx.strB op a b)
    | _, _ => none)
  | .not x => (match kb (ev F x) with | some b => giveB S (!b) | none => none)
  | .conv k x => (match ki (ev F x) with | some (_, a) => giveI k S (some (k.wrap a)) | none => none)
  | .lenT x => (match kstr (ev F x) with | some b => giveI .i64 S (some (b.data.toList.length : Nat)) | none => none)
  | .lenA n _ => some (.v (.int .i64 n), S)
  | .cat x y => (match kstr (ev F x), kstr (ev F y) with
    | some a, some b => (match decide (a.size + b.size ≤ 9223372036854775807) with | true => some (.v (.string (bcat a b)), S) | false => none)
    | _, _ => none)
  | .subT x lo hi => (match kstr (ev F x) with
    | some b => (match boundS F 0 lo, boundS F b.data.toList.length hi with
      | some l, some h => (match Nat.ble l h, Nat.ble h b.data.toList.length with
        | true, true => some (.v (.string (bextract b l h)), S)
        | _, _ => none)
      | _, _ => none)
    | none => none)
  | .ixT x i => (match kstr (ev F x), ev F i with
    | some b, .v (.int _ (.ofNat j)) => (match b.data.toList[j]? with | some u => giveI .u8 S (some (u.toNat : Nat)) | none => none)
    | _, _ => none)
  | _ => none

section
variable {E : KE} {P : Program} {nt : Nat} {mk : List Nat} {F : Tr KV} {S S' : KS} {γ : Nat → Gh} {a : Act} {W : World} {o : Oper} {kv : KV} {x : XK}

theorem giveI_some {k : IntKind} {r : Option Int} {p : KV × KS} (h : giveI k S r = some p) : ∃ n, r = some n ∧ p = (.v (.int k n), S) := by
  unfold giveI at h; split at h
  · rename_i n; rw [fi_eq] at h; injection h with h; exact ⟨n, rfl, h.symm⟩
  · cases h
theorem giveB_some {b : Bool} {p : KV × KS} (h : giveB S b = some p) : p = (.v (.bool b), S) := by
  unfold giveB at h; rw [fb_eq] at h; injection h with h; exact h.symm

theorem boundS_lo (r : Rep E P nt mk F S.T.get γ a W) {H : List SO} {lo : Option Operand} {l : Nat} (h : boundS F 0 lo = some l) : Sx.lowOf (SL a H).F lo = some (l : Int) := by
  unfold boundS at h; split at h
  · injection h with h; subst h; rfl
  · rename_i y; split at h
    · rename_i k m e
      injection h with h; subst h
      have hv := r.ev y
      rw [e] at hv; simp only [Is] at hv
      simp only [Sx.lowOf, evS_int hv]; rfl
    · cases h
theorem boundS_hi (r : Rep E P nt mk F S.T.get γ a W) {H : List SO} {n : Nat} {hi : Option Operand} {l : Nat} (h : boundS F n hi = some l) : Sx.highOf (SL a H).F n hi = some (l : Int) := by
  unfold boundS at h; split at h
  · injection h with h; subst h; rfl
  · rename_i y; split at h
    · rename_i k m e
      injection h with h; subst h
      have hv := r.ev y
      rw [e] at hv; simp only [Is] at hv
      simp only [Sx.highOf, evS_int hv]; rfl
    · cases h

theorem kP_pure (h : kP F S x = some (kv, S')) : pureK x = true ∧ S' = S := by
  have gi : ∀ {k : IntKind} {r : Option Int}, giveI k S r = some (kv, S') → S' = S := fun h => by
    obtain ⟨n, _, e⟩ := giveI_some h; injection e
  have gb : ∀ {b : Bool}, giveB S b = some (kv, S') → S' = S := fun h => by
    have e := giveB_some h; injection e
  cases x <;> simp only [kP] at h <;> (try (cases h; done)) <;> refine ⟨rfl, ?_⟩ <;> repeat' (split at h)
  all_goals first | (injection h with h; injection h with h1 h2; exact h2.symm) | exact gi h | exact gb h | (cases h; done)

theorem wantI (r : Rep E P nt mk F S.T.get γ a W) (hc : cmpK P o.op = some x) (hp : pureK x = true) {k : IntKind} {n : Option Int} (h : giveI k S n = some (kv, S'))
    (hx : ∀ q, n = some q → xk (EL W nt (mk.map fun i => (γ i).g) []) (SL a []) (fun sv _ => sv = .val (.int k q)) x) : OkP P o a S.T.get γ kv := by
  obtain ⟨q, hq, e⟩ := giveI_some h
  injection e with e1 e2; subst e1
  exact okP_of r hc hp (hx q hq)
theorem wantB (r : Rep E P nt mk F S.T.get γ a W) (hc : cmpK P o.op = some x) (hp : pureK x = true) {b : Bool} (h : giveB S b = some (kv, S'))
    (hx : xk (EL W nt (mk.map fun i => (γ i).g) []) (SL a []) (fun sv _ => sv = .val (.bool b)) x) : OkP P o a S.T.get γ kv := by
  have e := giveB_some h
  injection e with e1 e2; subst e1
  exact okP_of r hc hp hx

theorem kP_ok (r : Rep E P nt mk F S.T.get γ a W) (hc : cmpK P o.op = some x) (h : kP F S x = some (kv, S')) : OkP P o a S.T.get γ kv := by
  cases x <;> simp only [kP] at h <;> (try (cases h; done))
  case mov y =>
    injection h with h; injection h with h1 h2; subst h1
    refine ⟨a.eval y, ?_, r.ev y⟩
    rcases inv_mov (cmpK1_old hc rfl) with e | e <;> simp [execOp, e]
  case pick c y z =>
    have e := inv_pick (cmpK1_old hc rfl)
    split at h
    · rename_i hb
      injection h with h; injection h with h1 h2; subst h1
      have := kb_is hb (r.ev c)
      exact ⟨a.eval y, fun W2 => by simp [execOp, e, this, asBool], r.ev y⟩
    · rename_i hb
      injection h with h; injection h with h1 h2; subst h1
      have := kb_is hb (r.ev c)
      exact ⟨a.eval z, fun W2 => by simp [execOp, e, this, asBool], r.ev z⟩
    · cases h
  case arith op k y z =>
    split at h
    case h_2 => cases h
    rename_i m n e
    obtain ⟨e1, e2⟩ := k2_is e (r.ev y) (r.ev z)
    refine wantI r hc rfl h fun q hq => ?_
    simp only [xk, evS_int e1, evS_int e2, kEq_refl]
    refine ⟨q, ?_, rfl⟩
    cases op <;> simp only [arithR, Option.some.injEq, reduceCtorEq] at hq <;> exact hq.symm
  case div op k y z =>
    split at h
    case h_2 => cases h
    rename_i m n e
    obtain ⟨e1, e2⟩ := k2_is e (r.ev y) (r.ev z)
    refine wantI r hc rfl h fun q hq => ?_
    simp only [xk, evS_int e1, evS_int e2, kEq_refl]
    unfold divR at hq
    split at hq
    · cases hq
    · rename_i hn
      refine ⟨q, ⟨fun e0 => hn (by rw [e0]; rfl), ?_⟩, rfl⟩
      cases op <;> simp only [Option.some.injEq, reduceCtorEq] at hq <;> exact hq.symm
  case bits op k y z =>
    split at h
    case h_2 => cases h
    rename_i m n e
    obtain ⟨e1, e2⟩ := k2_is e (r.ev y) (r.ev z)
    refine wantI r hc rfl h fun q hq => ?_
    simp only [xk, evS_int e1, evS_int e2, kEq_refl]
    refine ⟨q, ?_, rfl⟩
    cases op <;> simp only [bitsR, Option.some.injEq, reduceCtorEq] at hq <;> exact hq.symm
  case shift op k y z =>
    split at h
    case h_2 => cases h
    rename_i i m j n e1 e2
    split at h
    case h_2 => cases h
    rename_i hk
    have hk := Sx.kEq_eq hk
    subst hk
    have e1 := ki_is e1 (r.ev y)
    have e2 := ki_is e2 (r.ev z)
    refine wantI r hc rfl h fun q hq => ?_
    simp only [xk, evS_int e1, evS_int e2, kEq_refl]
    unfold shiftR at hq
    split at hq
    · cases hq
    · rename_i b
      refine ⟨q, ⟨by exact Int.natCast_nonneg _, ?_⟩, rfl⟩
      cases op <;> simp only [Option.some.injEq, reduceCtorEq] at hq <;> exact hq.symm
  case cmp op k y z =>
    split at h
    case h_2 => cases h
    rename_i m n e
    obtain ⟨e1, e2⟩ := k2_is e (r.ev y) (r.ev z)
    refine wantB r hc rfl h ?_
    simp only [xk, evS_int e1, evS_int e2, kEq_refl]
  case eqb neg y z =>
    split at h
    case h_2 => cases h
    rename_i m n e1 e2
    have e1 := evS_bool (H := []) (kb_is e1 (r.ev y)); have e2 := evS_bool (H := []) (kb_is e2 (r.ev z))
    refine wantB r hc rfl h ?_
    simp only [xk, e1, e2]
    cases neg <;> rfl
  case eqs op y z =>
    split at h
    case h_2 => cases h
    rename_i m n e1 e2
    have e1 := kstr_is e1 (r.ev y); have e2 := kstr_is e2 (r.ev z)
    refine wantB r hc rfl h ?_
    simp only [xk, evS_str e1, evS_str e2]
  case not y =>
    split at h
    case h_2 => cases h
    rename_i b e1
    have e1 := evS_bool (H := []) (kb_is e1 (r.ev y))
    have e := giveB_some h
    injection e with e3 e4; subst e3
    refine okP_of' r hc rfl ?_
    simp only [xk]
    unfold Sx.bOf at e1
    split at e1
    · rename_i e; injection e1 with e1; subst e1; intro u hu; simpa [Sx.Is] using hu
    · rename_i e; injection e1 with e1; subst e1; intro u hu; simpa [Sx.Is] using hu
    · rename_i e; injection e1 with e1; subst e1; intro u hu; simpa [Sx.Is] using hu
    · cases e1
  case conv k y =>
    split at h
    case h_2 => cases h
    rename_i i m e1
    have e1 := ki_is e1 (r.ev y)
    refine wantI r hc rfl h fun q hq => ?_
    simp only [xk, evS_int e1]
    injection hq with hq
    exact ⟨q, hq.symm, rfl⟩
  case lenT y =>
    split at h
    case h_2 => cases h
    rename_i b e1
    have e1 := kstr_is e1 (r.ev y)
    refine wantI r hc rfl h fun q hq => ?_
    simp only [xk, evS_str e1]
    injection hq with hq
    subst hq
    rw [Array.length_toList]; rfl
  case lenA n y =>
    injection h with h; injection h with h1 h2; subst h1
    exact okP_of r hc rfl (by simp only [xk])
  case cat y z =>
    split at h
    case h_2 => cases h
    rename_i m n e1 e2
    split at h
    case h_2 => cases h
    rename_i hd
    have e1 := kstr_is e1 (r.ev y); have e2 := kstr_is e2 (r.ev z)
    injection h with h; injection h with h1 h2; subst h1
    rw [bcat_eq]
    refine okP_of r hc rfl ?_
    simp only [xk, evS_str e1, evS_str e2]
    exact ⟨of_decide_eq_true hd, trivial⟩
  case subT y lo hi =>
    split at h
    case h_2 => cases h
    rename_i b e1
    have e1 := kstr_is e1 (r.ev y)
    split at h
    case h_2 => cases h
    rename_i l q hl hh
    split at h
    case h_2 => cases h
    rename_i h3 h4
    injection h with h; injection h with h1 h2; subst h1
    rw [bextract_eq]
    have h3 := Nat.le_of_ble_eq_true h3
    have h4 := Nat.le_of_ble_eq_true h4
    have hsz : b.data.toList.length = b.size := by rw [Array.length_toList]; rfl
    rw [hsz] at hh h4
    refine okP_of r hc rfl ?_
    simp only [xk, evS_str e1, boundS_lo r hl, boundS_hi r hh]
    exact ⟨⟨by omega, by omega, by omega⟩, rfl⟩
  case ixT y z =>
    split at h
    case h_2 => cases h
    rename_i b k j e1 e2
    split at h
    case h_2 => cases h
    rename_i u hu
    have e1 := kstr_is e1 (r.ev y)
    have e2' := r.ev z
    rw [e2] at e2'; simp only [Is] at e2'
    refine wantI r hc rfl h fun q hq => ?_
    simp only [xk, evS_str e1, evS_int e2']
    injection hq with hq
    subst hq
    refine ⟨Int.natCast_nonneg j, u, ?_, rfl⟩
    have : b.data[j]? = some u := by simpa using hu
    exact this
end
end Go.Kx
