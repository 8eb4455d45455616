/- The runner, part 7: the later operations. -/
import Derived.Test.YtfgdmcnlbgbleaaDoorKxApp
import Derived.MapKept
import Derived.Laws.MakeOwn
set_option linter.unusedSimpArgs false
set_option linter.unusedVariables false
set_option linter.unnecessarySimpa false
namespace Go.Kx
open Go
open Go.Sx (Grow Keep XC XS XI XK CK NK cmp theOrder Jump Ran SV SO kEq cmpK cmpK0 cmpK1 isNew pureK readK xk xk_sound ResK ResP ResR Res svc nth takeL dropL szT isAggT zeroT zeroV bytesT keyK splice)

section
open Go.Sx
theorem cmpK0_old {P : Program} {op : Op} {x : XK} (h : cmpK0 P op = some x) : isNew x = false := by
  unfold cmpK0 cmpBin cmpEqa cmpNil cmpUn cmpConv cmpSub cmpIxv cmpIdx cmpFld cmpFldv cmpLoad cmpStore cmpAlloc cmpBox cmpBuild cmpBuildS cmpCall cmpApp at h
  repeat' (split at h)
  all_goals first | (cases h; done) | (injection h with h; subst h; rfl)
def isNew1 : XK → Bool
  | .dead => false
  | x => isNew x
theorem cmpK1_of {P : Program} {op : Op} {x : XK} (h : cmpK P op = some x) (hn : isNew1 x = true) : cmpK1 P op = some x := by
  unfold cmpK at h
  split at h
  · rename_i y hy; injection h with h; subst h
    have := cmpK0_old hy
    unfold isNew1 at hn; split at hn
    · cases hn
    · rw [this] at hn; cases hn
  · split at h
    · rename_i y hy; injection h with h; subst h; exact hy
    · split at h
      · injection h with h; subst h; cases hn
      · cases h
theorem inv_neg {P : Program} {op : Op} {k : IntKind} {x : Operand} (h : cmpK1 P op = some (.neg k x)) : ∃ t, op = .unOp .neg t x ∧ P.underlying t = some (.int k) := by
  unfold cmpK1 cmpCall1 at h
  repeat' (split at h)
  all_goals first | (cases h; done) | (injection h with h; injection h with h1 h2; subst h1; subst h2; exact ⟨_, rfl, by assumption⟩)
theorem inv_eqif {P : Program} {op : Op} {neg : Bool} {t : TypeId} {x y : Operand} (h : cmpK1 P op = some (.eqif neg t x y)) : ∃ t', op = .binOp (if neg then .neq else .eql) t x y t' ∧ ∃ m, P.underlying t = some (.interface m) := by
  unfold cmpK1 cmpCall1 at h
  repeat' (split at h)
  all_goals first | (cases h; done) | (injection h with h; injection h with h1 h2 h3 h4; subst h1; subst h2; subst h3; subst h4; exact ⟨_, rfl, _, by assumption⟩)
theorem inv_mkif {P : Program} {op : Op} {t : TypeId} {x : Operand} (h : cmpK1 P op = some (.mkif t x)) : op = .makeInterface t x ∧ ∃ d, P.underlying t = some d ∧ ∀ m, d ≠ .interface m := by
  unfold cmpK1 cmpCall1 at h
  repeat' (split at h)
  all_goals first | (cases h; done) | (rename_i hni hd; injection h with h; injection h with h1 h2; subst h1; subst h2; exact ⟨rfl, _, hd, hni⟩)
theorem inv_mkmap {P : Program} {op : Op} (h : cmpK1 P op = some .mkmap) : ∃ t, op = .makeMap t none := by
  unfold cmpK1 cmpCall1 at h
  repeat' (split at h)
  all_goals first | (cases h; done) | exact ⟨_, rfl⟩
theorem inv_lkup {P : Program} {op : Op} {c : CK} {z : Value} {ok : Bool} {x i : Operand} (h : cmpK1 P op = some (.lkup c z ok x i)) : ∃ t k e, op = .lookup t x i ok ∧ P.underlying t = some (.map k e) ∧ keyK P k = some c ∧ zeroV P e = some z := by
  unfold cmpK1 cmpCall1 at h
  repeat' (split at h)
  all_goals first | (cases h; done) | (injection h with h; injection h with h1 h2 h3 h4 h5; subst h1; subst h2; subst h3; subst h4; subst h5; exact ⟨_, _, _, rfl, by assumption, by assumption, by assumption⟩)
theorem inv_mupd {P : Program} {op : Op} {c : CK} {x i v : Operand} (h : cmpK1 P op = some (.mupd c x i v)) : ∃ t k e, op = .mapUpdate t x i v ∧ P.underlying t = some (.map k e) ∧ keyK P k = some c := by
  unfold cmpK1 cmpCall1 at h
  repeat' (split at h)
  all_goals first | (cases h; done) | (injection h with h; injection h with h1 h2 h3 h4; subst h1; subst h2; subst h3; subst h4; exact ⟨_, _, _, rfl, by assumption, by assumption⟩)
theorem inv_mkslc {P : Program} {op : Op} {t : TypeId} {sz bytes : Nat} {z : List Value} {l c : Operand} (h : cmpK1 P op = some (.mkslc t sz bytes z l c)) : ∃ T, op = .makeSlice T l c ∧ P.underlying T = some (.slice t) ∧ szT P t = some sz ∧ bytesT P t = some bytes ∧ zeroT P t = some z ∧ z.length = sz ∧ 0 < sz := by
  unfold cmpK1 cmpCall1 at h
  repeat' (split at h)
  all_goals first | (cases h; done) | (rename_i hl; injection h with h; injection h with h1 h2 h3 h4 h5 h6; subst h1; subst h2; subst h3; subst h4; subst h5; subst h6; exact ⟨_, rfl, by assumption, by assumption, by assumption, by assumption, by simpa using hl, Nat.succ_pos _⟩)
theorem inv_mm {P : Program} {op : Op} {mx : Bool} {k : IntKind} {x y : Operand} (h : cmpK1 P op = some (.mm mx k x y)) : ∃ tt, op = .call { callee := .builtin (if mx then .max else .min), args := #[x, y], argTypes := tt } := by
  unfold cmpK1 at h
  repeat' (split at h)
  all_goals first | (cases h; done) | skip
  rename_i c
  obtain ⟨cc, ⟨al⟩, ⟨tl⟩⟩ := c
  unfold cmpCall1 at h
  dsimp only at h
  repeat' (split at h)
  all_goals first | (cases h; done) | skip
  all_goals (injection h with h; injection h with h1 h2 h3 h4; subst h1; subst h2; subst h3; subst h4; exact ⟨_, rfl⟩)
theorem inv_lenM {P : Program} {op : Op} {x : Operand} (h : cmpK1 P op = some (.lenM x)) : ∃ t k e, op = .call { callee := .builtin .len, args := #[x], argTypes := #[t] } ∧ P.underlying t = some (.map k e) := by
  unfold cmpK1 at h
  repeat' (split at h)
  all_goals first | (cases h; done) | skip
  rename_i c
  obtain ⟨cc, ⟨al⟩, ⟨tl⟩⟩ := c
  unfold cmpCall1 at h
  dsimp only at h
  repeat' (split at h)
  all_goals first | (cases h; done) | skip
  all_goals (injection h with h; injection h with h1; subst h1; exact ⟨_, _, _, rfl, by assumption⟩)
theorem inv_mdel {P : Program} {op : Op} {c : CK} {x i : Operand} (h : cmpK1 P op = some (.mdel c x i)) : ∃ t t' k e, op = .call { callee := .builtin .delete, args := #[x, i], argTypes := #[t, t'] } ∧ P.underlying t = some (.map k e) ∧ keyK P k = some c := by
  unfold cmpK1 at h
  repeat' (split at h)
  all_goals first | (cases h; done) | skip
  rename_i c
  obtain ⟨cc, ⟨al⟩, ⟨tl⟩⟩ := c
  unfold cmpCall1 at h
  dsimp only at h
  repeat' (split at h)
  all_goals first | (cases h; done) | skip
  all_goals (injection h with h; injection h with h1 h2 h3; subst h1; subst h2; subst h3; exact ⟨_, _, _, _, rfl, by assumption, by assumption⟩)
end

section
variable {E : KE} {P : Program} {nt : Nat} {mk : List Nat} {F : Tr KV} {S S' : KS} {γ : Nat → Gh} {a : Act} {W : World} {o : Oper} {kv : KV} {x : XK}

theorem neg_ok (r : Rep E P nt mk F S.T.get γ a W) {k : IntKind} {y : Operand} (hc : cmpK P o.op = some (.neg k y)) {i : IntKind} {n : Int} (h : ki (ev F y) = some (i, n)) : OkP P o a S.T.get γ (.v (.int i (i.wrap (0 - n)))) := by
  obtain ⟨t, ho, _⟩ := inv_neg (cmpK1_of hc rfl)
  have hv := ki_is h (r.ev y)
  exact ⟨.int i (i.wrap (0 - n)), fun W2 => by simp [execOp, ho, hv, Op.unary, Op.intArith], by simp [Is]⟩
def mmR (mx : Bool) (m n : Int) : Int := match mx with
  | true => if n > m then n else m
  | false => if n < m then n else m
theorem mm_ok (r : Rep E P nt mk F S.T.get γ a W) {mx : Bool} {k : IntKind} {y z : Operand} (hc : cmpK P o.op = some (.mm mx k y z)) {m n : Int} (h : k2 k (ev F y) (ev F z) = some (m, n)) : OkP P o a S.T.get γ (.v (.int k (mmR mx m n))) := by
  obtain ⟨tt, ho⟩ := inv_mm (cmpK1_of hc rfl)
  obtain ⟨e1, e2⟩ := k2_is h (r.ev y) (r.ev z)
  refine ⟨_, fun W2 => ?_, by simp only [Is]; rfl⟩
  cases mx
  · simp [execOp, ho, e1, e2, resolve, invoke, builtin, Builtin.min_, Builtin.min2, List.foldlM, mmR]
  · simp [execOp, ho, e1, e2, resolve, invoke, builtin, Builtin.max_, Builtin.max2, List.foldlM, mmR]
theorem mkif_ok (r : Rep E P nt mk F S.T.get γ a W) {t : TypeId} {y : Operand} (hc : cmpK P o.op = some (.mkif t y)) : OkP P o a S.T.get γ (.i t (ev F y)) := by
  obtain ⟨ho, d, hd, hn⟩ := inv_mkif (cmpK1_of hc rfl)
  refine ⟨.iface t (a.eval y), fun W2 => ?_, by simp only [Is]; exact ⟨_, r.ev y, rfl⟩⟩
  have : (Instr.makeInterface t (a.eval y)).run P W2 = .ok (.iface t (a.eval y)) W2 := by
    simp only [Instr.makeInterface, Sem.run_bind, run_underlying hd, Result.andThen_ok]
    cases d <;> first | rfl | exact absurd rfl (hn _)
  simp [execOp, ho, this]

def isC : Operand → Bool
  | .const _ => true
  | _ => false
def keqi (ct : List TypeId) (cst : Bool) : KV → KV → Option Bool
  | .v .nilIface, .v .nilIface => (match cst with | true => some true | false => none)
  | .v .nilIface, .i _ _ => some false
  | .v .nilIface, .v (.iface _ _) => some false
  | .i _ _, .v .nilIface => some false
  | .v (.iface _ _), .v .nilIface => some false
  | .i t (.v (.int j m)), .i u (.v (.int k n)) => (match Nat.beq t u with
    | false => some false
    | true => (match ct.any (fun q => Nat.beq q t), kEq j k with | true, true => some (m == n) | _, _ => none))
  | .i t _, .i u _ => (match Nat.beq t u with | false => some false | true => none)
  | .i t _, .v (.iface u _) => (match Nat.beq t u with | false => some false | true => none)
  | .v (.iface t _), .i u _ => (match Nat.beq t u with | false => some false | true => none)
  | _, _ => none
def CtOk (P : Program) (ct : List TypeId) : Prop := ∀ t ∈ ct, ∃ i k, P.info? t = some i ∧ i.comparable = true ∧ P.underlying t = some (.int k)
theorem eqg_c (neg : Bool) (t : TypeId) (c : Value) (z : Operand) (W : World) : (eqGuard (if neg then .neq else .eql) t (.const c) z .nilIface .nilIface).run P W = .ok () W := by cases neg <;> rfl
theorem eqg_d (neg : Bool) (t : TypeId) (y : Operand) (c : Value) (W : World) : (eqGuard (if neg then .neq else .eql) t y (.const c) .nilIface .nilIface).run P W = .ok () W := by cases neg <;> cases y <;> rfl
theorem eqg_lit (neg : Bool) (t : TypeId) (y z : Operand) (W : World) (h : (isC y || isC z) = true) : (eqGuard (if neg then .neq else .eql) t y z .nilIface .nilIface).run P W = .ok () W := by
  cases y with
  | const c => exact eqg_c neg t c z W
  | _ => cases z with
    | const c => exact eqg_d neg t _ c W
    | _ => exact absurd h (by simp [isC])
theorem eqg_ni (neg : Bool) (t : TypeId) (y z : Operand) (t2 : TypeId) (v : Value) (W : World) : (eqGuard (if neg then .neq else .eql) t y z .nilIface (.iface t2 v)).run P W = .ok () W := by cases neg <;> rfl
theorem eqg_in (neg : Bool) (t : TypeId) (y z : Operand) (t2 : TypeId) (v : Value) (W : World) : (eqGuard (if neg then .neq else .eql) t y z (.iface t2 v) .nilIface).run P W = .ok () W := by cases neg <;> rfl
theorem eqg_ii (neg : Bool) (t : TypeId) (y z : Operand) (t1 t2 : TypeId) (u v : Value) (W : World) : (eqGuard (if neg then .neq else .eql) t y z (.iface t1 u) (.iface t2 v)).run P W = .ok () W := by cases neg <;> rfl

section
variable {t : TypeId} (hu : ∃ m, P.underlying t = some (.interface m))
include hu
theorem eqd_nn (d : Nat) (W : World) : (Op.equalIn (d + 2) t .nilIface .nilIface).run P W = .ok true W := by
  obtain ⟨m, hu⟩ := hu; simp [Op.equalIn, run_underlying hu]
theorem eqd_ni (d : Nat) (t2 : TypeId) (v : Value) (W : World) : (Op.equalIn (d + 2) t .nilIface (.iface t2 v)).run P W = .ok false W := by
  obtain ⟨m, hu⟩ := hu; simp [Op.equalIn, run_underlying hu]
theorem eqd_in (d : Nat) (t2 : TypeId) (v : Value) (W : World) : (Op.equalIn (d + 2) t (.iface t2 v) .nilIface).run P W = .ok false W := by
  obtain ⟨m, hu⟩ := hu; simp [Op.equalIn, run_underlying hu]
theorem eqd_ne (d : Nat) {t1 t2 : TypeId} (hne : t1 ≠ t2) (u v : Value) (W : World) : (Op.equalIn (d + 2) t (.iface t1 u) (.iface t2 v)).run P W = .ok false W := by
  obtain ⟨m, hu⟩ := hu; simp [Op.equalIn, run_underlying hu, hne]
theorem eqd_int (d : Nat) {q : TypeId} {i : TypeInfo} {k : IntKind} (hi : P.info? q = some i) (hcmp : i.comparable = true) (hk : P.underlying q = some (.int k)) (j : IntKind) (m n : Int) (W : World) : (Op.equalIn (d + 2) t (.iface q (.int j m)) (.iface q (.int j n))).run P W = .ok (m == n) W := by
  obtain ⟨m, hu⟩ := hu; simp [Op.equalIn, run_underlying hu, typeInfo, hi, hcmp, run_underlying hk]
end
theorem eqif_fin (r : Rep E P nt mk F S.T.get γ a W) {neg : Bool} {t : TypeId} {y z : Operand} (hc : cmpK P o.op = some (.eqif neg t y z)) {b : Bool} {u v : Value} (e1 : a.eval y = u) (e2 : a.eval z = v)
    (h1 : ∀ W2, (eqGuard (if neg then .neq else .eql) t y z u v).run P W2 = .ok () W2) (h2 : ∀ W2, (Op.equal t u v).run P W2 = .ok b W2)
    (h3 : ∀ W2, (binOp (if neg then .neq else .eql) t u v).run P W2 = ((Op.equal t u v).run P W2).andThen (fun q w => .ok (.bool (nb neg q)) w)) : OkP P o a S.T.get γ (.v (.bool (nb neg b))) := by
  obtain ⟨t', ho, _⟩ := inv_eqif (cmpK1_of hc rfl)
  refine ⟨.bool (nb neg b), fun W2 => ?_, by simp [Is]⟩
  have h3 := h3 W2
  rw [h2 W2, Result.andThen_ok] at h3
  simp only [execOp, ho, e1, e2, Sem.run_bind, h1 W2, Result.andThen_ok, h3]
  rfl
theorem bin_nn (neg : Bool) (t : TypeId) (W : World) : (binOp (if neg then .neq else .eql) t .nilIface .nilIface).run P W = ((Op.equal t .nilIface .nilIface).run P W).andThen (fun q w => .ok (.bool (nb neg q)) w) := by
  cases neg <;> simp [binOp, nb]
theorem bin_ni (neg : Bool) (t t2 : TypeId) (v : Value) (W : World) : (binOp (if neg then .neq else .eql) t .nilIface (.iface t2 v)).run P W = ((Op.equal t .nilIface (.iface t2 v)).run P W).andThen (fun q w => .ok (.bool (nb neg q)) w) := by
  cases neg <;> simp [binOp, nb]
theorem bin_in (neg : Bool) (t t2 : TypeId) (v : Value) (W : World) : (binOp (if neg then .neq else .eql) t (.iface t2 v) .nilIface).run P W = ((Op.equal t (.iface t2 v) .nilIface).run P W).andThen (fun q w => .ok (.bool (nb neg q)) w) := by
  cases neg <;> simp [binOp, nb]
theorem bin_ii (neg : Bool) (t t1 t2 : TypeId) (u v : Value) (W : World) : (binOp (if neg then .neq else .eql) t (.iface t1 u) (.iface t2 v)).run P W = ((Op.equal t (.iface t1 u) (.iface t2 v)).run P W).andThen (fun q w => .ok (.bool (nb neg q)) w) := by
  cases neg <;> simp [binOp, nb]
theorem ifc {t1 : TypeId} {kw : KV} {v : Value} (hi : Is S.T.get γ (.i t1 kw) v) : ∃ w, v = .iface t1 w := by
  simp only [Is] at hi; obtain ⟨w, _, e⟩ := hi; exact ⟨w, e⟩

theorem eqif_ok (r : Rep E P nt mk F S.T.get γ a W) {ct : List TypeId} (hct : CtOk P ct) {neg : Bool} {t : TypeId} {y z : Operand} (hc : cmpK P o.op = some (.eqif neg t y z)) {b : Bool} (h : keqi ct (isC y || isC z) (ev F y) (ev F z) = some b) : OkP P o a S.T.get γ (.v (.bool (nb neg b))) := by
  obtain ⟨t', ho, hu⟩ := inv_eqif (cmpK1_of hc rfl)
  have hv := r.ev y; have hv' := r.ev z
  have off : ∀ t1 t2 u1 u2, a.eval y = .iface t1 u1 → a.eval z = .iface t2 u2 → (t1 ≠ t2 ∧ false = b) → OkP P o a S.T.get γ (.v (.bool (nb neg b))) := by
    intro t1 t2 u1 u2 e1 e2 ⟨hne, hb⟩
    subst hb
    exact eqif_fin r hc e1 e2 (eqg_ii _ _ _ _ _ _ _ _) (eqd_ne hu 9998 hne _ _) (bin_ii _ _ _ _ _ _)
  generalize ev F y = p at h hv
  generalize ev F z = q at h hv'
  unfold keqi at h
  split at h
  · split at h
    · rename_i hcst
      injection h with h; subst h
      simp only [Is] at hv hv'
      exact eqif_fin r hc hv hv' (fun W2 => eqg_lit _ _ _ _ _ hcst) (eqd_nn hu 9998) (bin_nn _ _)
    · cases h
  · injection h with h; subst h
    obtain ⟨w, e⟩ := ifc hv'
    simp only [Is] at hv
    exact eqif_fin r hc hv e (eqg_ni _ _ _ _ _ _) (eqd_ni hu 9998 _ _) (bin_ni _ _ _ _)
  · injection h with h; subst h
    simp only [Is] at hv hv'
    exact eqif_fin r hc hv hv' (eqg_ni _ _ _ _ _ _) (eqd_ni hu 9998 _ _) (bin_ni _ _ _ _)
  · injection h with h; subst h
    obtain ⟨w, e⟩ := ifc hv
    simp only [Is] at hv'
    exact eqif_fin r hc e hv' (eqg_in _ _ _ _ _ _) (eqd_in hu 9998 _ _) (bin_in _ _ _ _)
  · injection h with h; subst h
    simp only [Is] at hv hv'
    exact eqif_fin r hc hv hv' (eqg_in _ _ _ _ _ _) (eqd_in hu 9998 _ _) (bin_in _ _ _ _)
  · rename_i t1 j m1 t2 k n1
    simp only [Is] at hv hv'
    obtain ⟨_, rfl, hv⟩ := hv
    obtain ⟨_, rfl, hv'⟩ := hv'
    split at h
    · rename_i hb
      injection h with h
      exact off _ _ _ _ hv hv' ⟨Nat.ne_of_beq_eq_false hb, h⟩
    · rename_i hb
      have hb := Nat.eq_of_beq_eq_true hb
      subst hb
      split at h
      case h_2 => cases h
      rename_i h1 h2
      injection h with h; subst h
      have h2 := Sx.kEq_eq h2; subst h2
      obtain ⟨q, hq, hqt⟩ := List.any_eq_true.1 h1
      have hqt := Nat.eq_of_beq_eq_true hqt
      subst hqt
      obtain ⟨inf, k', hi, hcmp, hk⟩ := hct q hq
      exact eqif_fin r hc hv hv' (eqg_ii _ _ _ _ _ _ _ _) (eqd_int hu 9998 hi hcmp hk _ _ _) (bin_ii _ _ _ _ _ _)
  · split at h
    · rename_i hb
      injection h with h
      obtain ⟨w, e⟩ := ifc hv; obtain ⟨w', e'⟩ := ifc hv'
      exact off _ _ _ _ e e' ⟨Nat.ne_of_beq_eq_false hb, h⟩
    · cases h
  · split at h
    · rename_i hb
      injection h with h
      obtain ⟨w, e⟩ := ifc hv
      simp only [Is] at hv'
      exact off _ _ _ _ e hv' ⟨Nat.ne_of_beq_eq_false hb, h⟩
    · cases h
  · split at h
    · rename_i hb
      injection h with h
      obtain ⟨w, e⟩ := ifc hv'
      simp only [Is] at hv
      exact off _ _ _ _ hv e ⟨Nat.ne_of_beq_eq_false hb, h⟩
    · cases h
  · cases h
end
end Go.Kx
