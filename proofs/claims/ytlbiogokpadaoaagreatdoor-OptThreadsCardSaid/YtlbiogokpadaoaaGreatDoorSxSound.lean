/- The engine, part 3: the operations are what 'xk' says. -/
import Derived.Test.YtlbiogokpadaoaaGreatDoorSxOps
set_option linter.unusedSimpArgs false
set_option linter.unusedVariables false
set_option linter.unnecessarySimpa false
namespace Go.Sx

def Ran (P : Program) (o : Oper) (a : Act) (W : World) (v : Value) (W' : World) : Prop :=
  (execOp a.eval o).run P W = .ok (.value v) W' ∨ ((execOp a.eval o).run P W = .ok .skip W' ∧ v = undef)

def Res (E : Env) (P : Program) (s : SS) (K : SV → List SO → Prop) (o : Oper) (a : Act) (W : World) : Prop :=
  ∃ v W' sv H', Ran P o a W v W' ∧ K sv H' ∧ Is H' sv v ∧ HExt s.H H' ∧ HeapOk E H' W'

section
variable {E : Env} {P : Program} {s : SS} {K : SV → List SO → Prop} {o : Oper} {a : Act} {W : World}

def ResP (P : Program) (s : SS) (K : SV → List SO → Prop) (o : Oper) (a : Act) : Prop :=
  ∃ v sv, (∀ W2 : World, (execOp a.eval o).run P W2 = .ok (.value v) W2) ∧ K sv s.H ∧ Is s.H sv v
theorem ResP.mk {v : Value} {sv : SV} (hr : ∀ W2 : World, (execOp a.eval o).run P W2 = .ok (.value v) W2) (hk : K sv s.H) (hi : Is s.H sv v) : ResP P s K o a := ⟨v, sv, hr, hk, hi⟩
def ResR (P : Program) (s : SS) (K : SV → List SO → Prop) (o : Oper) (a : Act) (W : World) : Prop :=
  ∃ v sv, (∀ W2, Grow W W2 → (execOp a.eval o).run P W2 = .ok (.value v) W2) ∧ K sv s.H ∧ Is s.H sv v
theorem Res.pure (rep : Rep E s a W) {v : Value} {sv : SV} (hr : (execOp a.eval o).run P W = .ok (.value v) W) (hk : K sv s.H) (hi : Is s.H sv v) : Res E P s K o a W :=
  ⟨v, W, sv, s.H, .inl hr, hk, hi, HExt.refl _, rep.heap⟩

theorem ev_int (rep : Rep E s a W) {x : Operand} {k : IntKind} {n : Int} (h : ev s.F x = .val (.int k n)) : a.eval x = .int k n := by
  have := rep.ev x; rw [h] at this; simpa [Is] using this
theorem ev_val (rep : Rep E s a W) {x : Operand} {v : Value} (h : ev s.F x = .val v) : a.eval x = v := by
  have := rep.ev x; rw [h] at this; simpa [Is] using this
theorem ev_bOf (rep : Rep E s a W) {x : Operand} {b : Bool} (h : bOf (ev s.F x) = some b) : a.eval x = .bool b := by
  have := rep.ev x
  cases hx : ev s.F x with
  | bt => rw [hx] at this h; simp [bOf] at h; simp [Is] at this; rw [this, h]
  | bf => rw [hx] at this h; simp [bOf] at h; simp [Is] at this; rw [this, ← h]
  | val v =>
    rw [hx] at this h
    cases v <;> simp [bOf] at h
    simp [Is] at this; rw [this, h]
  | _ => rw [hx] at h; simp [bOf] at h

theorem cur_spec {H : List SO} {i ver : Nat} {C : TypeId → Nat → Option Addr → Nat → Nat → List Value → Prop} (h : cur H i ver C) :
    ∃ t sz A n c xs, nth H i = some (.own t ver sz A n c xs) ∧ C t sz A n c xs := by
  unfold cur at h
  split at h
  · rename_i t ver' sz A n c xs hn
    split at h
    · rename_i hb
      obtain rfl : ver' = ver := by simpa using hb
      exact ⟨t, sz, A, n, c, xs, hn, h⟩
    · exact h.elim
  · exact h.elim

theorem s_mov {x : Operand} (ho : o.op = .move x ∨ o.op = .assign x) (rep : Rep E s a W) (h : xk E s K (.mov x)) : ResP P s K o a := by
  simp only [xk] at h
  refine ResP.mk (v := a.eval x) ?_ h (rep.ev x)
  rcases ho with ho | ho <;> simp [execOp, ho]

theorem s_pick {c x y : Operand} (ho : o.op = .pick c x y) (rep : Rep E s a W) (h : xk E s K (.pick c x y)) : ResP P s K o a := by
  have key : ∀ b, a.eval c = .bool b → ∀ W2 : World, (execOp a.eval o).run P W2 = .ok (.value (if b then a.eval x else a.eval y)) W2 := by
    intro b hb; cases b <;> simp [execOp, ho, hb, asBool]
  have hc := rep.ev c
  simp only [xk] at h
  split at h
  · rename_i e; rw [e] at hc; simp only [Is] at hc; exact ResP.mk (key _ hc) h (rep.ev x)
  · rename_i e; rw [e] at hc; simp only [Is] at hc; exact ResP.mk (key _ hc) h (rep.ev y)
  · rename_i b e
    rw [e] at hc; simp only [Is] at hc
    cases b
    · exact ResP.mk (key _ hc) (h.2 rfl) (rep.ev y)
    · exact ResP.mk (key _ hc) (h.1 rfl) (rep.ev x)
  · exact h.elim

theorem s_arith {op : BinOp} {k : IntKind} {t t' : TypeId} {x y : Operand} (ho : o.op = .binOp op t x y t') (rep : Rep E s a W) (h : xk E s K (.arith op k x y)) : ResP P s K o a := by
  simp only [xk] at h
  split at h
  case h_2 => exact h.elim
  rename_i _ _ j n i m hx hy
  split at h
  case h_2 => exact h.elim
  rename_i _ _ h1 h2
  obtain rfl := kEq_eq h1; obtain rfl := kEq_eq h2
  obtain ⟨r, hr, hk⟩ := h
  have ex := ev_int rep hx; have ey := ev_int rep hy
  refine ResP.mk (v := .int i r) ?_ hk (by simp [Is])
  cases op <;> simp only [ArOk] at hr <;> (try exact hr.elim) <;> subst hr <;> simp only [execOp, ho, ex, ey, eqGuard_add, eqGuard_sub, eqGuard_mul, binOp_add, binOp_sub, binOp_mul, Op.intArith, Sem.run_bind, Sem.run_pure, Result.andThen_ok, implies_true]

theorem s_div {op : BinOp} {k : IntKind} {t t' : TypeId} {x y : Operand} (ho : o.op = .binOp op t x y t') (rep : Rep E s a W) (h : xk E s K (.div op k x y)) : ResP P s K o a := by
  simp only [xk] at h
  split at h
  case h_2 => exact h.elim
  rename_i _ _ j n i m hx hy
  split at h
  case h_2 => exact h.elim
  rename_i _ _ h1 h2
  obtain rfl := kEq_eq h1; obtain rfl := kEq_eq h2
  obtain ⟨r, ⟨hb, hr⟩, hk⟩ := h
  have ex := ev_int rep hx; have ey := ev_int rep hy
  refine ResP.mk (v := .int i r) ?_ hk (by simp [Is])
  cases op <;> simp only at hr <;> (try exact hr.elim) <;> subst hr <;> simp only [execOp, ho, ex, ey, eqGuard_quo, eqGuard_rem, binOp_quo, binOp_rem, Op.intDiv, hb, if_false, Sem.run_bind, Sem.run_pure, Result.andThen_ok, implies_true]

theorem s_bits {op : BinOp} {k : IntKind} {t t' : TypeId} {x y : Operand} (ho : o.op = .binOp op t x y t') (rep : Rep E s a W) (h : xk E s K (.bits op k x y)) : ResP P s K o a := by
  simp only [xk] at h
  split at h
  case h_2 => exact h.elim
  rename_i _ _ j n i m hx hy
  split at h
  case h_2 => exact h.elim
  rename_i _ _ h1 h2
  obtain rfl := kEq_eq h1; obtain rfl := kEq_eq h2
  obtain ⟨r, hr, hk⟩ := h
  have ex := ev_int rep hx; have ey := ev_int rep hy
  refine ResP.mk (v := .int i r) ?_ hk (by simp [Is])
  cases op <;> simp only [BitOk] at hr <;> (try exact hr.elim) <;> subst hr <;>
    simp only [execOp, ho, ex, ey, eqGuard_and, eqGuard_or, eqGuard_xor, eqGuard_andNot, binOp_and, binOp_or, binOp_xor, binOp_andNot, Op.intBits, Sem.run_bind, Sem.run_pure, Result.andThen_ok, implies_true]

theorem s_shift {op : BinOp} {k : IntKind} {t t' : TypeId} {x y : Operand} (ho : o.op = .binOp op t x y t') (rep : Rep E s a W) (h : xk E s K (.shift op k x y)) : ResP P s K o a := by
  simp only [xk] at h
  split at h
  case h_2 => exact h.elim
  rename_i _ _ j n i m hx hy
  split at h
  case h_2 => exact h.elim
  rename_i _ h1
  obtain rfl := kEq_eq h1
  obtain ⟨r, ⟨hb, hr⟩, hk⟩ := h
  have ex := ev_int rep hx; have ey := ev_int rep hy
  have hb' : ¬ m < 0 := by omega
  refine ResP.mk (v := .int j r) ?_ hk (by simp [Is])
  cases op <;> simp only at hr <;> (try exact hr.elim) <;> subst hr <;>
    simp only [execOp, ho, ex, ey, eqGuard_shl, eqGuard_shr, binOp_shl, binOp_shr, Op.shift, hb', if_false, Sem.run_bind, Sem.run_pure, Result.andThen_ok, implies_true]

theorem s_cmp {op : BinOp} {k : IntKind} {t t' : TypeId} {x y : Operand} (hop : cmpable op = true) (ho : o.op = .binOp op t x y t') (rep : Rep E s a W) (h : xk E s K (.cmp op k x y)) : ResP P s K o a := by
  simp only [xk] at h
  split at h
  case h_2 => exact h.elim
  rename_i _ _ j n i m hx hy
  split at h
  case h_2 => exact h.elim
  rename_i _ _ h1 h2
  obtain rfl := kEq_eq h1; obtain rfl := kEq_eq h2
  have ex := ev_int rep hx; have ey := ev_int rep hy
  refine ResP.mk (v := .bool (cmpB op n m)) ?_ h (by simp [Is])
  cases op <;> simp only [cmpable] at hop <;> (try cases hop) <;>
    simp only [execOp, ho, ex, ey, eqGuard_at_int, eqGuard_lss, eqGuard_leq, eqGuard_gtr, eqGuard_geq, binOp_eql, binOp_neq, binOp_lss, binOp_leq, binOp_gtr, binOp_geq, cmpB, Sem.run_bind, Sem.run_pure, Result.andThen_ok, implies_true]

theorem s_eqb {neg : Bool} {t t' : TypeId} {x y : Operand} (ht : P.underlying t = some .bool) (ho : o.op = .binOp (if neg then .neq else .eql) t x y t') (rep : Rep E s a W) (h : xk E s K (.eqb neg x y)) : ResP P s K o a := by
  simp only [xk] at h
  split at h
  case h_2 => exact h.elim
  rename_i _ _ b c hx hy
  have ex := ev_bOf rep hx; have ey := ev_bOf rep hy
  have hq : ∀ (d : Nat) (W : World), (Op.equalIn (d + 1) t (.bool b) (.bool c)).run P W = .ok (b == c) W := fun d W => by simp [Op.equalIn, run_underlying ht]
  have hq' : ∀ W : World, (Op.equal t (.bool b) (.bool c)).run P W = .ok (b == c) W := hq 9999
  cases neg
  · refine ResP.mk (v := .bool (b == c)) ?_ h (by simp [Is])
    simp [execOp, ho, ex, ey, eqGuard_at_bool, binOp, hq']
  · refine ResP.mk (v := .bool (!(b == c))) ?_ h (by simp [Is])
    simp [execOp, ho, ex, ey, eqGuard_at_bool, binOp, hq']

theorem s_eqs {op : BinOp} {t t' : TypeId} {x y : Operand} (hop : cmpable op = true) (ho : o.op = .binOp op t x y t') (rep : Rep E s a W) (h : xk E s K (.eqs op x y)) : ResP P s K o a := by
  simp only [xk] at h
  split at h
  case h_2 => exact h.elim
  rename_i _ _ b c hx hy
  have ex := ev_val rep hx; have ey := ev_val rep hy
  refine ResP.mk (v := .bool (strB op b c)) ?_ h (by simp [Is])
  cases op <;> simp only [cmpable] at hop <;> (try cases hop) <;>
    simp [execOp, ho, ex, ey, eqGuard_at_string, eqGuard_lss, eqGuard_leq, eqGuard_gtr, eqGuard_geq, binOp, Op.stringOp, strB]

theorem s_not {t : TypeId} {x : Operand} (ho : o.op = .unOp .not t x) (rep : Rep E s a W) (h : xk E s K (.not x)) : ResP P s K o a := by
  have hc := rep.ev x
  simp only [xk] at h
  split at h
  · rename_i e; rw [e] at hc; simp only [Is] at hc
    exact ResP.mk (v := .bool false) (by simp [execOp, ho, hc, Op.unary]) h (by simp [Is])
  · rename_i e; rw [e] at hc; simp only [Is] at hc
    exact ResP.mk (v := .bool true) (by simp [execOp, ho, hc, Op.unary]) h (by simp [Is])
  · rename_i b e; rw [e] at hc; simp only [Is] at hc
    exact ResP.mk (v := .bool (!b)) (by simp [execOp, ho, hc, Op.unary]) h (by simp [Is])
  · exact h.elim

theorem s_conv {src dst : TypeId} {k j : IntKind} {x : Operand} (hs : P.underlying src = some (.int j)) (ht : P.underlying dst = some (.int k)) (ho : o.op = .convert src dst x) (rep : Rep E s a W) (h : xk E s K (.conv k x)) : ResP P s K o a := by
  simp only [xk] at h
  split at h
  case h_2 => exact h.elim
  rename_i _ i n hx
  have ex := ev_int rep hx
  obtain ⟨r, hr, hk⟩ := h
  refine ResP.mk (v := .int k r) ?_ hk (by simp [Is])
  simp only [ConvOk] at hr; subst hr
  simp [execOp, ho, ex, convert, run_underlying hs, run_underlying ht, Conv.intToInt]

theorem s_lenS {t e : TypeId} {x : Operand} (ht : P.underlying t = some (.slice e)) (ho : o.op = .call { callee := .builtin .len, args := #[x], argTypes := #[t] }) (rep : Rep E s a W) (h : xk E s K (.lenS x)) : ResP P s K o a := by
  have key : ∀ A n c, a.eval x = .slice A n c → ∀ W2 : World, (execOp a.eval o).run P W2 = .ok (.value (.int .i64 n)) W2 := by
    intro A n c hx
    simp [execOp, ho, resolve, invoke, builtin, hx, Builtin.len_, run_underlying ht, goInt]
  have hc := rep.ev x
  simp only [xk] at h
  split at h
  · rename_i A n c e; rw [e] at hc; simp only [Is] at hc
    exact ResP.mk (key _ _ _ hc) h (by simp [Is])
  · rename_i i off n c e; rw [e] at hc; simp only [Is] at hc
    obtain ⟨g, _, hv⟩ := hc
    exact ResP.mk (key _ _ _ hv) h (by simp [Is])
  · rename_i i ver e; rw [e] at hc; simp only [Is] at hc
    obtain ⟨t0, ver', sz, A, n, c, xs, hn, _, _, hv⟩ := hc
    obtain ⟨t1, sz1, A1, n1, c1, xs1, he, h⟩ := cur_spec h
    rw [hn] at he; injection he with he; injection he with e1 e2 e3 e4 e5 e6 e7
    subst e1; subst e2; subst e3; subst e4; subst e5; subst e6; subst e7
    exact ResP.mk (key _ _ _ (hv rfl)) h (by simp [Is])
  · exact h.elim

theorem s_lenT {t : TypeId} {x : Operand} (ht : P.underlying t = some .string) (ho : o.op = .call { callee := .builtin .len, args := #[x], argTypes := #[t] }) (rep : Rep E s a W) (h : xk E s K (.lenT x)) : ResP P s K o a := by
  simp only [xk] at h
  split at h
  case h_2 => exact h.elim
  rename_i _ b hx
  have ex := ev_val rep hx
  refine ResP.mk (v := .int .i64 b.size) ?_ h (by simp [Is])
  simp [execOp, ho, resolve, invoke, builtin, ex, Builtin.len_, run_underlying ht, goInt]

theorem s_lenA {t e : TypeId} {n : Nat} {x : Operand} (ht : P.underlying t = some (.array n e)) (ho : o.op = .call { callee := .builtin .len, args := #[x], argTypes := #[t] }) (rep : Rep E s a W) (h : xk E s K (.lenA n x)) : ResP P s K o a := by
  simp only [xk] at h
  refine ResP.mk (v := .int .i64 n) ?_ h (by simp [Is])
  simp [execOp, ho, resolve, invoke, builtin, Builtin.len_, run_underlying ht, goInt]

theorem add_lit (g o n : Nat) : (⟨g, o, none⟩ : Addr).add n = ⟨g, o + n, none⟩ := by
  unfold Addr.add; split
  · rename_i h; subst h; rfl
  · rfl

theorem add_add (A : Addr) (i j : Nat) : (A.add i).add j = A.add (i + j) := by
  unfold Addr.add
  by_cases hi : i = 0 <;> by_cases hj : j = 0 <;> simp [hi, hj, Nat.add_assoc]

theorem run_sizeOf {t : TypeId} {n : Nat} (h : szT P t = some n) (W : World) : (sizeOf t).run P W = .ok n W := by
  unfold szT at h
  cases hi : P.info? t with
  | none => simp [hi] at h
  | some i => simp [hi] at h; simp [sizeOf, typeInfo, hi, h]

theorem s_idx {t e : TypeId} {sz : Nat} {x i : Operand} (ht : P.underlying t = some (.slice e)) (hz : szT P e = some sz) (ho : o.op = .indexAddr t x i) (rep : Rep E s a W) (h : xk E s K (.idx sz x i)) : ResP P s K o a := by
  have key : ∀ A n c k j, a.eval x = .slice (some A) n c → a.eval i = .int k j → 0 ≤ j → j < (n : Int) → ∀ W2 : World, (execOp a.eval o).run P W2 = .ok (.value (.pointer (some (A.add (j.toNat * sz))))) W2 := by
    intro A n c k j hx hi h0 h1
    simp [execOp, ho, Instr.indexAt, hx, hi, asIntOf, run_underlying ht, run_sizeOf hz, h0, h1]
  have hx := rep.ev x
  simp only [xk] at h
  split at h
  · rename_i A n c k j e1 e2
    rw [e1] at hx; simp only [Is] at hx
    obtain ⟨⟨h0, h1, hA⟩, hk⟩ := h
    obtain ⟨A', rfl⟩ := Option.isSome_iff_exists.1 hA
    exact ResP.mk (key _ _ _ _ _ hx (ev_int rep e2) h0 h1) hk (by simp [Is])
  · rename_i en off n c k j e1 e2
    rw [e1] at hx; simp only [Is] at hx
    obtain ⟨g, hg, hv⟩ := hx
    obtain ⟨⟨h0, h1⟩, hk⟩ := h
    refine ResP.mk (key _ _ _ _ _ hv (ev_int rep e2) h0 h1) hk ?_
    simp only [Is]
    exact ⟨g, hg, by rw [add_lit]⟩
  · rename_i en ver k j e1 e2
    rw [e1] at hx; simp only [Is] at hx
    obtain ⟨t0, ver', sz0, A, n, c, xs, hn, hle, _, hv⟩ := hx
    obtain ⟨t1, sz1, A1, n1, c1, xs1, he, ⟨h0, h1⟩, hk⟩ := cur_spec h
    rw [hn] at he; injection he with he; injection he with e1 e2 e3 e4 e5 e6 e7
    subst e1; subst e2; subst e3; subst e4; subst e5; subst e6; subst e7
    have hok := rep.heap.ents en _ hn
    have hA : ∃ A', A = some A' := by
      rcases hok.2 with ⟨_, e0, _⟩ | ⟨g, cur, e0, _⟩
      · subst e0; omega
      · exact ⟨_, e0⟩
    obtain ⟨A', rfl⟩ := hA
    refine ResP.mk (key _ _ _ _ _ (hv rfl) (ev_int rep ‹_›) h0 h1) hk ?_
    simp only [Is]
    exact ⟨_, _, _, _, _, _, _, hn, hle, ⟨_, rfl⟩, fun _ => ⟨_, rfl, rfl⟩⟩
  · exact h.elim

theorem s_idxA {t e : TypeId} {n sz : Nat} {x i : Operand} (hn : 1 < n) (ht : P.underlying t = some (.array n e)) (hz : szT P e = some sz) (ho : o.op = .indexAddr t x i) (rep : Rep E s a W) (h : xk E s K (.idxA n sz x i)) : ResP P s K o a := by
  have hn1 : ¬ n ≤ 1 := by omega
  have key : ∀ A k j, a.eval x = .pointer (some A) → a.eval i = .int k j → 0 ≤ j → j < (n : Int) → ∀ W2 : World, (execOp a.eval o).run P W2 = .ok (.value (.pointer (some (A.add (j.toNat * sz))))) W2 := by
    intro A k j hx hi h0 h1
    simp [execOp, ho, Instr.indexAt, hx, hi, asIntOf, run_underlying ht, run_sizeOf hz, h0, h1, Instr.sureAddr]
  have hx := rep.ev x
  simp only [xk] at h
  split at h
  · rename_i en off k j e1 e2
    rw [e1] at hx; simp only [Is] at hx
    obtain ⟨g, hg, hv⟩ := hx
    obtain ⟨⟨h0, h1⟩, hk⟩ := h
    refine ResP.mk (key _ _ _ hv (ev_int rep e2) h0 h1) hk ?_
    simp only [Is]
    exact ⟨g, hg, by rw [add_lit]⟩
  · rename_i en ver off k j e1 e2
    rw [e1] at hx; simp only [Is] at hx
    obtain ⟨t0, ver', sz0, A, m, c, xs, hm, hle, _, hv⟩ := hx
    obtain ⟨t1, sz1, A1, n1, c1, xs1, he, ⟨h0, h1⟩, hk⟩ := cur_spec h
    rw [hm] at he; injection he with he; injection he with f1 f2 f3 f4 f5 f6 f7
    subst f1; subst f2; subst f3; subst f4; subst f5; subst f6; subst f7
    obtain ⟨A', rfl, hv'⟩ := hv rfl
    refine ResP.mk (key _ _ _ hv' (ev_int rep e2) h0 h1) hk ?_
    simp only [Is]
    exact ⟨_, _, _, _, _, _, _, hm, hle, ⟨_, rfl⟩, fun _ => ⟨_, rfl, by rw [add_add]⟩⟩
  · rename_i A off k j e1 e2
    rw [e1] at hx; simp only [Is] at hx
    obtain ⟨⟨h0, h1, hA⟩, hk⟩ := h
    obtain ⟨A', rfl⟩ := Option.isSome_iff_exists.1 hA
    refine ResP.mk (key _ _ _ hx (ev_int rep e2) h0 h1) hk ?_
    simp [Is, add_add]
  · exact h.elim

end
end Go.Sx
