/- The engine: strings of bytes, slices of slices, parts and comparison of records. -/
import Derived.Test.YtlbiogokpadaoaaGreatDoorSxApp
import Derived.Laws.BytesString
import Derived.Laws.StructEq
import Derived.Laws.Slices
set_option linter.unusedSimpArgs false
set_option linter.unusedVariables false
set_option linter.unnecessarySimpa false
namespace Go.Sx

section
variable {E : Env} {P : Program} {s : SS} {K : SV → List SO → Prop} {o : Oper} {a : Act} {W : World}

theorem blk_add (a : Addr) (j : Nat) : (a.add j).block = a.block := by unfold Addr.add; split <;> rfl
theorem cell_of_keep {K : Nat → Prop} {w w' : World} (k : Keep K w w') {a : Addr} (ha : K a.block) : w'.cell? a = w.cell? a := by
  unfold World.cell?
  rw [k.block _ ha]

theorem s_cat {t t' : TypeId} {x y : Operand} (ho : o.op = .binOp .add t x y t') (rep : Rep E s a W) (h : xk E s K (.cat x y)) : ResP P s K o a := by
  simp only [xk] at h
  split at h
  case h_2 => exact h.elim
  rename_i _ _ b c hx hy
  have ex := ev_val rep hx; have ey := ev_val rep hy
  refine ResP.mk (v := .string (b ++ c)) ?_ h.2 (by simp [Is])
  have : ¬ ((b.size + c.size : Nat) : Int) > IntKind.i64.max := by
    have : IntKind.i64.max = 9223372036854775807 := by rfl
    omega
  intro W2
  simp only [execOp, ho, ex, ey, eqGuard, binOp, Op.stringOp, if_neg this, Sem.run_bind, Sem.run_pure, Result.andThen_ok, Bool.not_eq_true', Bool.false_eq_true, if_false, if_true, Bool.not_false]

theorem bytes_fold (b : ByteArray) : ((b.data.toList.map fun c : UInt8 => (c.toNat : Int)).foldl (fun r n => r.push (UInt8.ofNat n.toNat)) ByteArray.empty) = b := by
  have key : ∀ (l : List UInt8) (r : ByteArray), (l.map fun c : UInt8 => (c.toNat : Int)).foldl (fun r n => r.push (UInt8.ofNat n.toNat)) r = ⟨r.data ++ l.toArray⟩ := by
    intro l
    induction l with
    | nil => intro r; simp
    | cons c l ih =>
      intro r
      simp only [List.map_cons, List.foldl_cons, Int.toNat_natCast, UInt8.ofNat_toNat]
      rw [ih]
      simp [ByteArray.push]
  rw [key]
  simp

theorem bytesV_map (b : ByteArray) : bytesV b = (b.data.toList.map fun c : UInt8 => (c.toNat : Int)).map (Value.int .u8) := by simp [bytesV]

theorem s_b2s {t t' e : TypeId} {x : Operand} (ht : P.underlying t = some (.slice e)) (he : P.underlying e = some (.int .u8)) (ht' : P.underlying t' = some .string) (ho : o.op = .convert t t' x) (rep : Rep E s a W) (h : xk E s K (.b2s x)) : ResR P s K o a W := by
  have key : ∀ A n c (b : ByteArray), a.eval x = .slice A n c → (bytesV b).length = n → (0 < n → ∃ a', A = some a' ∧ ∀ (j : Nat) (u : Value), (bytesV b)[j]? = some u → W.cell? (a'.add j) = some u) →
      ∀ W2, Grow W W2 → (execOp a.eval o).run P W2 = .ok (.value (.string b)) W2 := by
    intro A n c b hx hl hc W2 hgr
    have hc : 0 < n → ∃ a', A = some a' ∧ ∀ (j : Nat) (u : Value), (bytesV b)[j]? = some u → W2.cell? (a'.add j) = some u := fun h0 => by
      obtain ⟨a', e, h1⟩ := hc h0
      exact ⟨a', e, fun j u hj => hgr.cell (h1 j u hj)⟩
    have hrun : (Conv.bytesToString (.slice A n c)).run P W2 = .ok (.string b) W2 := by
      cases A with
      | none =>
        have hn : n = 0 := by
          rcases Nat.eq_zero_or_pos n with h0 | h0
          · exact h0
          · obtain ⟨_, h1, _⟩ := hc h0; cases h1
        subst hn
        have : b = ByteArray.empty := by
          have hl : b.data.toList.length = 0 := by simpa [bytesV] using hl
          obtain ⟨⟨l⟩⟩ := b
          simp at hl
          subst hl; rfl
        subst this
        simp [Conv.bytesToString]
      | some A =>
        have hcells : ∀ (j : Nat) (u : Value), (bytesV b)[j]? = some u → W2.cell? (A.add j) = some u := by
          intro j u hj
          have h0 : 0 < n := by rw [← hl]; exact Nat.lt_of_le_of_lt (Nat.zero_le _) (List.getElem?_eq_some_iff.1 hj).1
          obtain ⟨a', h1, h2⟩ := hc h0
          injection h1 with h1; subst h1; exact h2 j u hj
        have hlc := run_loadCells_list (P := P) W2 A (bytesV b) hcells
        rw [hl, bytesV_map] at hlc
        rw [run_bytesToString W2 A n c _ hlc, bytes_fold]
    simp [execOp, ho, hx, convert, run_underlying ht, run_underlying ht', run_underlying he, hrun]
  have hx := rep.ev x
  simp only [xk, xb2s] at h
  split at h
  · rename_i A n c e1
    rw [e1] at hx; simp only [Is] at hx
    obtain ⟨b, ⟨h1, h2, _⟩, hk⟩ := h
    refine ⟨_, _, key A n c b hx h1 (fun h0 => ?_), hk, by simp [Is]⟩
    obtain ⟨a', e, ho', hc⟩ := h2 h0
    exact ⟨a', e, fun j u hj => by rw [cell_of_keep rep.heap.keep (by rw [blk_add]; exact ho')]; exact hc j u hj⟩
  · rename_i i ver e1
    rw [e1] at hx; simp only [Is] at hx
    obtain ⟨t0, ver', sz, A, n, c, xs, hn, _, _, hv⟩ := hx
    obtain ⟨t1, sz1, A1, n1, c1, xs1, he1, b, ⟨hs, hb⟩, hk⟩ := cur_spec h
    rw [hn] at he1; injection he1 with he1; injection he1 with e1 e2 e3 e4 e5 e6 e7
    subst e1; subst e2; subst e3; subst e4; subst e5; subst e6; subst e7
    subst hs
    obtain ⟨hl, hr⟩ := rep.heap.ents i _ hn
    refine ⟨_, _, key A n c b (hv rfl) (by rw [← hb, hl, Nat.mul_one]) (fun h0 => ?_), hk, by simp [Is]⟩
    rcases hr with ⟨_, h1, _⟩ | ⟨g, cur, rfl, hg, _, _, _, htk⟩
    · omega
    · refine ⟨_, rfl, fun j u hj => ?_⟩
      rw [add_lit, cell_of_row W g _ cur t0 (0, 0) hg]
      rw [← hb, ← htk, List.getElem?_take] at hj
      split at hj
      · simpa using hj
      · cases hj
  · rename_i i off n c e1
    rw [e1] at hx; simp only [Is] at hx
    obtain ⟨g, hg, hv⟩ := hx
    rw [blk_eq] at hg
    split at h
    · rename_i g' t0 l hn
      rw [hn] at hg; simp only [Option.bind_some, SO.blk] at hg; injection hg with hg; subst hg
      split at h
      case h_2 => exact h.elim
      rename_i svs htk
      split at h
      case h_2 => exact h.elim
      rename_i vs hd
      obtain ⟨b, rfl, hk⟩ := h
      obtain ⟨cc, hc, hL⟩ := rep.heap.ents i _ hn
      obtain ⟨hL', hlen, _⟩ := hL.takeDrop htk
      have hvs := denL_isL hd hL'
      refine ⟨_, _, key _ n c b hv (by rw [← hvs, hL'.length, hlen]) (fun h0 => ⟨_, rfl, fun j u hj => ?_⟩), hk, by simp [Is]⟩
      rw [add_lit, cell_of_row W g' _ cc t0 (0, 0) hc]
      rw [← hvs, List.getElem?_take] at hj
      split at hj
      · rw [List.getElem?_drop] at hj; simpa using hj
      · cases hj
    · rename_i g' t0 xs hn
      rw [hn] at hg; simp only [Option.bind_some, SO.blk] at hg; injection hg with hg; subst hg
      obtain ⟨b, ⟨hfit, hb⟩, hk⟩ := h
      have hc := rep.heap.ents i _ hn
      refine ⟨_, _, key _ n c b hv (by rw [← hb]; simp; omega) (fun h0 => ⟨_, rfl, fun j u hj => ?_⟩), hk, by simp [Is]⟩
      rw [add_lit, cell_of_row W g' _ xs.toArray t0 (0, 0) hc]
      rw [← hb, List.getElem?_take] at hj
      split at hj
      · rw [List.getElem?_drop] at hj; simpa using hj
      · cases hj
    · exact h.elim
  · exact h.elim

theorem run_bounds (rep : Rep E s a W) {isS : Bool} {n c : Nat} {lo hi : Option Operand} {l h : Int} (hl : lowOf s.F lo = some l) (hh : highOf s.F n hi = some h) (h0 : 0 ≤ l) (h1 : l ≤ h) (h2 : capOk h c hi) (W2 : World) :
    (Instr.sliceBounds isS n c (lo.map a.eval) (hi.map a.eval) none).run P W2 = .ok (l.toNat, h.toNat, c) W2 := by
  have eh : (h.toNat : Int) = h := Int.toNat_of_nonneg (by omega)
  have low : ∀ lo' k, lo = some lo' → ev s.F lo' = .val (.int k l) → a.eval lo' = .int k l := fun lo' k _ e => ev_int rep e
  cases lo with
  | none =>
    simp only [lowOf] at hl; injection hl with hl; subst hl
    cases hi with
    | none =>
      simp only [highOf] at hh; injection hh with hh; subst hh
      simp [Instr.sliceBounds]
    | some hi =>
      simp only [highOf] at hh
      split at hh
      case h_2 => cases hh
      rename_i k q e; injection hh with hh; subst hh
      have e := ev_int rep e
      simp [Instr.sliceBounds, e, run_sliceBound (P := P) W2 k q c _ (by omega) h2]
  | some lo =>
    simp only [lowOf] at hl
    split at hl
    case h_2 => cases hl
    rename_i k q e; injection hl with hl; subst hl
    have e := ev_int rep e
    cases hi with
    | none =>
      simp only [highOf] at hh; injection hh with hh; subst hh
      simp [Instr.sliceBounds, e, run_sliceBound (P := P) W2 k q n _ (by omega) (by omega)]
    | some hi =>
      simp only [highOf] at hh
      split at hh
      case h_2 => cases hh
      rename_i k2 q2 e2; injection hh with hh; subst hh
      have e2 := ev_int rep e2
      simp [Instr.sliceBounds, e, e2, run_sliceBound (P := P) W2 k2 q2 c _ (by omega) h2, run_sliceBound (P := P) W2 k q q2.toNat _ (by omega) (by omega)]

theorem lowA_eq {F : List (Nat × SV)} {A : Option Addr} {c sz : Nat} {l : Int} {lo : Option Operand} (hl : lowOf F lo = some l) : lowA A c l sz lo = if c = l.toNat then A else A.map (·.add (l.toNat * sz)) := by
  cases lo with
  | some _ => rfl
  | none =>
    simp only [lowOf] at hl; injection hl with hl; subst hl
    have : A.map (·.add 0) = A := by cases A <;> simp [Addr.add]
    simp [lowA, this]
theorem lowO_eq {F : List (Nat × SV)} {off c sz : Nat} {l : Int} {lo : Option Operand} (hl : lowOf F lo = some l) : lowO off c l sz lo = if c = l.toNat then off else off + l.toNat * sz := by
  cases lo with
  | some _ => rfl
  | none =>
    simp only [lowOf] at hl; injection hl with hl; subst hl
    simp [lowO]

theorem s_sub {t e : TypeId} {sz : Nat} {x : Operand} {lo hi : Option Operand} (ht : P.underlying t = some (.slice e)) (hz : szT P e = some sz) (ho : o.op = .slice t x lo hi none) (rep : Rep E s a W) (h : xk E s K (.sub sz x lo hi)) : ResP P s K o a := by
  have key : ∀ A n c l q, a.eval x = .slice A n c → lowOf s.F lo = some l → highOf s.F n hi = some q → 0 ≤ l → l ≤ q → capOk q c hi →
      ∀ W2 : World, (execOp a.eval o).run P W2 = .ok (.value (.slice (lowA A c l sz lo) (q.toNat - l.toNat) (c - l.toNat))) W2 := by
    intro A n c l q hx hl hq h0 h1 h2 W2
    rw [lowA_eq hl]
    simp [execOp, ho, Instr.sliceAt, run_underlying ht, Instr.slice, hx, run_bounds rep hl hq h0 h1 h2 W2, run_sizeOf hz]
  have hx := rep.ev x
  simp only [xk] at h
  split at h
  · rename_i A n c e1
    rw [e1] at hx; simp only [Is] at hx
    split at h
    case h_2 => exact h.elim
    rename_i l q hl hq
    exact ResP.mk (key _ _ _ _ _ hx hl hq h.1.1 h.1.2.1 h.1.2.2) h.2 (by simp [Is])
  · rename_i i off n c e1
    rw [e1] at hx; simp only [Is] at hx
    obtain ⟨g, hg, hv⟩ := hx
    split at h
    case h_2 => exact h.elim
    rename_i l q hl hq
    refine ResP.mk (key _ _ _ _ _ hv hl hq h.1.1 h.1.2.1 h.1.2.2) h.2 ?_
    simp only [Is]
    refine ⟨g, hg, ?_⟩
    rw [lowA_eq hl, lowO_eq hl]
    split
    · rfl
    · simp [add_lit]
  · rename_i i ver e1
    rw [e1] at hx; simp only [Is] at hx
    obtain ⟨t0, ver', sz', A, n, c, xs, hn, _, _, hv⟩ := hx
    obtain ⟨t1, sz1, A1, n1, c1, xs1, he, h⟩ := cur_spec h
    rw [hn] at he; injection he with he; injection he with e1 e2 e3 e4 e5 e6 e7
    subst e1; subst e2; subst e3; subst e4; subst e5; subst e6; subst e7
    split at h
    case h_2 => exact h.elim
    rename_i l q hl hq
    have hnc : n ≤ c := by
      rcases (rep.heap.ents i _ hn).2 with ⟨_, h1, h2⟩ | ⟨_, _, _, _, h1, _⟩ <;> omega
    refine ResP.mk (key _ _ _ _ _ (hv rfl) hl hq h.1.1 h.1.2.1 ?_) h.2 (by simp [Is])
    have := h.1.2.2
    cases hi with
    | none => trivial
    | some _ => simp only [capOk] at *; omega
  · exact h.elim

theorem s_subT {t : TypeId} {x : Operand} {lo hi : Option Operand} (ht : P.underlying t = some .string) (ho : o.op = .slice t x lo hi none) (rep : Rep E s a W) (h : xk E s K (.subT x lo hi)) : ResP P s K o a := by
  simp only [xk] at h
  split at h
  case h_2 => exact h.elim
  rename_i b e1
  have hx := ev_val rep e1
  split at h
  case h_2 => exact h.elim
  rename_i l q hl hq
  refine ResP.mk (v := .string (b.extract l.toNat q.toNat)) (fun W2 => ?_) h.2 (by simp [Is])
  have hc : capOk q b.size hi := by cases hi with
    | none => trivial
    | some _ => exact h.1.2.2
  simp [execOp, ho, Instr.sliceAt, run_underlying ht, Instr.slice, hx, run_bounds rep hl hq h.1.1 h.1.2.1 hc W2]

theorem s_ixT {t : TypeId} {x i : Operand} (ht : P.underlying t = some .string) (ho : o.op = .index t x i) (rep : Rep E s a W) (h : xk E s K (.ixT x i)) : ResP P s K o a := by
  simp only [xk] at h
  split at h
  case h_2 => exact h.elim
  rename_i _ _ b k j e1 e2
  have hx := ev_val rep e1
  have hi := ev_int rep e2
  obtain ⟨h0, u, hu, hk⟩ := h
  refine ResP.mk (v := .int .u8 u.toNat) (fun W2 => ?_) hk (by simp [Is])
  simp [execOp, ho, Instr.index, asIntOf, run_underlying ht, hx, hi, h0, hu]

theorem s_ixA {t e : TypeId} {n m : Nat} {x i : Operand} (ht : P.underlying t = some (.array n e)) (hz : szT P e = some m) (hu : (P.underlying e).isSome = true) (ho : o.op = .index t x i) (rep : Rep E s a W) (h : xk E s K (.ixA n m (isAggT P e) x i)) : ResP P s K o a := by
  have hx := rep.ev x
  simp only [xk] at h
  split at h
  case h_2 => exact h.elim
  rename_i l k j e1 e2
  rw [e1] at hx; simp only [Is] at hx
  obtain ⟨us, hL, hv⟩ := hx
  have hi := ev_int rep e2
  obtain ⟨⟨h0, h1⟩, vs, htk, h⟩ := h
  obtain ⟨hL', hlen, hfit⟩ := hL.takeDrop htk
  rcases one_spec h with ⟨hg, hk⟩ | ⟨hg, v, rfl, hk⟩
  · refine ResP.mk (v := .agg ((us.drop (j.toNat * m)).take m).toArray) ?_ hk (by simp only [Is]; exact ⟨_, hL', rfl⟩)
    simp [execOp, ho, Instr.index, asIntOf, run_underlying ht, hv, hi, h0, h1, part, run_isAgg P _ hu, hg, run_sizeOf hz, List.extract_toArray]
  · simp only [IsL] at hL'
    obtain ⟨u, r, hiu, rfl, he⟩ := hL'
    have hn : m = 1 := by simpa using hlen.symm
    subst hn
    have hu' : us[j.toNat]? = some u := by
      have := congrArg (·[0]?) he
      simpa using this
    refine ResP.mk (v := u) ?_ hk hiu
    simp [execOp, ho, Instr.index, asIntOf, run_underlying ht, hv, hi, h0, h1, part, run_isAgg P _ hu, hg, hu', run_sizeOf hz]
end
end Go.Sx
