/- The runner, part 5: addresses, parts of values, slices, nil, equality. -/
import Derived.Test.YtfgdmcnlbgbleaaDoorKxMem
set_option linter.unusedSimpArgs false
set_option linter.unusedVariables false
set_option linter.unnecessarySimpa false
namespace Go.Kx
open Go
open Go.Sx (Grow Keep XC XS XI XK CK NK cmp theOrder Jump Ran SV SO kEq cmpK cmpK0 cmpK1 isNew pureK readK xk xk_sound ResK ResP ResR Res svc nth takeL dropL szT isAggT zeroT splice)

section
open Go.Sx
theorem inv_ixA {P : Program} {op : Op} {n sz : Nat} {agg : Bool} {x i : Operand} (h : cmpK0 P op = some (.ixA n sz agg x i)) : ∃ t e, op = .index t x i ∧ P.underlying t = some (.array n e) ∧ szT P e = some sz ∧ (P.underlying e).isSome = true ∧ agg = isAggT P e := by
  unfold cmpK0 cmpBin cmpEqa cmpNil cmpUn cmpConv cmpSub cmpIxv cmpIdx cmpFld cmpFldv cmpLoad cmpStore cmpAlloc cmpBox cmpBuild cmpBuildS cmpCall cmpApp at h
  repeat' (split at h)
  all_goals first | (cases h; done) | (rename_i e4; injection h with h; injection h with h0 h1 h2 h3 h4; subst h0; subst h1; subst h3; subst h4; exact ⟨_, _, rfl, by assumption, by assumption, by rw [e4]; rfl, h2.symm⟩)
theorem inv_sub {P : Program} {op : Op} {sz : Nat} {x : Operand} {lo hi : Option Operand} (h : cmpK0 P op = some (.sub sz x lo hi)) : ∃ t e, op = .slice t x lo hi none ∧ P.underlying t = some (.slice e) ∧ szT P e = some sz := by
  unfold cmpK0 cmpBin cmpEqa cmpNil cmpUn cmpConv cmpSub cmpIxv cmpIdx cmpFld cmpFldv cmpLoad cmpStore cmpAlloc cmpBox cmpBuild cmpBuildS cmpCall cmpApp at h
  repeat' (split at h)
  all_goals first | (cases h; done) | (injection h with h; injection h with h0 h1 h2 h3; subst h0; subst h1; subst h2; subst h3; exact ⟨_, _, rfl, by assumption, by assumption⟩)
theorem inv_lenS {P : Program} {op : Op} {x : Operand} (h : cmpK0 P op = some (.lenS x)) : ∃ t e, op = .call { callee := .builtin .len, args := #[x], argTypes := #[t] } ∧ P.underlying t = some (.slice e) := by
  unfold cmpK0 cmpBin cmpEqa cmpNil cmpUn cmpConv cmpSub cmpIxv cmpIdx cmpFld cmpFldv cmpLoad cmpStore cmpAlloc cmpBox cmpBuild cmpBuildS at h
  repeat' (split at h)
  all_goals first | (cases h; done) | skip
  rename_i c
  unfold cmpCall cmpApp at h
  repeat' (split at h)
  all_goals first | (cases h; done) | skip
  rename_i y t h1 h2 h3 _ e ht
  injection h with h; injection h with h; subst h
  refine ⟨t, e, ?_, ht⟩
  obtain ⟨cc, aa, tt⟩ := c
  simp at h1 h2 h3
  subst h1
  have e1 : aa = #[y] := by rw [← Array.toArray_toList (xs := aa), h2]
  have e2 : tt = #[t] := by rw [← Array.toArray_toList (xs := tt), h3]
  rw [e1, e2]
theorem inv_eqa {P : Program} {op : Op} {neg : Bool} {ks : List CK} {x y : Operand} (h : cmpK0 P op = some (.eqa neg ks x y)) : ∃ t t', op = .binOp (if neg then .neq else .eql) t x y t' ∧ eqKs P 6 t = some ks ∧ P.eqGuardType P.depth t = false ∧ isAggT P t = true := by
  unfold cmpK0 cmpBin cmpEqa cmpNil cmpUn cmpConv cmpSub cmpIxv cmpIdx cmpFld cmpFldv cmpLoad cmpStore cmpAlloc cmpBox cmpBuild cmpBuildS cmpCall cmpApp at h
  repeat' (split at h)
  all_goals first | (cases h; done) | skip
  all_goals (injection h with h; injection h with h0 h1 h2 h3; subst h0; subst h1; subst h2; subst h3; refine ⟨_, _, rfl, by assumption, by assumption, ?_⟩; unfold isAggT; simp only [*])
end

section
variable {E : KE} {P : Program} {nt : Nat} {mk : List Nat} {F : Tr KV} {S S' : KS} {γ : Nat → Gh} {a : Act} {W : World} {o : Oper} {kv : KV} {x : XK}

theorem runP_of (r : Rep E P nt mk F S.T.get γ a W) (hc : cmpK P o.op = some x) (hp : pureK x = true) {v : Value} (h : xk (EL W nt (mk.map fun i => (γ i).g) []) (SL a []) (fun sv _ => sv = .val v) x) : ∀ W2 : World, (execOp a.eval o).run P W2 = .ok (.value v) W2 := by
  obtain ⟨u, h1, h2⟩ := okP_of r hc hp h
  simp only [Is] at h2; subst h2; exact h1

def curB (T : Tr KO) (i ver : Nat) : Bool := match T.get i with
  | some (.grow _ _ ver' _) => Nat.beq ver' ver
  | _ => false
theorem curB_spec {T : Tr KO} {i ver : Nat} (h : curB T i ver = true) : ∃ t sz l, T.get i = some (.grow t sz ver l) := by
  unfold curB at h; split at h
  · rename_i t sz ver' l e; have := Nat.eq_of_beq_eq_true h; subst this; exact ⟨t, sz, l, e⟩
  · cases h
def padd (T : Tr KO) (p : KV) (k : Nat) : Option KV := match p with
  | .p i o => some (.p i (o + k))
  | .q i ver o => (match curB T i ver with | true => some (.q i ver (o + k)) | false => none)
  | .v (.pointer (some ⟨g, o, none⟩)) => some (.v (.pointer (some ⟨g, o + k, none⟩)))
  | _ => none
theorem q_at {T : Tr KO} {i ver off : Nat} {v : Value} (hi : Is T.get γ (.q i ver off) v) (hc : curB T i ver = true) : v = .pointer (some ⟨(γ i).g, (γ i).b + off, none⟩) := by
  obtain ⟨t, sz, l, e⟩ := curB_spec hc
  simp only [Is] at hi
  obtain ⟨_, ⟨t1, sz1, v1, l1, he1, _, hv⟩ | he1⟩ := hi
  case inr => rw [e] at he1; cases he1
  rw [e] at he1; injection he1 with he1; injection he1 with q1 q2 q3 q4
  exact hv q3.symm
theorem q_mk {T : Tr KO} {i ver off : Nat} (hc : curB T i ver = true) : Is T.get γ (.q i ver off) (.pointer (some ⟨(γ i).g, (γ i).b + off, none⟩)) := by
  obtain ⟨t, sz, l, e⟩ := curB_spec hc
  simp only [Is]
  exact ⟨⟨_, rfl⟩, .inl ⟨t, sz, ver, l, e, Nat.le_refl _, fun _ => by first | rfl | trivial⟩⟩
theorem padd_spec {T : Tr KO} {p p' : KV} {k : Nat} {v : Value} (hi : Is T.get γ p v) (h : padd T p k = some p') : ∃ g o, v = .pointer (some ⟨g, o, none⟩) ∧ Is T.get γ p' (.pointer (some ⟨g, o + k, none⟩)) := by
  unfold padd at h
  split at h
  · injection h with h; subst h
    simp only [Is] at hi ⊢
    exact ⟨_, _, hi.2, hi.1, rfl⟩
  · split at h
    · rename_i hc
      injection h with h; subst h
      exact ⟨_, _, q_at hi hc, by rw [Nat.add_assoc]; exact q_mk hc⟩
    · cases h
  · injection h with h; subst h
    simp only [Is] at hi ⊢
    exact ⟨_, _, hi, rfl⟩
  · cases h
def sadr (T : Tr KO) (s : KV) (sz j : Nat) : Option KV := match s with
  | .s i off n _ => (match Nat.blt j n with | true => some (.p i (off + j * sz)) | false => none)
  | .z i off n => (match Nat.blt j n with | true => some (.p i (off + j * sz)) | false => none)
  | .w i ver o n => (match T.get i with
    | some (.grow _ sz' ver' _) => (match Nat.beq ver' ver, Nat.beq sz' sz, Nat.blt j n with | true, true, true => some (.q i ver (o * sz + j * sz)) | _, _, _ => none)
    | _ => none)
  | .v (.slice (some ⟨g, o, none⟩) n _) => (match Nat.blt j n with | true => some (.v (.pointer (some ⟨g, o + j * sz, none⟩))) | false => none)
  | _ => none
theorem blt_lt {m n : Nat} (h : Nat.blt m n = true) : m < n := by
  have := Nat.le_of_ble_eq_true h; omega
theorem w_at {T : Tr KO} {i ver o n : Nat} {v : Value} {t : TypeId} {sz : Nat} {l : List KV} (hi : Is T.get γ (.w i ver o n) v) (e : T.get i = some (.grow t sz ver l)) :
    ∃ A, v = .slice (some A) n ((γ i).c - o) ∧ o + n ≤ (γ i).c ∧ (o < (γ i).c → A = ⟨(γ i).g, (γ i).b + o * sz, none⟩) := by
  simp only [Is] at hi
  obtain ⟨_, ⟨t1, sz1, v1, l1, he1, _, hv⟩ | he1⟩ := hi
  case inr => rw [e] at he1; cases he1
  rw [e] at he1; injection he1 with he1; injection he1 with q1 q2 q3 q4
  subst q2
  exact hv q3.symm
theorem sadr_spec {T : Tr KO} {s p : KV} {sz j : Nat} {v : Value} (hi : Is T.get γ s v) (h : sadr T s sz j = some p) : ∃ g o n c, v = .slice (some ⟨g, o, none⟩) n c ∧ j < n ∧ Is T.get γ p (.pointer (some ⟨g, o + j * sz, none⟩)) := by
  unfold sadr at h
  split at h
  · split at h
    · rename_i hb
      injection h with h; subst h
      simp only [Is] at hi ⊢
      exact ⟨_, _, _, _, hi.2, blt_lt hb, hi.1, rfl⟩
    · cases h
  · split at h
    · rename_i hb
      injection h with h; subst h
      simp only [Is] at hi ⊢
      obtain ⟨hf, c, hv⟩ := hi
      exact ⟨_, _, _, _, hv, blt_lt hb, hf, rfl⟩
    · cases h
  · rename_i i ver o n
    split at h
    case h_2 => cases h
    rename_i t sz' ver' l e
    split at h
    · rename_i h1 h2 h3
      injection h with h; subst h
      have h1 := Nat.eq_of_beq_eq_true h1; have h2 := Nat.eq_of_beq_eq_true h2; have h3 := blt_lt h3
      subst h1; subst h2
      obtain ⟨A, hv, hle, hA⟩ := w_at hi e
      rw [hA (by omega)] at hv
      have hc : curB T i ver' = true := by unfold curB; rw [e]; simp
      exact ⟨_, _, _, _, hv, h3, by rw [Nat.add_assoc]; exact q_mk hc⟩
    · cases h
  · split at h
    · rename_i hb
      injection h with h; subst h
      simp only [Is] at hi ⊢
      exact ⟨_, _, _, _, hi, blt_lt hb, rfl⟩
    · cases h
  · cases h

theorem idx_ok (r : Rep E P nt mk F S.T.get γ a W) {sz : Nat} {y i : Operand} (hc : cmpK P o.op = some (.idx sz y i)) {k : IntKind} {j : Nat} (h1 : ev F i = .v (.int k (.ofNat j))) (h : sadr S.T (ev F y) sz j = some kv) : OkP P o a S.T.get γ kv := by
  obtain ⟨t, e, ho, ht, hz⟩ := inv_idx (cmpK1_old hc rfl)
  obtain ⟨g, off, n, c, hv, hlt, hp⟩ := sadr_spec (r.ev y) h
  have hi := r.ev i; rw [h1] at hi; simp only [Is] at hi
  refine ⟨_, fun W2 => ?_, hp⟩
  have h0 : (0 : Int) ≤ Int.ofNat j := Int.natCast_nonneg j
  have h2 : Int.ofNat j < (n : Int) := by exact Int.ofNat_lt.2 hlt
  have hnj : ¬ n ≤ j := by omega
  simp [execOp, ho, Instr.indexAt, hv, hi, asIntOf, run_underlying ht, Sx.run_sizeOf hz, h2, hnj, Sx.add_lit]
theorem idxA_ok (r : Rep E P nt mk F S.T.get γ a W) {n sz : Nat} {y i : Operand} (hc : cmpK P o.op = some (.idxA n sz y i)) {k : IntKind} {j : Nat} (h1 : ev F i = .v (.int k (.ofNat j))) (h2 : Nat.blt j n = true) (h : padd S.T (ev F y) (j * sz) = some kv) : OkP P o a S.T.get γ kv := by
  obtain ⟨t, e, ho, ht, hz, hn⟩ := inv_idxA (cmpK1_old hc rfl)
  obtain ⟨g, off, hv, hp⟩ := padd_spec (r.ev y) h
  have hi := r.ev i; rw [h1] at hi; simp only [Is] at hi
  refine ⟨_, fun W2 => ?_, hp⟩
  have h3 : Int.ofNat j < (n : Int) := by exact Int.ofNat_lt.2 (blt_lt h2)
  have hn1 : ¬ n ≤ 1 := by omega
  have hnj : ¬ n ≤ j := by have := blt_lt h2; omega
  simp [execOp, ho, Instr.indexAt, hv, hi, asIntOf, run_underlying ht, Sx.run_sizeOf hz, h3, hnj, hn1, Instr.sureAddr, Sx.add_lit]
theorem fld_ok (r : Rep E P nt mk F S.T.get γ a W) {off : Nat} {y : Operand} (hc : cmpK P o.op = some (.fld off y)) (h : padd S.T (ev F y) off = some kv) : OkP P o a S.T.get γ kv := by
  obtain ⟨t, fs, f, fd, m, ho, ht, hf, hz, rfl⟩ := inv_fld (cmpK1_old hc rfl)
  obtain ⟨g, off, hv, hp⟩ := padd_spec (r.ev y) h
  refine ⟨_, fun W2 => ?_, hp⟩
  simp [execOp, ho, Instr.fieldAt, hv, run_underlying ht, hf, Instr.sureAddr, fieldPlace, Sx.run_sizeOf hz, Sx.add_lit]

theorem part_spec {h : KH} {l : List KV} {us : List Value} {off n : Nat} {ks : List KV} (hL : IsL h γ l us) (e : takeL n (dropL off l) = some ks) : IsL h γ ks ((us.drop off).take n) ∧ ks.length = n := by
  obtain ⟨rfl, hlen, _⟩ := takeDrop_get e
  exact ⟨(hL.drop off).take n, hlen⟩
theorem fldv_ok (r : Rep E P nt mk F S.T.get γ a W) {off n : Nat} {agg : Bool} {y : Operand} (hc : cmpK P o.op = some (.fldv off n agg y)) {l ks : List KV} (h1 : ev F y = .a l) (h2 : takeL n (dropL off l) = some ks) (h : one agg ks = some kv) : OkP P o a S.T.get γ kv := by
  obtain ⟨t, fs, f, fd, ho, ht, hf, hz, rfl, hu, rfl⟩ := inv_fldv (cmpK1_old hc rfl)
  have hv := r.ev y; rw [h1] at hv; simp only [Is] at hv
  obtain ⟨us, hL, hv⟩ := hv
  obtain ⟨hL', hlen⟩ := part_spec hL h2
  unfold one at h
  split at h
  · rename_i hg; injection h with h; subst h
    refine ⟨.agg ((us.drop fd.offset).take n).toArray, fun W2 => ?_, by simp only [Is]; exact ⟨_, hL', rfl⟩⟩
    simp [execOp, ho, Instr.field, run_underlying ht, hf, hv, asAgg, part, Sx.run_isAgg P _ hu, hg, Sx.run_sizeOf hz, List.extract_toArray]
  · rename_i k hg; injection h with h; subst h
    simp only [IsL] at hL'
    obtain ⟨u, rr, hi, rfl, he⟩ := hL'
    have hn : n = 1 := by simpa using hlen.symm
    subst hn
    have hu' : us[fd.offset]? = some u := by
      have := congrArg (·[0]?) he
      simpa using this
    refine ⟨u, fun W2 => ?_, hi⟩
    simp [execOp, ho, Instr.field, run_underlying ht, hf, hv, asAgg, part, Sx.run_isAgg P _ hu, hg, hu']
  · cases h
theorem ixA_ok (r : Rep E P nt mk F S.T.get γ a W) {n m : Nat} {agg : Bool} {y i : Operand} (hc : cmpK P o.op = some (.ixA n m agg y i)) {l ks : List KV} {k : IntKind} {j : Nat} (h1 : ev F y = .a l) (h3 : ev F i = .v (.int k (.ofNat j))) (h4 : Nat.blt j n = true) (h2 : takeL m (dropL (j * m) l) = some ks) (h : one agg ks = some kv) : OkP P o a S.T.get γ kv := by
  obtain ⟨t, e, ho, ht, hz, hu, rfl⟩ := inv_ixA (cmpK1_old hc rfl)
  have hv := r.ev y; rw [h1] at hv; simp only [Is] at hv
  obtain ⟨us, hL, hv⟩ := hv
  have hi := r.ev i; rw [h3] at hi; simp only [Is] at hi
  obtain ⟨hL', hlen⟩ := part_spec hL h2
  have h1 : Int.ofNat j < (n : Int) := by exact Int.ofNat_lt.2 (blt_lt h4)
  have hnj : ¬ n ≤ j := by have := blt_lt h4; omega
  unfold one at h
  split at h
  · rename_i hg; injection h with h; subst h
    refine ⟨.agg ((us.drop (j * m)).take m).toArray, fun W2 => ?_, by simp only [Is]; exact ⟨_, hL', rfl⟩⟩
    simp [execOp, ho, Instr.index, asIntOf, run_underlying ht, hv, hi, h1, hnj, part, Sx.run_isAgg P _ hu, hg, Sx.run_sizeOf hz, List.extract_toArray]
  · rename_i q hg; injection h with h; subst h
    simp only [IsL] at hL'
    obtain ⟨u, rr, hiu, rfl, he⟩ := hL'
    have hn : m = 1 := by simpa using hlen.symm
    subst hn
    have hu' : us[j]? = some u := by
      have := congrArg (·[0]?) he
      simpa using this
    refine ⟨u, fun W2 => ?_, hiu⟩
    simp [execOp, ho, Instr.index, asIntOf, run_underlying ht, hv, hi, h1, hnj, part, Sx.run_isAgg P _ hu, hg, hu', Sx.run_sizeOf hz]
  · cases h
theorem ext_ok (r : Rep E P nt mk F S.T.get γ a W) {y : Operand} {i : Nat} (hc : cmpK P o.op = some (.ext y i)) {l : List KV} (h1 : ev F y = .t l) (h : nth l i = some kv) : OkP P o a S.T.get γ kv := by
  have ho := inv_ext (cmpK1_old hc rfl)
  have hv := r.ev y; rw [h1] at hv; simp only [Is] at hv
  obtain ⟨us, hL, hv⟩ := hv
  rw [Sx.nth_eq] at h
  obtain ⟨u, hu, hi⟩ := hL.get h
  exact ⟨u, fun W2 => by simp [execOp, ho, Instr.extract, hv, hu], hi⟩
theorem mkfn_ok (r : Rep E P nt mk F S.T.get γ a W) {f : Fn} {p q : List Operand} (hc : cmpK P o.op = some (.mkfn f p q)) : OkP P o a S.T.get γ (.f f (evL F p) (evL F q)) := by
  obtain ⟨p', q', ho, rfl, rfl⟩ := inv_mkfn (cmpK1_old hc rfl)
  refine ⟨.func f (p'.map a.eval) (q'.map a.eval), fun W2 => by simp [execOp, ho, Instr.makeFunc], ?_⟩
  simp only [Is]
  exact ⟨_, _, r.evL _, r.evL _, by rw [← Array.toList_map, ← Array.toList_map, Array.toArray_toList, Array.toArray_toList]⟩
def notNil (T : Tr KO) : KV → Bool
  | .p _ _ => true
  | .q i ver _ => curB T i ver
  | .v (.pointer (some _)) => true
  | .v (.func (.func _) _ _) => true
  | .f (.func _) _ _ => true
  | .y _ => true
  | _ => false
theorem nilc_ok (r : Rep E P nt mk F S.T.get γ a W) {y : Operand} (hc : cmpK P o.op = some (.nilc y)) (h : notNil S.T (ev F y) = true) : OkP P o a S.T.get γ (ev F y) := by
  have ho := inv_nilc (cmpK1_old hc rfl)
  have hv := r.ev y
  refine ⟨a.eval y, ?_, hv⟩
  generalize ev F y = k at h hv
  unfold notNil at h
  split at h
  · simp only [Is] at hv; intro W2; simp [execOp, ho, hv.2]
  · have := q_at hv h; intro W2; simp [execOp, ho, this]
  · simp only [Is] at hv; intro W2; simp [execOp, ho, hv]
  · simp only [Is] at hv; intro W2; simp [execOp, ho, hv]
  · simp only [Is] at hv; obtain ⟨p, q, _, _, hv⟩ := hv; intro W2; simp [execOp, ho, hv]
  · simp only [Is] at hv; intro W2; simp [execOp, ho, hv.2]
  · cases h

def klen : KV → Option Nat
  | .s _ _ n _ => some n
  | .z _ _ n => some n
  | .w _ _ _ n => some n
  | .v (.slice _ n _) => some n
  | _ => none
theorem lenS_ok (r : Rep E P nt mk F S.T.get γ a W) {y : Operand} (hc : cmpK P o.op = some (.lenS y)) {n : Nat} (h : klen (ev F y) = some n) : OkP P o a S.T.get γ (.v (.int .i64 n)) := by
  obtain ⟨t, e, ho, ht⟩ := inv_lenS (cmpK1_old hc rfl)
  have hv : ∃ A c, a.eval y = .slice A n c := by
    have hv := r.ev y
    generalize ev F y = k at h hv
    unfold klen at h; split at h <;> first | (cases h; done) | (injection h with h; subst h)
    · simp only [Is] at hv; exact ⟨_, _, hv.2⟩
    · simp only [Is] at hv; exact ⟨_, hv.2⟩
    · simp only [Is] at hv; exact hv.1
    · simp only [Is] at hv; exact ⟨_, _, hv⟩
  obtain ⟨A, c, hv⟩ := hv
  exact ⟨.int .i64 n, fun W2 => by simp [execOp, ho, resolve, invoke, builtin, hv, Builtin.len_, run_underlying ht, goInt], by simp [Is]⟩

def ksub (F : Tr KV) (T : Tr KO) (sz : Nat) (lo hi : Option Operand) : KV → Option KV
  | .s i off n c => (match boundS F 0 lo, boundS F n hi with
    | some l, some h => (match Nat.ble l h, Nat.ble h c, Nat.beq c l with
      | true, true, true => some (.s i off (h - l) (c - l))
      | true, true, false => some (.s i (off + l * sz) (h - l) (c - l))
      | _, _, _ => none)
    | _, _ => none)
  | .w i ver o n => (match boundS F 0 lo, boundS F n hi, T.get i with
    | some l, some h, some (.grow _ sz' ver' _) => (match Nat.ble l h, Nat.ble h n, Nat.beq ver' ver, Nat.beq sz' sz with
      | true, true, true, true => some (.w i ver (o + l) (h - l))
      | _, _, _, _ => none)
    | _, _, _ => none)
  | .v (.slice none 0 0) => (match boundS F 0 lo, boundS F 0 hi with
    | some 0, some 0 => some (.v (.slice none 0 0))
    | _, _ => none)
  | .v (.slice (some ⟨g, off, none⟩) n c) => (match boundS F 0 lo, boundS F n hi with
    | some l, some h => (match Nat.ble l h, Nat.ble h c, Nat.beq c l with
      | true, true, true => some (.v (.slice (some ⟨g, off, none⟩) (h - l) (c - l)))
      | true, true, false => some (.v (.slice (some ⟨g, off + l * sz, none⟩) (h - l) (c - l)))
      | _, _, _ => none)
    | _, _ => none)
  | _ => none

theorem run_sub (r : Rep E P nt mk F S.T.get γ a W) {sz : Nat} {y : Operand} {lo hi : Option Operand} (hc : cmpK P o.op = some (.sub sz y lo hi)) {A : Option Addr} {n c l q : Nat} (hv : a.eval y = .slice A n c)
    (hl : boundS F 0 lo = some l) (hh : boundS F n hi = some q) (h1 : l ≤ q) (h2 : q ≤ c) (W2 : World) :
    (execOp a.eval o).run P W2 = .ok (.value (.slice (if c = l then A else A.map (·.add (l * sz))) (q - l) (c - l))) W2 := by
  have hl' := boundS_lo r (H := []) hl
  have e := Sx.lowA_eq (A := A) (c := c) (sz := sz) hl'
  rw [Int.toNat_natCast] at e
  rw [← e]
  refine runP_of r hc rfl ?_ W2
  simp only [xk, evS_slc hv, hl', boundS_hi r hh]
  refine ⟨⟨by omega, by omega, ?_⟩, rfl⟩
  cases hi with
  | none => trivial
  | some _ => simp only [Sx.capOk]; omega

theorem sub_ok (r : Rep E P nt mk F S.T.get γ a W) {sz : Nat} {y : Operand} {lo hi : Option Operand} (hc : cmpK P o.op = some (.sub sz y lo hi)) (h : ksub F S.T sz lo hi (ev F y) = some kv) : OkP P o a S.T.get γ kv := by
  have hv := r.ev y
  generalize ev F y = k at h hv
  unfold ksub at h
  split at h
  · rename_i i off n c
    simp only [Is] at hv
    split at h
    case h_2 => cases h
    rename_i l q hl hh
    split at h
    · rename_i b1 b2 b3
      injection h with h; subst h
      have b3 := Nat.eq_of_beq_eq_true b3
      refine ⟨_, run_sub r hc hv.2 hl hh (Nat.le_of_ble_eq_true b1) (Nat.le_of_ble_eq_true b2), ?_⟩
      rw [if_pos b3]; simp only [Is]; exact ⟨hv.1, by first | rfl | trivial⟩
    · rename_i b1 b2 b3
      injection h with h; subst h
      have b3 := Nat.ne_of_beq_eq_false b3
      refine ⟨_, run_sub r hc hv.2 hl hh (Nat.le_of_ble_eq_true b1) (Nat.le_of_ble_eq_true b2), ?_⟩
      rw [if_neg b3]; simp only [Is]; exact ⟨hv.1, by simp [Sx.add_lit]⟩
    · cases h
  · rename_i i ver o' n
    split at h
    case h_2 => cases h
    rename_i l q t sz' ver' l0 hl hh he
    split at h
    case h_2 => cases h
    rename_i b1 b2 b3 b4
    injection h with h; subst h
    have b3 := Nat.eq_of_beq_eq_true b3; have b4 := Nat.eq_of_beq_eq_true b4
    have b1 := Nat.le_of_ble_eq_true b1; have b2 := Nat.le_of_ble_eq_true b2
    subst b3; subst b4
    obtain ⟨A, hv', hle, hA⟩ := w_at hv he
    refine ⟨_, run_sub r hc hv' hl hh b1 (by omega), ?_⟩
    simp only [Is]
    by_cases e : (γ i).c - o' = l
    · rw [if_pos e]
      exact ⟨⟨_, _, rfl⟩, .inl ⟨t, sz', ver', l0, he, Nat.le_refl _, fun _ => ⟨A, by rw [Nat.sub_sub], by omega, fun hlt => by omega⟩⟩⟩
    · rw [if_neg e]
      refine ⟨⟨_, _, rfl⟩, .inl ⟨t, sz', ver', l0, he, Nat.le_refl _, fun _ => ⟨A.add (l * sz'), by rw [Nat.sub_sub]; rfl, by omega, fun hlt => ?_⟩⟩⟩
      rw [hA (by omega), Sx.add_lit, Nat.add_mul, Nat.add_assoc]
  · simp only [Is] at hv
    split at h
    · rename_i hl hh
      injection h with h; subst h
      refine ⟨_, run_sub r hc hv hl hh (Nat.le_refl _) (Nat.le_refl _), ?_⟩
      simp [Is]
    · cases h
  · rename_i g off n c
    simp only [Is] at hv
    split at h
    case h_2 => cases h
    rename_i l q hl hh
    split at h
    · rename_i b1 b2 b3
      injection h with h; subst h
      have b3 := Nat.eq_of_beq_eq_true b3
      refine ⟨_, run_sub r hc hv hl hh (Nat.le_of_ble_eq_true b1) (Nat.le_of_ble_eq_true b2), ?_⟩
      rw [if_pos b3]; simp only [Is]
    · rename_i b1 b2 b3
      injection h with h; subst h
      have b3 := Nat.ne_of_beq_eq_false b3
      refine ⟨_, run_sub r hc hv hl hh (Nat.le_of_ble_eq_true b1) (Nat.le_of_ble_eq_true b2), ?_⟩
      rw [if_neg b3]; simp [Is, Sx.add_lit]
    · cases h
  · cases h

def nb : Bool → Bool → Bool
  | true, b => !b
  | false, b => b

def knil (T : Tr KO) (k : NK) (v : KV) : Option Bool := match k, v with
  | .p, .p _ _ => some false
  | .p, .q i ver _ => (match curB T i ver with | true => some false | false => none)
  | .p, .v (.pointer A) => some A.isNone
  | .s, .s _ _ _ _ => some false
  | .s, .w i ver _ _ => (match curB T i ver with | true => some false | false => none)
  | .s, .v (.slice A _ _) => some A.isNone
  | .m, .m _ => some false
  | .m, .v (.map r) => some r.isNone
  | .f, .f _ _ _ => some false
  | .f, .y _ => some false
  | .f, .v (.func _ _ _) => some false
  | .f, .v .nilFunc => some true
  | _, _ => none
theorem knil_spec {T : Tr KO} {k : NK} {kv : KV} {v : Value} {b : Bool} (h : knil T k kv = some b) (hi : Is T.get γ kv v) : Sx.nilV k v = some b := by
  unfold knil at h
  split at h
  · simp only [Is] at hi; rw [hi.2]; exact h
  · split at h
    · rename_i hc; rw [q_at hi hc]; exact h
    · cases h
  · simp only [Is] at hi; rw [hi]; exact h
  · simp only [Is] at hi; rw [hi.2]; exact h
  · split at h
    · rename_i hc
      obtain ⟨t, sz, l, e⟩ := curB_spec hc
      obtain ⟨A, hv, _⟩ := w_at hi e
      rw [hv]; exact h
    · cases h
  · simp only [Is] at hi; rw [hi]; exact h
  · simp only [Is] at hi; rw [hi.2]; exact h
  · simp only [Is] at hi; rw [hi]; exact h
  · simp only [Is] at hi; obtain ⟨p, q, _, _, hi⟩ := hi; rw [hi]; exact h
  · simp only [Is] at hi; rw [hi.2]; exact h
  · simp only [Is] at hi; rw [hi]; exact h
  · simp only [Is] at hi; rw [hi]; exact h
  · cases h
theorem nilOf_of {k : NK} {v : Value} {b : Bool} (h : Sx.nilV k v = some b) : Sx.nilOf k [] (svOf v) = some b ∧ Sx.nilOf k [] (svc v) = some b := by
  unfold Sx.nilV at h
  split at h <;> first | (cases h; done) | exact ⟨h, h⟩
theorem isnil_ok (r : Rep E P nt mk F S.T.get γ a W) {k : NK} {neg : Bool} {y : Operand} (hc : cmpK P o.op = some (.isnil k neg y)) {b : Bool} (h : knil S.T k (ev F y) = some b) : OkP P o a S.T.get γ (.v (.bool (nb neg b))) := by
  have hv := knil_spec h (r.ev y)
  refine okP_of r hc rfl ?_
  obtain ⟨q1, q2⟩ := nilOf_of hv
  have : Sx.nilOf k [] (Sx.ev (SL a []).F y) = some b := by
    rcases nundef (a := a) (x := y) (by intro e; rw [e] at hv; cases k <;> simp [undef, Sx.nilV] at hv) with ⟨d, rfl, hd⟩ | hn
    · show Sx.nilOf k [] (Sx.lk (allF 0 a.tmps.toList) d) = _
      rw [(lk_SL a d).1 _ hd]; exact q1
    · cases y with
      | tmp d => exact absurd rfl (hn d)
      | const c => exact q2
      | global g => cases k <;> simp [Act.eval, Sx.nilV] at hv <;> (subst hv; rfl)
      | func f => cases k <;> simp [Act.eval, Sx.nilV] at hv <;> (subst hv; rfl)
  simp only [xk]
  have e2 : (SL a []).H = [] := rfl
  rw [e2, this]
  cases neg <;> rfl

def keqs : List CK → List KV → List KV → Option Bool
  | [], [], [] => some true
  | .int k :: ks, .v (.int j a) :: l, .v (.int i b) :: m => (match kEq j k, kEq i k, keqs ks l m with | true, true, some r => some (a == b && r) | _, _, _ => none)
  | .bool :: ks, .v (.bool a) :: l, .v (.bool b) :: m => (match keqs ks l m with | some r => some (a == b && r) | _ => none)
  | .str :: ks, .v (.string a) :: l, .v (.string b) :: m => (match keqs ks l m with | some r => some (a.toList == b.toList && r) | _ => none)
  | _, _, _ => none
theorem keqs_spec {h : KH} : ∀ (ks : List CK) (l m : List KV) (us ws : List Value) {r : Bool}, keqs ks l m = some r → IsL h γ l us → IsL h γ m ws → Sx.eqVs ks us ws = some r := by
  intro ks
  induction ks with
  | nil =>
    intro l m us ws r e hl hm
    unfold keqs at e
    split at e <;> first | (cases e; done) | skip
    · simp only [IsL] at hl hm; subst hl; subst hm
      exact e
    all_goals (rename_i h; cases h)
  | cons c ks ih =>
    intro l m us ws r e hl hm
    unfold keqs at e
    split at e <;> first | (cases e; done) | skip
    · rename_i h; cases h
    · rename_i h; injection h with q1 q2; subst q1; subst q2
      simp only [IsL, Is] at hl hm
      obtain ⟨_, us', rfl, hl, rfl⟩ := hl
      obtain ⟨_, ws', rfl, hm, rfl⟩ := hm
      split at e
      · rename_i h1 h2 h3
        have := ih _ _ us' ws' h3 hl hm
        injection e with e; subst e
        simp only [Sx.eqVs, h1, h2, this]
      · cases e
    · rename_i h; injection h with q1 q2; subst q1; subst q2
      simp only [IsL, Is] at hl hm
      obtain ⟨_, us', rfl, hl, rfl⟩ := hl
      obtain ⟨_, ws', rfl, hm, rfl⟩ := hm
      split at e
      · rename_i h3
        have := ih _ _ us' ws' h3 hl hm
        injection e with e; subst e
        simp only [Sx.eqVs, this]
      · cases e
    · rename_i h; injection h with q1 q2; subst q1; subst q2
      simp only [IsL, Is] at hl hm
      obtain ⟨_, us', rfl, hl, rfl⟩ := hl
      obtain ⟨_, ws', rfl, hm, rfl⟩ := hm
      split at e
      · rename_i h3
        have := ih _ _ us' ws' h3 hl hm
        injection e with e; subst e
        simp only [Sx.eqVs, this]
      · cases e
theorem eqa_ok (r : Rep E P nt mk F S.T.get γ a W) {neg : Bool} {ks : List CK} {y z : Operand} (hc : cmpK P o.op = some (.eqa neg ks y z)) {l m : List KV} (h1 : ev F y = .a l) (h2 : ev F z = .a m) {b : Bool} (h : keqs ks l m = some b) : OkP P o a S.T.get γ (.v (.bool (nb neg b))) := by
  obtain ⟨t, t', ho, hk, hg, hagg⟩ := inv_eqa (cmpK1_old hc rfl)
  have hv := r.ev y; rw [h1] at hv; simp only [Is] at hv
  obtain ⟨us, hu, hv⟩ := hv
  have hv' := r.ev z; rw [h2] at hv'; simp only [Is] at hv'
  obtain ⟨ws, hw, hv'⟩ := hv'
  have run := fun W2 => (Sx.eqKs_run 6 t ks 9994 hk W2 us ws b (keqs_spec ks l m us ws h hu hw)).1 hagg
  cases neg with
  | true =>
    refine ⟨.bool (!b), fun W2 => ?_, by simp [Is, nb]⟩
    have := run W2
    simp [execOp, ho, hv, hv', run_eqGuard_agg W2 _ t y z _ _ hg, run_neq_struct, this]
  | false =>
    refine ⟨.bool b, fun W2 => ?_, by simp [Is, nb]⟩
    have := run W2
    simp [execOp, ho, hv, hv', run_eqGuard_agg W2 _ t y z _ _ hg, run_eql_struct, this]
end
end Go.Kx
