/- The runner, part 10: slices built; bytes and strings. -/
import Derived.Test.YtfgdmcnlbgbleaaDoorKxMake
set_option linter.unusedSimpArgs false
set_option linter.unusedVariables false
set_option linter.unnecessarySimpa false
namespace Go.Kx
open Go
open Go.Sx (Grow Keep XC XS XI XK CK NK cmp theOrder Jump Ran SV SO kEq cmpK cmpK0 cmpK1 isNew pureK readK xk xk_sound ResK ResP ResR Res svc nth takeL dropL szT isAggT zeroT zeroV bytesT keyK splice)

def partsS (sz : Nat) : List (Nat × Operand) → List (Nat × Nat × Operand)
  | [] => []
  | (i, x) :: l => (i * sz, sz, x) :: partsS sz l
theorem partsS_eq (sz : Nat) : ∀ l, partsS sz l = l.map fun p => (p.1 * sz, sz, p.2)
  | [] => rfl
  | (i, x) :: l => by simp only [partsS, List.map_cons, partsS_eq sz l]
def kbuildS (F : Tr KV) (S : KS) (t : TypeId) (len sz : Nat) (z : List Value) (ps : List (Nat × Operand)) : KA :=
  match kfill F ((repV len z).map .v) (partsS sz ps) with
  | some l => (match newE S (.cells t l) with | some (i, S') => some (.s i 0 len len, S') | none => none)
  | none => none
def toB : List KV → Option (List UInt8)
  | [] => some []
  | .v (.int .u8 (.ofNat n)) :: l => (match Nat.blt n 256, toB l with | true, some r => some (UInt8.ofNat n :: r) | _, _ => none)
  | _ => none
def kb2s (G : List (Nat × List Value)) (T : Tr KO) (y : KV) : Option KV := match rdS G T 1 y with
  | some (_, ks) => (match toB ks with | some l => some (.v (.string ⟨⟨l⟩⟩)) | none => none)
  | none => none

section
variable {E : KE} {P : Program} {nt : Nat} {mk : List Nat} {F : Tr KV} {S S' : KS} {γ : Nat → Gh} {a : Act} {W : World} {o : Oper} {kv : KV} {x : XK}

theorem repV_range (z : List Value) (n : Nat) (hz : 0 < z.length) : ((Array.range (n * z.length)).map (fun i => z.toArray[i % z.length]!)).toList = repV n z := by
  have := made_repV z.toArray n (by simpa using hz)
  simpa [madeCells] using this

theorem buildS_ok (r : Rep E P nt mk F S.T.get γ a W) {t : TypeId} {len sz : Nat} {z : List Value} {ps : List (Nat × Operand)} (hc : cmpK P o.op = some (.buildS t len sz z ps)) (h : kbuildS F S t len sz z ps = some (kv, S')) : OkW E P o a W S.T.get γ kv S' := by
  obtain ⟨T, parts, ho, ht, hn, hz, ⟨hzl, hpos, hmax⟩, rfl⟩ := inv_buildS (cmpK1_old hc rfl)
  obtain ⟨v, hv, hvc⟩ := Sx.run_zero hz W
  unfold kbuildS at h
  split at h
  case h_2 => cases h
  rename_i l hf
  split at h
  case h_2 => cases h
  rename_i i S1 hS
  injection h with h; injection h with h1 h2; subst h1; subst h2
  rw [partsS_eq] at hf
  obtain ⟨out, ho', hO⟩ := kfill_spec (place := fun i => some (i * sz, sz)) r parts.toList _ (repV len z) _ l (IsL.vals _) hf (by simp) (fun j q p e1 e2 => by
    simp at e2
    obtain ⟨x, y, hx, rfl⟩ := e2
    simp [hx] at e1; subst e1; simp)
  obtain ⟨γ', hg, hfx, hx, hh⟩ := newCells r.heap hO hS
  refine ⟨.slice (some ⟨W.heap.size, 0, none⟩) len len, W.alloc (.cells out.toList.toArray t), γ', .inl ?_, by simp only [Is]; exact ⟨hfx, by rw [hg]⟩, hx, hh⟩
  have e1 : (parts.map fun (i, x) => (i, a.eval x)).toList = parts.toList.map fun q => (q.1, a.eval q.2) := by simp
  have hmax' : ¬ len * sz > 2 ^ 24 := by omega
  subst hzl
  have hrange : (Array.range (len * z.length)).map (fun i => z.toArray[i % z.length]!) = (repV len z).toArray := by rw [← repV_range z len hpos]
  rcases Nat.eq_zero_or_pos (len * z.length) with h0 | h0
  · have hl0 : len = 0 := by
      rcases Nat.mul_eq_zero.1 h0 with h1 | h1
      · exact h1
      · omega
    subst hl0
    simp only [repV] at ho'
    simp only [execOp, ho, Instr.buildSlice, Sem.run_bind, Sem.run_pure, Result.andThen_ok, run_underlying ht, Sx.run_sizeOf hn, hmax', if_false, Nat.zero_mul, if_true, e1, Array.range_zero', List.map_toArray, List.map_nil]
    simp only [Sem.run_bind, Sem.run_pure, Result.andThen_ok, ho', newRow, run_newObj, Sem.run_map, Array.toArray_toList]
    rfl
  · have h0' : ¬ len * z.length = 0 := by omega
    simp only [execOp, ho, Instr.buildSlice, Sem.run_bind, Sem.run_pure, Result.andThen_ok, run_underlying ht, Sx.run_sizeOf hn, hmax', if_false, h0', hv, hvc, e1, List.size_toArray]
    simp only [Sem.run_bind, Sem.run_pure, Result.andThen_ok, hv, hvc, List.size_toArray, hrange, ho', newRow, run_newObj, Sem.run_map, Array.toArray_toList]
    rfl

theorem toB_spec {h : KH} : ∀ {ks : List KV} {l : List UInt8} {us : List Value}, toB ks = some l → IsL h γ ks us → us = Sx.bytesV ⟨⟨l⟩⟩
  | [], l, us, e, hL => by simp [toB] at e; subst e; simp [IsL] at hL; subst hL; simp [Sx.bytesV]
  | k :: ks, l, us, e, hL => by
    simp only [IsL] at hL
    obtain ⟨v, r, hv, hr, rfl⟩ := hL
    unfold toB at e
    split at e
    · rename_i q; cases q
    · rename_i n l' q
      injection q with q1 q2; subst q1; subst q2
      split at e
      case h_2 => cases e
      rename_i r' hb hr'
      injection e with e; subst e
      have hb : n < 256 := by simpa using hb
      have := toB_spec hr' hr
      simp only [Is] at hv
      subst hv
      rw [this]
      simp [Sx.bytesV, Nat.mod_eq_of_lt hb]
    · cases e
theorem b2s_ok (hE : E.Ok) (r : Rep E P nt mk F S.T.get γ a W) {y : Operand} (hc : cmpK P o.op = some (.b2s y)) (h : kb2s E.G S.T (ev F y) = some kv) : OkR P o a W S.T.get γ kv := by
  obtain ⟨t, t', e, ho, ht, he, ht'⟩ := inv_b2s (cmpK1_old hc rfl)
  unfold kb2s at h
  split at h
  case h_2 => cases h
  rename_i m ks hks
  split at h
  case h_2 => cases h
  rename_i l hl
  injection h with h; subst h
  obtain ⟨A, c, us, hv, hlen, hL, hA⟩ := rdS_spec hE r.heap (r.ev y) hks
  have hus := toB_spec hl hL
  refine ⟨.string ⟨⟨l⟩⟩, fun W2 hgr => ?_, by simp [Is]⟩
  have hrun : (Conv.bytesToString (.slice A m c)).run P W2 = .ok (.string ⟨⟨l⟩⟩) W2 := by
    rcases hA with ⟨rfl, rfl⟩ | ⟨B, rfl, hcell⟩
    · have : us = [] := List.eq_nil_of_length_eq_zero (by simpa using hlen)
      rw [this] at hus
      have hl0 : l = [] := by simpa [Sx.bytesV] using hus.symm
      subst hl0
      simp [Conv.bytesToString]; rfl
    · have hlc := run_loadCells_list (P := P) W2 B us fun j u hj => hgr.cell (hcell j u hj)
      rw [hlen, Nat.mul_one, hus, Sx.bytesV_map] at hlc
      rw [run_bytesToString W2 B m c _ hlc, Sx.bytes_fold]
  simp [execOp, ho, hv, convert, run_underlying ht, run_underlying ht', run_underlying he, hrun]
end
end Go.Kx
