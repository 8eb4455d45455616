/- The runner, part 9: slices made. -/
import Derived.Test.YtfgdmcnlbgbleaaDoorKxMap
set_option linter.unusedSimpArgs false
set_option linter.unusedVariables false
set_option linter.unnecessarySimpa false
namespace Go.Kx
open Go
open Go.Sx (Grow Keep XC XS XI XK CK NK cmp theOrder Jump Ran SV SO kEq cmpK cmpK0 cmpK1 isNew pureK readK xk xk_sound ResK ResP ResR Res svc nth takeL dropL szT isAggT zeroT zeroV bytesT keyK splice)

def repV : Nat → List Value → List Value
  | 0, _ => []
  | c + 1, z => z ++ repV c z
theorem repV_length : ∀ (c : Nat) (z : List Value), (repV c z).length = c * z.length
  | 0, z => by simp [repV]
  | c + 1, z => by simp [repV, repV_length c z, Nat.add_mul, Nat.add_comm]
theorem repV_get : ∀ (c : Nat) (z : List Value) (j : Nat), j < c * z.length → (repV c z)[j]? = z[j % z.length]?
  | 0, z, j, h => by simp at h
  | c + 1, z, j, h => by
    simp only [repV]
    by_cases hj : j < z.length
    · rw [List.getElem?_append_left hj, Nat.mod_eq_of_lt hj]
    · have hj : z.length ≤ j := by omega
      rw [List.getElem?_append_right hj, repV_get c z _ (by rw [Nat.add_mul] at h; omega)]
      rw [Nat.mod_eq_sub_mod hj]
theorem made_repV (z : Array Value) (c : Nat) (hz : 0 < z.size) : (madeCells z (c * z.size)).toList = repV c z.toList := by
  apply List.ext_getElem?
  intro j
  by_cases hj : j < c * z.size
  · rw [repV_get c z.toList j (by simpa using hj)]
    have hm : j % z.size < z.size := Nat.mod_lt _ hz
    simp [madeCells, hj, hm]
  · have h1 : (repV c z.toList).length = c * z.size := by simpa using repV_length c z.toList
    rw [List.getElem?_eq_none (by simp [madeCells]; omega), List.getElem?_eq_none (by omega)]

def kmkslc (S : KS) (t : TypeId) (sz bytes : Nat) (z : List Value) : KV → KV → KA
  | .v (.int _ (.ofNat l)), .v (.int _ (.ofNat c)) => (match Nat.ble l c, Nat.ble (bytes * c) 281474976710656, Nat.ble c 9223372036854775807 with
    | true, true, true => (match Nat.beq l c with
      | true => (match newE S (.cells t ((repV c z).map .v)) with | some (i, S') => some (.s i 0 c c, S') | none => none)
      | false => (match newE S (.grow t sz 0 ((repV l z).map .v)) with | some (i, S') => some (.w i 0 0 l, S') | none => none))
    | _, _, _ => none)
  | _, _ => none
section
variable {E : KE} {P : Program} {nt : Nat} {mk : List Nat} {F : Tr KV} {S S' : KS} {γ : Nat → Gh} {a : Act} {W : World} {o : Oper} {kv : KV} {x : XK}
theorem repV_take (z : List Value) : ∀ (l c : Nat), l ≤ c → (repV c z).take (l * z.length) = repV l z
  | 0, c, _ => by simp [repV]
  | l + 1, 0, h => by omega
  | l + 1, c + 1, h => by
    have e : (l + 1) * z.length = z.length + l * z.length := by rw [Nat.add_mul]; omega
    simp only [repV]
    rw [e, List.take_append, List.take_of_length_le (by omega)]
    congr 1
    rw [show z.length + l * z.length - z.length = l * z.length by omega]
    exact repV_take z l c (by omega)
theorem mkslc_ok (r : Rep E P nt mk F S.T.get γ a W) {t : TypeId} {sz bytes : Nat} {z : List Value} {y1 y2 : Operand} (hc : cmpK P o.op = some (.mkslc t sz bytes z y1 y2)) (h : kmkslc S t sz bytes z (ev F y1) (ev F y2) = some (kv, S')) : OkW E P o a W S.T.get γ kv S' := by
  obtain ⟨T, ho, hT, hsz, hby, hz, hzl, h0⟩ := inv_mkslc (cmpK1_of hc rfl)
  have hv1 := r.ev y1; have hv2 := r.ev y2
  generalize ev F y1 = p1 at h hv1
  generalize ev F y2 = p2 at h hv2
  unfold kmkslc at h
  split at h
  case h_2 => cases h
  rename_i k1 l k2 c
  simp only [Is] at hv1 hv2
  split at h
  case h_2 => cases h
  rename_i b1 b2 b3
  have b1 := Nat.le_of_ble_eq_true b1; have b2 := Nat.le_of_ble_eq_true b2; have b3 := Nat.le_of_ble_eq_true b3
  unfold szT at hsz; unfold bytesT at hby; unfold zeroT at hz
  cases hi : P.info? t with
  | none => rw [hi] at hsz; cases hsz
  | some inf =>
  rw [hi] at hsz hby hz
  simp only [Option.map_some, Option.some.injEq] at hsz hby
  subst hby
  dsimp only at hz
  split at hz
  case h_2 => cases hz
  rename_i zv hzv
  injection hz with hz
  have hzs : zv.cells.size = sz := by rw [← hzl, ← hz]; simp
  have hb2 : (inf.bytes : Int) * ((c : Nat) : Int) ≤ 281474976710656 := by
    have : ((inf.bytes * c : Nat) : Int) ≤ 281474976710656 := by omega
    rwa [Int.natCast_mul] at this
  have hrun := run_make (P := P) W T t inf zv hT hi hzv k1 k2 (l : Nat) (c : Nat) (by omega) (by omega) hb2 (by omega)
  simp only [Int.toNat_natCast] at hrun
  rw [hsz] at hrun
  have hcs : (madeCells zv.cells (c * sz)).toList = repV c z := by
    have := made_repV zv.cells c (by omega)
    rw [hzs, hz] at this; exact this
  have hex : (execOp a.eval o).run P W = .ok (.value (.slice (some ⟨W.heap.size, 0, none⟩) l c)) (W.alloc (.cells (madeCells zv.cells (c * sz)) t)) := by
    simp only [execOp, ho, hv1, hv2]
    have e1 : (Int.ofNat l) = (l : Int) := rfl
    have e2 : (Int.ofNat c) = (c : Int) := rfl
    rw [e1, e2]
    simp [hrun]
  have hmc : madeCells zv.cells (c * sz) = (repV c z).toArray := by rw [← hcs]
  rw [hmc] at hex
  split at h
  · rename_i hlc
    have hlc := Nat.eq_of_beq_eq_true hlc
    subst hlc
    split at h
    case h_2 => cases h
    rename_i i S1 hS
    injection h with h; injection h with h1 h2; subst h1; subst h2
    obtain ⟨γ', hg, hf, hx, hh⟩ := newCells r.heap (IsL.vals (repV l z)) hS
    exact ⟨_, _, γ', .inl hex, by simp only [Is]; exact ⟨hf, by rw [hg]⟩, hx, hh⟩
  · rename_i hlc
    have hlc := Nat.ne_of_beq_eq_false hlc
    split at h
    case h_2 => cases h
    rename_i i S1 hS
    injection h with h; injection h with h1 h2; subst h1; subst h2
    obtain ⟨hn, ek⟩ := newE_get hS
    have hcl : c * sz = (repV c z).length := by rw [repV_length, hzl]
    have hx : Ext S.T.get γ (upd S.T.get i (some (.grow t sz 0 ((repV l z).map .v)))) (upd γ i ⟨W.heap.size, c, 0⟩) := Ext.new hn _ _
    have hh := r.heap.new hn (.cells (repV c z).toArray t) (.grow t sz 0 ((repV l z).map .v)) ⟨W.heap.size, c, 0⟩ rfl ⟨(repV c z).toArray, heap_alloc_new W _, by simp [repV_length, hzl]; exact Nat.mul_le_mul_right _ b1, by simp [hcl], ⟨by simp [maxLen]; omega, by show 0 < c; omega, fun _ => rfl⟩, by
      have : (repV c z).toArray.toList.take ((repV l z).map KV.v).length = repV l z := by
        simp only [List.length_map, repV_length]
        exact repV_take z l c b1
      show IsL _ _ _ ((List.drop 0 (repV c z).toArray.toList).take _)
      rw [List.drop_zero, this]
      exact IsL.vals _⟩
    refine ⟨_, _, upd γ i ⟨W.heap.size, c, 0⟩, .inl hex, ?_, by rw [ek]; exact hx, by rw [ek]; exact hh⟩
    simp only [Is]
    refine ⟨⟨_, _, rfl⟩, .inl ⟨t, sz, 0, _, by rw [ek, upd_self], Nat.le_refl _, fun _ => ?_⟩⟩
    rw [upd_self]
    exact ⟨⟨W.heap.size, 0, none⟩, by simp, by simpa using b1, fun _ => by simp⟩
end
end Go.Kx
