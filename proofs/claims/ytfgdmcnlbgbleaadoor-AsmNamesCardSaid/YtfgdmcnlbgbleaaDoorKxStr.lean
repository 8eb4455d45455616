/- The runner: a string ranged over. -/
import Derived.Test.YtfgdmcnlbgbleaaDoorKxByte
set_option linter.unusedSimpArgs false
set_option linter.unusedVariables false
set_option linter.unnecessarySimpa false
namespace Go.Kx
open Go
open Go.Sx (Grow Keep XC XS XI XK CK NK cmp theOrder Jump Ran SV SO kEq cmpK cmpK0 cmpK1 isNew pureK readK xk xk_sound ResK ResP ResR Res svc nth takeL dropL szT isAggT zeroT zeroV bytesT keyK splice)

section
open Go.Sx
theorem inv_rngS {P : Program} {op : Op} {x : Operand} (h : cmpK1 P op = some (.rngS x)) : ∃ t, op = .range t x ∧ P.underlying t = some .string := by
  unfold cmpK1 cmpCall1 at h
  repeat' (split at h)
  all_goals first | (cases h; done) | (injection h with h; injection h with h1; subst h1; exact ⟨_, rfl, by assumption⟩)
theorem inv_nxtS {P : Program} {op : Op} {x : Operand} (h : cmpK1 P op = some (.nxtS x)) : op = .next x true := by
  unfold cmpK1 cmpCall1 at h
  repeat' (split at h)
  all_goals first | (cases h; done) | (injection h with h; injection h with h1; subst h1; rfl)
end
def knxtS (S : KS) : KV → KA
  | .p i 0 => (match S.T.get i with
    | some (.str s pos) => (match Nat.blt pos s.size with
      | true => (match Utf8.decode s pos with
        | (c, w) => fi (Int.ofNat pos) fun p => fi (Int.ofNat c) fun c => (match setE S i (.str s (pos + w)) with
          | some S' => some (.t [.v (.bool true), .v (.int .i64 p), .v (.int .i32 c)], S')
          | none => none))
      | false => some (.t [.v (.bool false)], S))
    | _ => none)
  | _ => none
section
variable {E : KE} {P : Program} {nt : Nat} {mk : List Nat} {F : Tr KV} {S S' : KS} {γ : Nat → Gh} {a : Act} {W : World} {o : Oper} {kv : KV} {x : XK}
theorem rngS_ok (r : Rep E P nt mk F S.T.get γ a W) {y : Operand} (hc : cmpK P o.op = some (.rngS y)) {s : ByteArray} (hs : kstr (ev F y) = some s) {i : Nat} (h : newE S (.str s 0) = some (i, S')) : OkW E P o a W S.T.get γ (.p i 0) S' := by
  obtain ⟨t, ho, hu⟩ := inv_rngS (cmpK1_of hc rfl)
  have hv := kstr_is hs (r.ev y)
  obtain ⟨hn, ek⟩ := newE_get h
  have hh := r.heap.new hn (.stringIter s 0) (.str s 0) ⟨W.heap.size, 0, 0⟩ rfl (heap_alloc_new W _)
  refine ⟨.pointer (some ⟨W.heap.size, 0, none⟩), W.alloc (.stringIter s 0), upd γ i ⟨W.heap.size, 0, 0⟩, .inl ?_, ?_, by rw [ek]; exact Ext.new hn _ _, by rw [ek]; exact hh⟩
  · simp [execOp, ho, hv, Instr.range, run_underlying hu]
  · simp only [Is]
    exact ⟨⟨.str s 0, by rw [ek, upd_self], rfl⟩, by rw [upd_self]⟩
theorem nxtS_ok (r : Rep E P nt mk F S.T.get γ a W) {y : Operand} (hc : cmpK P o.op = some (.nxtS y)) (h : knxtS S (ev F y) = some (kv, S')) : OkW E P o a W S.T.get γ kv S' := by
  have ho := inv_nxtS (cmpK1_of hc rfl)
  have hy := r.ev y
  unfold knxtS at h
  split at h
  case h_2 => cases h
  rename_i i e
  rw [e] at hy
  simp only [Is] at hy
  obtain ⟨_, hy⟩ := hy
  split at h
  case h_2 => cases h
  rename_i s pos hl
  have hb : W.heap[(γ i).g]? = some (.stringIter s pos) := r.heap.ents i _ hl
  have hg : (getObj (γ i).g).run P W = .ok (.stringIter s pos) W := by simp [getObj, Sem.run, hb]
  split at h
  · rename_i hlt
    have hlt : pos < s.size := by simpa using hlt
    split at h
    rename_i c w hdec
    rw [fi_eq, fi_eq] at h
    split at h
    case h_2 => cases h
    rename_i S1 hS
    injection h with h; injection h with h1 h2; subst h1; subst h2
    have ek := setE_get hS
    have hx : Ext S.T.get γ (upd S.T.get i (some (.str s (pos + w)))) (upd γ i (γ i)) := Ext.fixd hl rfl rfl rfl
    have hs := MapKept.heap_set (o' := .stringIter s (pos + w)) hb
    have hp := r.heap.put (W' := { W with heap := W.heap.setIfInBounds (γ i).g (.stringIter s (pos + w)) }) hx (by simp) rfl rfl rfl
      (fun j hj hne => hs.2 j fun q => hne _ hl (by rw [q]; rfl))
      (fun g hg => by
        have : (γ i).g = g := by simpa [KO.fp] using hg
        subst this
        exact ⟨.inl ⟨_, hl, rfl⟩, by simpa using (r.heap.fresh i _ _ hl rfl).2⟩)
      hs.1
    rw [upd_id] at hx hp
    have hset : (setObj (γ i).g (.stringIter s (pos + w))).run P W = .ok () { W with heap := W.heap.setIfInBounds (γ i).g (.stringIter s (pos + w)) } := by simp [setObj, Sem.run, hb]
    refine ⟨.tuple #[.bool true, goInt pos, .int .i32 c], _, γ, .inl ?_, ?_, by rw [ek]; exact hx, by rw [ek]; exact hp⟩
    · simp [execOp, ho, hy, Instr.next, hg, hlt, hdec, hset]
    · simp only [Is]
      exact ⟨[.bool true, goInt pos, .int .i32 c], IsL.cons (by simp [Is]) (IsL.cons (by simp [Is, goInt]) (IsL.cons (by simp [Is]) IsL.nil)), rfl⟩
  · rename_i hlt
    have hlt : ¬ pos < s.size := fun q => by
      have : pos.blt s.size = true := by simpa using q
      rw [this] at hlt; cases hlt
    injection h with h; injection h with h1 h2; subst h1; subst h2
    refine ⟨.tuple #[.bool false], W, γ, .inl ?_, ?_, Ext.refl _ _, r.heap⟩
    · simp [execOp, ho, hy, Instr.next, hg, hlt]
    · simp only [Is]
      exact ⟨[.bool false], IsL.cons (by simp [Is]) IsL.nil, rfl⟩
end
end Go.Kx
