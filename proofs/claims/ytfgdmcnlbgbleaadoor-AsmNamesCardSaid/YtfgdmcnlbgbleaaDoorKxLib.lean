/- The runner: bytes made of a string, and functions without a body. -/
import Derived.Test.YtfgdmcnlbgbleaaDoorKxStr
import Derived.Laws.IdiomStrings
import Derived.Laws.Externs
import Derived.Lib.Bytealg
import Derived.KernelRfl
set_option linter.unusedSimpArgs false
set_option linter.unusedVariables false
set_option linter.unnecessarySimpa false
namespace Go.Kx
open Go
open Go.Sx (Grow Keep XC XS XI XK CK NK cmp theOrder Jump Ran SV SO kEq cmpK cmpK0 cmpK1 isNew pureK readK xk xk_sound ResK ResP ResR Res svc nth takeL dropL szT isAggT zeroT zeroV bytesT keyK splice)

section
open Go.Sx
theorem inv_s2b {P : Program} {op : Op} {t : TypeId} {x : Operand} (h : cmpK1 P op = some (.s2b t x)) : ∃ src dst, op = .convert src dst x ∧ P.underlying src = some .string ∧ P.underlying dst = some (.slice t) ∧ P.underlying t = some (.int .u8) := by
  unfold cmpK1 cmpCall1 at h
  repeat' (split at h)
  all_goals first | (cases h; done) | (injection h with h; injection h with h1 h2; subst h1; subst h2; exact ⟨_, _, rfl, by assumption, by assumption, by assumption⟩)
theorem inv_lib {P : Program} {op : Op} {w : Nat} {l : List Operand} (h : cmpK1 P op = some (.lib w l)) : ∃ c f, op = .call c ∧ c.callee = .value (.func f) ∧ libOf P f = some w ∧ c.args.toList = l := by
  unfold cmpK1 cmpCall1 at h
  repeat' (split at h)
  all_goals first | (cases h; done) | (injection h with h; injection h with h1 h2; subst h1; subst h2; exact ⟨_, _, rfl, by assumption, by assumption, rfl⟩)
theorem libOf_some {P : Program} {f : FuncId} {w : Nat} (h : libOf P f = some w) : ∃ fn, P.funcs[f]? = some fn ∧ fn.body = none ∧ fn.origin = "" ∧ ((w = 0 ∧ fn.name = "internal/bytealg.IndexByteString") ∨ (w = 1 ∧ fn.name = "internal/bytealg.CountString") ∨ (w = 2 ∧ fn.name = "internal/bytealg.IndexString")) := by
  unfold libOf at h
  split at h
  case h_2 => cases h
  rename_i fn hf
  split at h
  · cases h
  rename_i hb
  split at h
  case h_2 => cases h
  rename_i ho
  split at h
  · rename_i hn; injection h with h; exact ⟨fn, hf, hb, ho, .inl ⟨h.symm, hn⟩⟩
  · rename_i hn; injection h with h; exact ⟨fn, hf, hb, ho, .inr (.inl ⟨h.symm, hn⟩)⟩
  · rename_i hn; injection h with h; exact ⟨fn, hf, hb, ho, .inr (.inr ⟨h.symm, hn⟩)⟩
  · cases h
end
def bytesK : List UInt8 → List KV
  | [] => []
  | b :: l => .v (.int .u8 b.toNat) :: bytesK l
theorem bytesK_eq : ∀ l : List UInt8, bytesK l = (l.map fun b => Value.int .u8 b.toNat).map .v
  | [] => rfl
  | b :: l => by simp only [bytesK, List.map_cons, bytesK_eq l]
def fstB (l : List UInt8) (c : UInt8) (i : Nat) : Option Nat := match l with
  | [] => none
  | b :: l => match Nat.beq b.toNat c.toNat with
    | true => some i
    | false => fstB l c (i + 1)
def cntB (l : List UInt8) (c : UInt8) (n : Nat) : Nat := match l with
  | [] => n
  | b :: l => match Nat.beq b.toNat c.toNat with
    | true => cntB l c (n + 1)
    | false => cntB l c n
def klib (S : KS) : Nat → List KV → KA
  | 0, [.v (.string ⟨⟨l⟩⟩), .v (.int .u8 (.ofNat c))] => (match fstB l (UInt8.ofNat c) 0 with
    | some i => giveI .i64 S (some (i : Nat))
    | none => giveI .i64 S (some (-1)))
  | 1, [.v (.string ⟨⟨l⟩⟩), .v (.int .u8 (.ofNat c))] => giveI .i64 S (some (cntB l (UInt8.ofNat c) 0 : Nat))
  | _, _ => none
theorem u8_beq (a b : UInt8) : (a == b) = Nat.beq a.toNat b.toNat := by
  rw [Bool.eq_iff_iff]
  simp only [beq_iff_eq]
  constructor
  · intro h; subst h; simp
  · intro h; exact UInt8.toNat_inj.1 (Nat.eq_of_beq_eq_true h)
theorem fstB_eq (c : UInt8) : ∀ (l : List UInt8) (k : Nat), (fstB l c k = none ∧ Lib.indexByte l c = -1) ∨ (∃ n : Nat, fstB l c k = some (n + k) ∧ Lib.indexByte l c = n)
  | [], k => .inl ⟨rfl, rfl⟩
  | b :: l, k => by
    simp only [fstB, Lib.indexByte, u8_beq]
    cases hb : Nat.beq b.toNat c.toNat with
    | true => exact .inr ⟨0, by simp, by simp⟩
    | false =>
      simp only [Bool.false_eq_true, if_false]
      rcases fstB_eq c l (k + 1) with ⟨h1, h2⟩ | ⟨n, h1, h2⟩
      · left; rw [h2]; exact ⟨h1, by simp⟩
      · right
        refine ⟨n + 1, by rw [h1]; congr 1; omega, ?_⟩
        rw [h2]
        have : ((n : Int) == -1) = false := by rw [beq_eq_false_iff_ne]; omega
        rw [this]; simp
theorem cntB_eq (c : UInt8) : ∀ (l : List UInt8) (n : Nat), cntB l c n = n + Lib.countByte l c
  | [], n => by simp [cntB, Lib.countByte]
  | b :: l, n => by
    simp only [cntB, Lib.countByte, List.count_cons, u8_beq]
    cases hb : Nat.beq b.toNat c.toNat with
    | true => simp only [if_true]; rw [cntB_eq c l (n + 1)]; unfold Lib.countByte; omega
    | false => simp only [Bool.false_eq_true, if_false]; rw [cntB_eq c l n]; unfold Lib.countByte; omega

theorem find0 {fn : Func} (ho : fn.origin = "") (hn : fn.name = "internal/bytealg.IndexByteString") : Extern.findNext fn = none ∧ Extern.find fn = some Extern.BytealgIndexByte.indexByte := by
  cases fn
  dsimp only at ho hn
  subst ho; subst hn
  exact ⟨by kernel_rfl, by kernel_rfl⟩
theorem find1 {fn : Func} (ho : fn.origin = "") (hn : fn.name = "internal/bytealg.CountString") : Extern.findNext fn = none ∧ Extern.find fn = some Extern.BytealgCount.count := by
  cases fn
  dsimp only at ho hn
  subst ho; subst hn
  exact ⟨by kernel_rfl, by kernel_rfl⟩

section
open Go.Sx
theorem inv_clr {P : Program} {op : Op} {n : Nat} {z : List Value} {x : Operand} (h : cmpK1 P op = some (.clr n z x)) : ∃ c t e, op = .call c ∧ c.callee = .builtin .clear ∧ c.args.toList = [x] ∧ c.argTypes.toList = [t] ∧ P.underlying t = some (.slice e) ∧ szT P e = some n ∧ zeroT P e = some z ∧ z.length = n ∧ 0 < n := by
  unfold cmpK1 cmpCall1 at h
  repeat' (split at h)
  all_goals first | (cases h; done) | (rename_i e1 e2 e3 e4; injection h with h; injection h with h1 h2 h3; subst h1; subst h2; subst h3; exact ⟨_, _, _, rfl, by assumption, by assumption, by assumption, by assumption, by assumption, by assumption, by simpa using e4, Nat.succ_pos _⟩)
end
section
open Go.Sx
theorem inv_mrk {P : Program} {op : Op} {x : Operand} (h : cmpK1 P op = some (.mrk x)) : ∃ t e0 e, op = .convert t t x ∧ P.underlying t = some (.slice e0) ∧ P.underlying t = some (.slice e) ∧ P.underlying e = some (.int .u8) := by
  unfold cmpK1 cmpCall1 at h
  repeat' (split at h)
  all_goals first | (cases h; done) | (rename_i e6 e7; injection h with h; injection h with h1; subst h1; have e6 := eq_of_beq e6; subst e6
                                       exact ⟨_, _, _, rfl, by assumption, by assumption, by assumption⟩)
end
def kmrkE (S : KS) (i : Nat) (v : KV) : KA := match S.T.get i with
  | some (.frz t l) => (match setE S i (.frz t l) with | some S' => some (v, S') | none => none)
  | some (.cells t l) => (match setE S i (.frz t l) with | some S' => some (v, S') | none => none)
  | _ => none
def kmrk (S : KS) : KV → KA
  | .z i 0 n => kmrkE S i (.z i 0 n)
  | .s i 0 n c => kmrkE S i (.s i 0 n c)
  | _ => none
def kclr (S : KS) (sz : Nat) (z : List Value) (x : KV) : KA := match klen x with
  | some 0 => some (.t [], S)
  | some (n + 1) => (match sadr S.T x sz 0, okCs ((repV (n + 1) z).map .v) with
    | some p, true => (match wrp S.T p ((repV (n + 1) z).map .v) with
      | some (i, e) => (match setE S i e with | some S' => some (.t [], S') | none => none)
      | none => none)
    | _, _ => none)
  | none => none
section
variable {E : KE} {P : Program} {nt : Nat} {mk : List Nat} {F : Tr KV} {S S' : KS} {γ : Nat → Gh} {a : Act} {W : World} {o : Oper} {kv : KV} {x : XK}
theorem klib_some {w : Nat} {ks : List KV} (h : klib S w ks = some (kv, S')) : ∃ (l : List UInt8) (c : Nat), ks = [.v (.string ⟨⟨l⟩⟩), .v (.int .u8 (.ofNat c))] ∧ S' = S ∧
    ((w = 0 ∧ kv = .v (.int .i64 (Lib.indexByte l (UInt8.ofNat c)))) ∨ (w = 1 ∧ kv = .v (.int .i64 (Lib.countByte l (UInt8.ofNat c))))) := by
  unfold klib at h
  split at h
  · rename_i l c
    rcases fstB_eq (UInt8.ofNat c) l 0 with ⟨h1, h2⟩ | ⟨n, h1, h2⟩
    · rw [h1] at h; dsimp only at h
      obtain ⟨q, hq, e⟩ := giveI_some h
      injection hq with hq; subst hq
      injection e with e1 e2; subst e1; subst e2
      exact ⟨l, c, rfl, rfl, .inl ⟨rfl, by rw [h2]⟩⟩
    · rw [h1] at h; dsimp only at h
      obtain ⟨q, hq, e⟩ := giveI_some h
      injection hq with hq; subst hq
      injection e with e1 e2; subst e1; subst e2
      exact ⟨l, c, rfl, rfl, .inl ⟨rfl, by rw [h2]; simp⟩⟩
  · rename_i l c
    obtain ⟨q, hq, e⟩ := giveI_some h
    injection hq with hq; subst hq
    injection e with e1 e2; subst e1; subst e2
    exact ⟨l, c, rfl, rfl, .inr ⟨rfl, by rw [cntB_eq]; simp⟩⟩
  · cases h
theorem evL_two {l : List Operand} {k1 k2 : KV} {v1 v2 : Value} (r : Rep E P nt mk F S.T.get γ a W) (h : evL F l = [.v v1, .v v2]) : l.map a.eval = [v1, v2] := by
  have := r.evL l
  rw [h] at this
  simp only [IsL, Is] at this
  obtain ⟨_, _, rfl, ⟨_, _, rfl, rfl, rfl⟩, e⟩ := this
  exact e
theorem lib_ok (r : Rep E P nt mk F S.T.get γ a W) {w : Nat} {args : List Operand} (hc : cmpK P o.op = some (.lib w args)) (h : klib S w (evL F args) = some (kv, S')) : S' = S ∧ OkP P o a S.T.get γ kv := by
  obtain ⟨c, f, ho, hcal, hl, rfl⟩ := inv_lib (cmpK1_of hc rfl)
  obtain ⟨fn, hf, hb, hor, hname⟩ := libOf_some hl
  obtain ⟨l, n, hks, rfl, hr⟩ := klib_some h
  refine ⟨rfl, ?_⟩
  have hargs := evL_two (k1 := .u) (k2 := .u) r hks
  have hargs' : c.args.map a.eval = #[.string ⟨⟨l⟩⟩, .int .u8 (.ofNat n)] := by
    rw [← Array.toList_inj]; simpa using hargs
  have run : ∀ (e : Array Value → Sem Value) (v : Value), (∀ W2 : World, (e #[.string ⟨⟨l⟩⟩, .int .u8 (.ofNat n)]).run P W2 = .ok v W2) → fn.name ≠ "runtime.NumGoroutine" → Extern.findNext fn = none → Extern.find fn = some e → ∀ W2 : World, (execOp a.eval o).run P W2 = .ok (.value v) W2 := by
    intro e v he hnn hfn hfd W2
    simp only [execOp, ho, resolve, hcal, Act.eval, hargs', Deferred.ofValue, Sem.run_bind, Sem.run_pure, Result.andThen_ok, invoke, Array.append_empty, Array.empty_append]
    rw [run_callFunc_extern hf (by simpa using hnn) (by rw [hb]; rfl) hfn hfd, he W2]
    rfl
  have hn8 : ((Int.ofNat n).toNat.toUInt8) = UInt8.ofNat n := rfl
  rcases hr with ⟨rfl, rfl⟩ | ⟨rfl, rfl⟩
  · have hname : fn.name = "internal/bytealg.IndexByteString" := by
      rcases hname with ⟨_, h⟩ | ⟨h, _⟩ | ⟨h, _⟩
      · exact h
      · omega
      · omega
    obtain ⟨h1, h2⟩ := find0 hor hname
    exact ⟨_, run _ _ (fun W2 => Lib.run_indexByteString _ _ W2) (by rw [hname]; decide) h1 h2, by simp only [Is, hn8]⟩
  · have hname : fn.name = "internal/bytealg.CountString" := by
      rcases hname with ⟨h, _⟩ | ⟨_, h⟩ | ⟨h, _⟩
      · omega
      · exact h
      · omega
    obtain ⟨h1, h2⟩ := find1 hor hname
    exact ⟨_, run _ _ (fun W2 => Lib.run_countString _ _ W2) (by rw [hname]; decide) h1 h2, by simp only [Is, hn8]⟩

theorem s2b_ok (r : Rep E P nt mk F S.T.get γ a W) {t : TypeId} {y : Operand} (hc : cmpK P o.op = some (.s2b t y)) {l : List UInt8} (hs : kstr (ev F y) = some ⟨⟨l⟩⟩) {i : Nat} (h : newE S (.frz t (bytesK l)) = some (i, S')) : OkW E P o a W S.T.get γ (.z i 0 l.length) S' := by
  obtain ⟨src, dst, ho, hsrc, hdst, ht⟩ := inv_s2b (cmpK1_of hc rfl)
  have hv := kstr_is hs (r.ev y)
  obtain ⟨hn, ek⟩ := newE_get h
  have hrun := run_bytes_of_string (P := P) W src dst t ⟨⟨l⟩⟩ hsrc hdst ht
  have hd := r.heap.drawn (W' := W.drew) rfl rfl rfl rfl
  generalize grownCap W (ByteArray.size ⟨⟨l⟩⟩) 0 t = cap at hrun
  have hrow : (bytesRow ⟨⟨l⟩⟩ cap).toList.take l.length = l.map fun b => Value.int .u8 b.toNat := by
    unfold bytesRow
    simp only [Array.toList_append, Array.toList_map]
    rw [List.take_left' (by simp)]
  have hlen : (bytesK l).length = l.length := by rw [bytesK_eq]; simp
  have hsz : l.length ≤ (bytesRow ⟨⟨l⟩⟩ cap).size := by unfold bytesRow; simp
  have hh := hd.new hn (.cells (bytesRow ⟨⟨l⟩⟩ cap) t ((bytesRow ⟨⟨l⟩⟩ cap).size, (bytesRow ⟨⟨l⟩⟩ cap).size + 1)) (.frz t (bytesK l)) ⟨W.heap.size, 0, 0⟩ rfl
    ⟨_, _, heap_alloc_new W.drew _, by rw [hlen]; exact hsz, by rw [hlen, hrow, bytesK_eq]; exact IsL.vals _⟩
  refine ⟨_, _, upd γ i ⟨W.heap.size, 0, 0⟩, .inl (by simp only [execOp, ho, hv, Sem.run_bind, hrun, Result.andThen_ok, Sem.run_pure, Sem.run_map]; first | rfl | (simp; rfl)), ?_, by rw [ek]; exact Ext.new hn _ _, by rw [ek]; exact hh⟩
  simp only [Is]
  exact ⟨⟨.frz t (bytesK l), by rw [ek, upd_self], rfl⟩, _, by rw [upd_self]; rfl⟩
theorem klen_is {h : KH} {k : KV} {v : Value} {n : Nat} (e : klen k = some n) (hi : Is h γ k v) : ∃ A c, v = .slice A n c := by
  unfold klen at e; split at e <;> first | (cases e; done) | (injection e with e; subst e)
  · simp only [Is] at hi; exact ⟨_, _, hi.2⟩
  · simp only [Is] at hi; obtain ⟨_, c, hi⟩ := hi; exact ⟨_, _, hi⟩
  · simp only [Is] at hi; exact hi.1
  · simp only [Is] at hi; exact ⟨_, _, hi⟩
theorem zeroCells_repV (z : Array Value) (n : Nat) (hz : 0 < z.size) : (Builtin.zeroCells z n).toList = repV n z.toList := by
  have := repV_range z.toList n (by simpa using hz)
  unfold Builtin.zeroCells
  simpa using this
theorem clr_ok (r : Rep E P nt mk F S.T.get γ a W) {sz : Nat} {z : List Value} {y : Operand} (hc : cmpK P o.op = some (.clr sz z y)) (h : kclr S sz z (ev F y) = some (kv, S')) : OkW E P o a W S.T.get γ kv S' := by
  obtain ⟨c, t, e, ho, hcal, hargs, hts, ht, hsz, hz, hzl, hpos⟩ := inv_clr (cmpK1_of hc rfl)
  have hargs' : c.args = #[y] := by rw [← Array.toList_inj]; exact hargs
  have hts' : c.argTypes = #[t] := by rw [← Array.toList_inj]; exact hts
  have hx := r.ev y
  obtain ⟨zv, hzv, hzc⟩ := Sx.run_zero' hz
  have hT : ∀ h' g', Is h' g' (.t []) (.tuple #[]) := fun h' g' => by simp only [Is]; exact ⟨[], IsL.nil, rfl⟩
  unfold kclr at h
  split at h
  · rename_i hl
    obtain ⟨A, cc, hv⟩ := klen_is hl hx
    injection h with h; injection h with h1 h2; subst h1; subst h2
    refine ⟨.tuple #[], W, γ, .inl ?_, hT _ _, Ext.refl _ _, r.heap⟩
    cases A <;> simp [execOp, ho, resolve, invoke, builtin, hcal, hargs', hts', hv, Builtin.clear_, run_underlying ht]
  · rename_i n hl
    split at h
    case h_2 => cases h
    rename_i p hp hok
    split at h
    case h_2 => cases h
    rename_i i e' hw
    split at h
    case h_2 => cases h
    rename_i S1 hS
    injection h with h; injection h with h1 h2; subst h1; subst h2
    obtain ⟨A, cc, hv⟩ := klen_is hl hx
    obtain ⟨g0, o0, n0, c0, hv0, _, hpp⟩ := sadr_spec hx hp
    obtain ⟨g, off, cur, tt, hpv, hg, hfit, hxx, hh⟩ := wrp_ok r.heap hpp (IsL.vals (repV (n + 1) z)) hw hS
    injection hpv with hpv; injection hpv with hpv; injection hpv with q1 q2 q3
    rw [Nat.zero_mul, Nat.add_zero] at q2
    subst q1; subst q2
    rw [hv] at hv0; injection hv0 with q4 q5 q6; subst q5
    have h1c : ∀ u ∈ repV (n + 1) z, u.oneCell' = true := okCs_one (h := S.T.get) (γ := γ) hok (IsL.vals _)
    have hst := run_storeCells_at P g0 o0 tt (repV (n + 1) z) 0 cur W hg (by simpa using hfit) h1c
    have e2 : splice cur.toList o0 (repV (n + 1) z) = cur.toList.take (o0 + 0) ++ repV (n + 1) z ++ cur.toList.drop (o0 + 0 + (repV (n + 1) z).length) := by
      rw [Sx.splice_eq _ _ _ (by simpa using hfit)]; simp
    rw [← e2] at hst
    refine ⟨.tuple #[], _, γ, .inl ?_, hT _ _, hxx, hh⟩
    have hzc2 : (Builtin.zeroCells zv.cells (n + 1)).toList = repV (n + 1) z := by
      have := zeroCells_repV zv.cells (n + 1) (by rw [hzc]; simp; omega)
      rw [hzc] at this ⊢
      simpa using this
    subst q4
    simp [execOp, ho, resolve, invoke, builtin, hcal, hargs', hts', hv, Builtin.clear_, run_underlying ht, hzv, hzc2, hst]
  · cases h
theorem kmrkE_ok (hh : HeapOk E P S.T.get γ W) {i : Nat} {v : KV} (h : kmrkE S i v = some (kv, S')) : kv = v ∧ ∃ (cs : Array Value) (tt : TypeId), W.shape? (γ i).g = some (tt, cs.size) ∧ Ext S.T.get γ S'.T.get γ ∧ HeapOk E P S'.T.get γ (W.freeze ⟨(γ i).g, cs.size, none⟩ 1) := by
  have main : ∀ (e : KO) (tt : TypeId) (l : List KV) (cs : Array Value) (fz : Nat × Nat), S.T.get i = some e → e.fix = true → (∀ g, e.fp (γ i) = some g ↔ (γ i).g = g) → setE S i (.frz tt l) = some S' → W.heap[(γ i).g]? = some (.cells cs tt fz) → l.length ≤ cs.size → IsL S.T.get γ l (cs.toList.take l.length) →
      ∃ (cs : Array Value) (tt : TypeId), W.shape? (γ i).g = some (tt, cs.size) ∧ Ext S.T.get γ S'.T.get γ ∧ HeapOk E P S'.T.get γ (W.freeze ⟨(γ i).g, cs.size, none⟩ 1) := by
    intro e tt l cs fz hl hfix hfp hS hg hll hL
    have ek := setE_get hS
    have hlt := (Array.getElem?_eq_some_iff.1 hg).1
    have hx : Ext S.T.get γ (upd S.T.get i (some (.frz tt l))) (upd γ i (γ i)) := Ext.fixd hl hfix rfl rfl (fun h => by have h1 := (hfp (γ i).g).2 rfl; rw [h] at h1; cases h1)
    have hW' : (W.freeze ⟨(γ i).g, cs.size, none⟩ 1).heap[(γ i).g]? = some (.cells cs tt (if fz.1 == fz.2 then (cs.size, cs.size + 1) else (min fz.1 cs.size, max fz.2 (cs.size + 1)))) ∧ ∀ j, j ≠ (γ i).g → (W.freeze ⟨(γ i).g, cs.size, none⟩ 1).heap[j]? = W.heap[j]? := by
      unfold World.freeze
      rw [if_neg (by decide)]
      simp only [Array.getElem?_modify]
      exact ⟨by rw [hg]; simp, fun j hj => by rw [if_neg (Ne.symm hj)]⟩
    obtain ⟨hg', hoth⟩ := hW'
    have hsz : (W.freeze ⟨(γ i).g, cs.size, none⟩ 1).heap.size = W.heap.size := by unfold World.freeze; rw [if_neg (by decide)]; simp
    have hp := hh.put (W' := W.freeze ⟨(γ i).g, cs.size, none⟩ 1) (i := i) (e' := .frz tt l) (G' := γ i) hx (by rw [hsz]; exact Nat.le_refl _)
      (by unfold World.freeze; rw [if_neg (by decide)]) (by unfold World.freeze; rw [if_neg (by decide)]) (by unfold World.freeze; rw [if_neg (by decide)])
      (fun j hj hne => hoth j fun q => hne _ hl ((hfp j).2 q.symm))
      (fun g hg2 => ⟨.inl ⟨_, hl, (hfp g).2 (by simpa [KO.fp] using hg2)⟩, by simp only [KO.fp, Option.some.injEq] at hg2; subst hg2; rw [hsz]; exact hlt⟩)
      ⟨cs, _, hg', hll, hL.ext hx⟩
    rw [upd_id] at hp hx
    refine ⟨cs, tt, by unfold World.shape?; rw [hg], by rw [ek]; exact hx, by rw [ek]; exact hp⟩
  unfold kmrkE at h
  split at h
  · rename_i t l hl
    split at h
    case h_2 => cases h
    rename_i S1 hS
    injection h with h; injection h with h1 h2; subst h1; subst h2
    obtain ⟨cs, fz, hg, hll, hL⟩ := hh.ents i _ hl
    exact ⟨rfl, main _ t l cs fz hl rfl (fun g => by simp [KO.fp]) hS hg hll hL⟩
  · rename_i t l hl
    split at h
    case h_2 => cases h
    rename_i S1 hS
    injection h with h; injection h with h1 h2; subst h1; subst h2
    obtain ⟨cs, hg, hL⟩ := hh.ents i _ hl
    have hll := hL.length
    simp only [Array.length_toList] at hll
    exact ⟨rfl, main _ t l cs _ hl rfl (fun g => by simp [KO.fp]) hS hg (by omega) (by rw [List.take_of_length_le (by simp; omega)]; exact hL)⟩
  · cases h
theorem mrk_ok (r : Rep E P nt mk F S.T.get γ a W) {y : Operand} (hc : cmpK P o.op = some (.mrk y)) (h : kmrk S (ev F y) = some (kv, S')) : OkW E P o a W S.T.get γ kv S' := by
  obtain ⟨t, e0, e, ho, ht0, ht, hu⟩ := inv_mrk (cmpK1_of hc rfl)
  have hx := r.ev y
  have main : ∀ i n c, a.eval y = .slice (some ⟨(γ i).g, 0, none⟩) n c → ∀ v, kmrkE S i v = some (kv, S') → v = ev F y → OkW E P o a W S.T.get γ kv S' := by
    intro i n c hv v hk hvv
    obtain ⟨rfl, cs, tt, hshape, hxx, hp⟩ := kmrkE_ok r.heap hk
    refine ⟨_, _, γ, .inl ?_, (hx.ext hxx) |> (by rw [hvv]; exact ·), hxx, hp⟩
    simp [execOp, ho, hv, convert, run_underlying ht, run_underlying hu, markStringish, hshape]
  unfold kmrk at h
  split at h
  · rename_i i n he
    rw [he] at hx
    have hx' := hx
    simp only [Is] at hx'
    obtain ⟨_, c, hv⟩ := hx'
    exact main i n c hv _ h he.symm
  · rename_i i n c he
    rw [he] at hx
    have hx' := hx
    simp only [Is] at hx'
    exact main i n c hx'.2 _ h he.symm
  · cases h
end
end Go.Kx
