/- The runner, last part: a table of functions made small, and that it is the program's. -/
import Derived.Test.YtfgdmcnlbgbleaaDoorKxTop
set_option linter.unusedSimpArgs false
set_option linter.unusedVariables false
set_option linter.unnecessarySimpa false
namespace Go.Kx
open Go
open Go.Sx (XC cmpF szT isAggT fnOk CallsV)

def rsOf (P : Program) : List ResultVar → Option (List RV)
  | [] => some []
  | .tmp t :: l => (match rsOf P l with | some r => some (.tmp t :: r) | none => none)
  | .cell t ty :: l => (match P.underlying ty, szT P ty, rsOf P l with
    | some _, some n, some r => some (.cell t ty n (isAggT P ty) :: r)
    | _, _, _ => none)
theorem rsOf_ok {P : Program} : ∀ {l : List ResultVar} {r : List RV}, rsOf P l = some r → RsOk P l r
  | [], r, h => by simp [rsOf] at h; subst h; trivial
  | .tmp t :: l, r, h => by
    simp only [rsOf] at h
    split at h
    · rename_i r' hr; injection h with h; subst h; exact ⟨rfl, rsOf_ok hr⟩
    · cases h
  | .cell t ty :: l, r, h => by
    simp only [rsOf] at h
    split at h
    · rename_i d n r' hd hn hr; injection h with h; subst h; exact ⟨⟨rfl, rfl, by rw [hd]; rfl, hn, rfl⟩, rsOf_ok hr⟩
    · cases h
def mkFI (P : Program) (f : FuncId) : Option FI := match P.funcs[f]? with
  | some fn => (match fnOk P f, cmpF P fn, rsOf P fn.results.toList with
    | true, some xc, some rs => some ⟨xc, fn.ntmps, rs⟩
    | _, _, _ => none)
  | none => none
def tabOf : List (Nat × FI) → Option (Tr FI)
  | [] => some .e
  | (f, x) :: l => (match tabOf l with | some t => Tr.set 40 t f x | none => none)
theorem tabOf_mem : ∀ {L : List (Nat × FI)} {t : Tr FI}, tabOf L = some t → ∀ f fi, t.get f = some fi → (f, fi) ∈ L
  | [], t, h, f, fi, hg => by simp [tabOf] at h; subst h; simp [Tr.get] at hg
  | (g, x) :: L, t, h, f, fi, hg => by
    simp only [tabOf] at h
    split at h
    · rename_i t' ht
      rw [Tr.get_set 40 h] at hg
      by_cases e : f = g
      · rw [if_pos e] at hg; injection hg with hg; subst hg; subst e; exact .head _
      · rw [if_neg e] at hg; exact .tail _ (tabOf_mem ht f fi hg)
    · cases h
def ctB (P : Program) (t : TypeId) : Bool := match P.info? t, P.underlying t with
  | some i, some (.int _) => i.comparable
  | _, _ => false
theorem ctOk_of {P : Program} {ct : List TypeId} (h : ct.all (ctB P) = true) : CtOk P ct := fun t ht => by
  have := List.all_eq_true.1 h t ht
  unfold ctB at this
  split at this
  · rename_i i k hi hk; exact ⟨i, k, hi, this, hk⟩
  · cases this
def AllFI (P : Program) : List (Nat × FI) → Prop
  | [] => True
  | p :: l => mkFI P p.1 = some p.2 ∧ AllFI P l
theorem AllFI.mem {P : Program} : ∀ {L : List (Nat × FI)}, AllFI P L → ∀ p ∈ L, mkFI P p.1 = some p.2
  | _ :: _, h, _, .head _ => h.1
  | _ :: _, h, _, .tail _ m => AllFI.mem h.2 _ m
theorem tabOk_of {P : Program} {C : Cfg} {L : List (Nat × FI)} (hL : AllFI P L) (ht : tabOf L = some C.tab) (hct : C.ct.all (ctB P) = true) (hmemo : ∀ m ∈ C.memo, fnOk P m.f = true ∧ ∀ E : KE, SameG C E → E.Ok → ∀ W, Sx.Keep (· < E.N) E.b W → E.N ≤ W.heap.size → CallsV P m.f m.args W (MPost m W)) (hbld : ∀ B, C.bld = some B → BldOk P B) : TabOk P C where
  bld := hbld
  ct := ctOk_of hct
  memo := hmemo
  ok f fi hf := by
    have := hL.mem _ (tabOf_mem ht f fi hf)
    simp only [mkFI] at this
    split at this
    · rename_i fn hfn
      split at this
      · rename_i xc rs h1 h2 h3
        injection this with this; subst this
        exact ⟨fn, hfn, h1, h2, rfl, rsOf_ok h3⟩
      · cases this
    · cases this
def memoB (S : KS) : List RC → List KV → Bool
  | [], [] => true
  | .pl (.agg ⟨vs⟩) :: l, .a ks :: m => (match veqKs vs ks with | true => memoB S l m | false => false)
  | .pl x :: l, .v y :: m => (match veq x y with | true => memoB S l m | false => false)
  | _, _ => false
def saidM (rs : List RC) : KA → Bool
  | some (.t [_], _) => false
  | some (.t ks, S) => memoB S rs ks
  | some (k, S) => memoB S rs [k]
  | none => false
theorem memoB_spec {E : KE} {P : Program} {S : KS} {γ : Nat → Gh} {W : World} (hh : HeapOk E P S.T.get γ W) : ∀ (rs : List RC) (ks : List KV) {vs : List Value}, memoB S rs ks = true → IsL S.T.get γ ks vs → RcAll E.N W rs vs
  | [], [], vs, _, hL => by simp only [IsL] at hL; exact hL
  | .pl (.agg ⟨ws⟩) :: l, .a ks :: m, vs, h, hL => by
    simp only [memoB] at h
    split at h
    · rename_i e
      simp only [IsL] at hL
      obtain ⟨v, r, hv, hr, rfl⟩ := hL
      simp only [Is] at hv
      obtain ⟨us, hu, rfl⟩ := hv
      exact ⟨r, by rw [veqKs_spec e hu], memoB_spec hh l m h hr⟩
    · cases h
  | .pl x :: l, .v y :: m, vs, h, hL => by
    simp only [memoB] at h
    split at h
    · rename_i e
      simp only [IsL] at hL
      obtain ⟨v, r, hv, hr, rfl⟩ := hL
      simp only [Is] at hv
      subst hv
      exact ⟨r, by rw [veq_spec e], memoB_spec hh l m h hr⟩
    · cases h
theorem IsL.kcs {h : KH} {γ : Nat → Gh} : ∀ l : List Value, IsL h γ (l.map kc) l
  | [] => IsL.nil
  | v :: l => IsL.cons (kc_is v) (IsL.kcs l)
theorem memo_of {P : Program} {C0 C : Cfg} (hT : TabOk P C0) (hG : C0.G = C.G) (hq : ∀ w w', Sx.Fresh w w' → C.q w → C0.q w') {n : Nat} {m : Mem} (hok : fnOk P m.f = true) (h : saidM m.rs (callF C0 (run C0 n) m.f (m.args.map kc) ⟨.e, 0⟩) = true) :
    fnOk P m.f = true ∧ ∀ E : KE, SameG C E → E.Ok → ∀ W, Sx.Keep (· < E.N) E.b W → E.N ≤ W.heap.size → CallsV P m.f m.args W (MPost m W) := by
  refine ⟨hok, fun E hE hEok W hk hN => ?_⟩
  have hE' : (KE.mk W W.heap.size C0.G).Ok := by
    intro g l hgl
    have hgl : (g, l) ∈ E.G := by rw [← hE.1, ← hG]; exact hgl
    obtain ⟨h1, h2⟩ := hEok g l hgl
    refine ⟨Nat.lt_of_lt_of_le h1 hN, fun j u hj => ?_⟩
    have := h2 j u hj
    unfold World.cell? at this ⊢
    rw [hk.block g h1]; exact this
  have hS : SameG C0 (KE.mk W W.heap.size C0.G) := ⟨rfl, rfl, hq _ _ (by rw [hE.2.1] at hk; exact hk) hE.2.2⟩
  have hh : HeapOk ⟨W, W.heap.size, C0.G⟩ P (⟨.e, 0⟩ : KS).T.get (fun _ => ⟨0, 0, 0⟩) W := ⟨Sx.Keep.refl _ _, Nat.le_refl _, fun i e hi => by simp [Tr.get] at hi, fun i e g hi => by simp [Tr.get] at hi, fun i j e e' g _ hi => by simp [Tr.get] at hi⟩
  cases hc : callF C0 (run C0 n) m.f (m.args.map kc) ⟨.e, 0⟩ with
  | none => rw [hc] at h; simp [saidM] at h
  | some p =>
    obtain ⟨kv, S'⟩ := p
    obtain ⟨_, hcv⟩ := callF_ok hE' hS hT (sd_all hE' hS hT n) hc hh (IsL.kcs m.args)
    refine hcv.mono fun v W' ⟨γ', h1, _, h3⟩ => ⟨h3.keep, ?_⟩
    rw [hc] at h
    have one : memoB S' m.rs [kv] = true → ∃ vs, v = Sx.tupOf vs ∧ RcAll W.heap.size W' m.rs vs := fun hb => ⟨[v], rfl, memoB_spec h3 _ _ hb (IsL.cons h1 IsL.nil)⟩
    cases kv with
    | t ks =>
      simp only [Is] at h1
      obtain ⟨us, hL, rfl⟩ := h1
      have hlen := hL.length
      match ks, us, hL, hlen, h with
      | [], [], hL, _, h => exact ⟨[], rfl, memoB_spec h3 _ _ h hL⟩
      | [k], [u], hL, _, h => simp [saidM] at h
      | k1 :: k2 :: ks, u1 :: u2 :: us, hL, _, h => exact ⟨u1 :: u2 :: us, rfl, memoB_spec h3 _ _ h hL⟩
    | _ => exact one h
def said (b : Bool) : KA → Bool
  | some (.v (.bool a), _) => a == b
  | _ => false
theorem said_spec {k : KA} {b : Bool} (h : said b k = true) : ∃ S', k = some (.v (.bool b), S') := by
  unfold said at h
  split at h
  · rename_i a S' ; simp at h; subst h; exact ⟨_, rfl⟩
  · cases h
end Go.Kx
