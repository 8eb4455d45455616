/- The runner, part 10: the run is sound. -/
import Derived.Test.YtfgdmcnlbgbleaaDoorKxRun
set_option linter.unusedSimpArgs false
set_option linter.unusedVariables false
set_option linter.unnecessarySimpa false
namespace Go.Kx
open Go
open Go.Sx (Grow Keep XC XS XI XK CK NK cmp cmpF cmpL cmpO cmpI theOrder Jump Ran SV SO kEq cmpK cmpK0 cmpK1 isNew pureK readK nth takeL dropL szT isAggT fnOk WF Post NoPanic CallsV endPostM wpS stepS cl tupOf)

def RsOk (P : Program) : List ResultVar → List RV → Prop
  | [], [] => True
  | .tmp t :: l, .tmp t' :: l' => t = t' ∧ RsOk P l l'
  | .cell t ty :: l, .cell t' ty' n agg :: l' => (t = t' ∧ ty = ty' ∧ (P.underlying ty).isSome = true ∧ szT P ty = some n ∧ agg = isAggT P ty) ∧ RsOk P l l'
  | _, _ => False
def RcAll (N : Nat) (W' : World) : List RC → List Value → Prop
  | [], vs => vs = []
  | .pl x :: l, vs => ∃ r, vs = x :: r ∧ RcAll N W' l r
  | .row t sz n xs :: l, vs => ∃ u r, vs = u :: r ∧ (W'.ownsRow N t sz u n xs ∧ 0 < n) ∧ RcAll N W' l r
  | .err t :: l, vs => ∃ g r, vs = .iface t (.pointer (some ⟨g, 0, none⟩)) :: r ∧ RcAll N W' l r
def MPost (m : Mem) (W : World) (v : Value) (W' : World) : Prop := Sx.Fresh W W' ∧ ∃ vs, v = tupOf vs ∧ RcAll W.heap.size W' m.rs vs
theorem veqKs_spec {h : KH} {γ : Nat → Gh} : ∀ {l : List Value} {ks : List KV} {vs : List Value}, veqKs l ks = true → IsL h γ ks vs → vs = l
  | [], [], vs, _, hL => by simp only [IsL] at hL; exact hL
  | x :: l, .v y :: m, vs, h, hL => by
    simp only [veqKs] at h
    split at h
    · rename_i e
      simp only [IsL] at hL
      obtain ⟨v, r, hv, hr, rfl⟩ := hL
      simp only [Is] at hv
      rw [hv, veqKs_spec h hr, veq_spec e]
    · cases h
theorem veqL_spec {h : KH} {γ : Nat → Gh} : ∀ (l : List Value) (ks : List KV) {vs : List Value}, veqL l ks = true → IsL h γ ks vs → vs = l
  | [], [], vs, _, hL => by simp only [IsL] at hL; exact hL
  | .agg ⟨ws⟩ :: l, .a ks :: m, vs, h, hL => by
    simp only [veqL] at h
    split at h
    · rename_i e
      simp only [IsL] at hL
      obtain ⟨v, r, hv, hr, rfl⟩ := hL
      simp only [Is] at hv
      obtain ⟨us, hu, rfl⟩ := hv
      rw [veqKs_spec e hu, veqL_spec l m h hr]
    · cases h
  | x :: l, .v y :: m, vs, h, hL => by
    simp only [veqL] at h
    split at h
    · rename_i e
      simp only [IsL] at hL
      obtain ⟨v, r, hv, hr, rfl⟩ := hL
      simp only [Is] at hv
      rw [hv, veqL_spec l m h hr, veq_spec e]
    · cases h
theorem findM_spec : ∀ {l : List Mem} {f : Nat} {args : List KV} {rs : List RC}, findM l f args = some rs → ∃ m ∈ l, m.f = f ∧ veqL m.args args = true ∧ m.rs = rs
  | [], _, _, _, h => by simp [findM] at h
  | m :: l, f, args, rs, h => by
    simp only [findM] at h
    split at h
    · rename_i e
      split at h
      · rename_i e2; injection h with h; exact ⟨m, by simp, Nat.eq_of_beq_eq_true e, e2, h⟩
      · obtain ⟨m', h1, h2⟩ := findM_spec h; exact ⟨m', by simp [h1], h2⟩
    · obtain ⟨m', h1, h2⟩ := findM_spec h; exact ⟨m', by simp [h1], h2⟩
structure TabOk (P : Program) (C : Cfg) : Prop where
  ok : ∀ f fi, C.tab.get f = some fi → ∃ fn, P.funcs[f]? = some fn ∧ fnOk P f = true ∧ cmpF P fn = some fi.xc ∧ fn.ntmps = fi.nt ∧ RsOk P fn.results.toList fi.rs
  ct : CtOk P C.ct
  memo : ∀ m ∈ C.memo, fnOk P m.f = true ∧ ∀ E : KE, SameG C E → E.Ok → ∀ W, Keep (· < E.N) E.b W → E.N ≤ W.heap.size → CallsV P m.f m.args W (MPost m W)
  bld : ∀ B, C.bld = some B → BldOk P B

theorem fg_set {F F' : Tr KV} {d : Nat} {v : KV} (h : Tr.set 40 F d v = some F') (n : Nat) : fg F' n = if n = d then v else fg F n := by
  unfold fg; rw [Tr.get_set 40 h]
  by_cases e : n = d
  · rw [if_pos e, if_pos e]
  · rw [if_neg e, if_neg e]

theorem argF_spec : ∀ (l : List KV) (n : Nat) (F F' : Tr KV), argF l n F = some F' → ∀ d, (∀ k, n ≤ d → l[d - n]? = some k → fg F' d = k) ∧ ((d < n ∨ n + l.length ≤ d) → fg F' d = fg F d)
  | [], n, F, F', h, d => by simp [argF] at h; subst h; exact ⟨fun k _ hk => by simp at hk, fun _ => rfl⟩
  | v :: l, n, F, F', h, d => by
    simp only [argF] at h
    split at h
    · rename_i F1 h1
      obtain ⟨h2, h3⟩ := argF_spec l (n + 1) F1 F' h d
      have h4 := fg_set h1 d
      refine ⟨fun k hn hk => ?_, fun hd => ?_⟩
      · by_cases e : d = n
        · subst e
          simp at hk; subst hk
          rw [h3 (.inl (by omega)), h4, if_pos rfl]
        · have e2 : d - n = (d - (n + 1)) + 1 := by omega
          rw [e2, List.getElem?_cons_succ] at hk
          exact h2 k (by omega) hk
      · simp at hd
        rw [h3 (by omega), h4, if_neg (by omega)]
    · cases h

section
variable {P : Program} {E : KE} {C : Cfg} {nt : Nat} {mk : List Nat} {F : Tr KV} {S S' : KS} {γ : Nat → Gh} {a : Act} {W : World}

theorem frame_begin {args : List KV} {vs : List Value} (hh : HeapOk E P S.T.get γ W) (hL : IsL S.T.get γ args vs) (hl : args.length ≤ nt) {F0 : Tr KV} (h : argF args 0 .e = some F0) :
    Rep E P nt [] F0 S.T.get γ { tmps := vs.toArray ++ Array.replicate (nt - vs.toArray.size) undef, defers := [] } W := by
  have hll := hL.length
  refine ⟨by simp; omega, fun d => ?_, rfl, by simp, hh⟩
  obtain ⟨h1, h2⟩ := argF_spec args 0 .e F0 h d
  cases hs : args[d]? with
  | some k =>
    rw [h1 k (Nat.zero_le _) (by simpa using hs)]
    obtain ⟨u, hu, hi⟩ := hL.get hs
    have hlt : d < vs.length := (List.getElem?_eq_some_iff.1 hu).1
    have e : (vs.toArray ++ Array.replicate (nt - vs.toArray.size) undef).getD d undef = u := by
      rw [Array.getD_eq_getD_getElem?, Array.getElem?_append_left (by simpa using hlt)]
      simp [hu]
    rw [e]; exact hi
  | none =>
    have hge : args.length ≤ d := List.getElem?_eq_none_iff.1 hs
    rw [h2 (.inr (by omega))]
    simp [fg, Tr.get, Is]

theorem run_loadVar {t : TypeId} {n : Nat} (hu : (P.underlying t).isSome = true) (hz : szT P t = some n) (A : Addr) (us : List Value) (hl : us.length = n) (W2 : World) (hc : ∀ j u, us[j]? = some u → W2.cell? (A.add j) = some u) :
    (isAggT P t = true → (loadVar t A).run P W2 = .ok (.agg us.toArray) W2) ∧ (isAggT P t = false → ∀ u, us = [u] → (loadVar t A).run P W2 = .ok u W2) := by
  have hlc := run_loadCells_list (P := P) W2 A us hc
  rw [hl] at hlc
  constructor
  · intro hg
    simp [loadVar, Sx.run_isAgg P t hu, hg, Sx.run_sizeOf hz, hlc]
  · intro hg u hus
    subst hus
    have h0 := hc 0 u rfl
    have : (A.add 0) = A := by simp [Addr.add]
    rw [this] at h0
    simp [loadVar, Sx.run_isAgg P t hu, hg, run_load, h0]

theorem rsv_spec (hE : E.Ok) (hh : HeapOk E P S.T.get γ W) {tmps : Array Value} (hf : ∀ d, Is S.T.get γ (fg F d) (tmps.getD d undef)) :
    ∀ (l : List ResultVar) (l' : List RV) (ks : List KV), RsOk P l l' → rsv E.G F S l' = some ks → ∃ vs, (∀ g : ResultVar → Sem Value, (∀ t, g (.tmp t) = pure (tmps.getD t undef)) → (∀ t ty, g (.cell t ty) = (do loadVar ty (← asAddr (tmps.getD t undef)))) → (l.mapM g : Sem (List Value)).run P W = .ok vs W) ∧ IsL S.T.get γ ks vs
  | [], [], ks, _, h => by simp [rsv] at h; subst h; exact ⟨[], fun _ _ _ => rfl, IsL.nil⟩
  | .tmp t :: l, .tmp t' :: l', ks, hr, h => by
    obtain ⟨rfl, hr⟩ := hr
    simp only [rsv] at h
    split at h
    · rename_i r hr2
      injection h with h; subst h
      obtain ⟨vs, h1, h2⟩ := rsv_spec hE hh hf l l' r hr hr2
      refine ⟨_ :: vs, fun g hg1 hg2 => ?_, IsL.cons (hf t) h2⟩
      rw [List.mapM_cons]
      simp only [hg1, Sem.run_bind, Sem.run_pure, Result.andThen_ok, h1 g hg1 hg2]
    · cases h
  | .cell t ty :: l, .cell t' ty' n agg :: l', ks, hr, h => by
    obtain ⟨⟨rfl, rfl, hu, hz, rfl⟩, hr⟩ := hr
    simp only [rsv] at h
    split at h
    case h_2 => cases h
    rename_i cs hcs
    split at h
    case h_2 => cases h
    rename_i v r h1v hr2
    injection h with h; subst h
    obtain ⟨vs, h1, h2⟩ := rsv_spec hE hh hf l l' r hr hr2
    obtain ⟨g0, off, us, hv, hl, hc, hL⟩ := rdp_spec hE hh (hf t) hcs
    obtain ⟨k1, k2⟩ := run_loadVar hu hz ⟨g0, off, none⟩ us hl W hc
    have ha : (asAddr (.pointer (some ⟨g0, off, none⟩)) : Sem Addr).run P W = .ok ⟨g0, off, none⟩ W := rfl
    unfold one at h1v
    split at h1v
    · rename_i hagg
      injection h1v with h1v; subst h1v
      refine ⟨_ :: vs, fun g hg1 hg2 => ?_, IsL.cons (by simp only [Is]; exact ⟨us, hL, rfl⟩) h2⟩
      rw [List.mapM_cons]
      simp only [hg2, hv, Sem.run_bind, Sem.run_pure, ha, k1 hagg, Result.andThen_ok, h1 g hg1 hg2]
    · rename_i k hagg
      injection h1v with h1v; subst h1v
      simp only [IsL] at hL
      obtain ⟨u, rr, hi, rfl, rfl⟩ := hL
      refine ⟨u :: vs, fun g hg1 hg2 => ?_, IsL.cons hi h2⟩
      rw [List.mapM_cons]
      simp only [hg2, hv, Sem.run_bind, Sem.run_pure, ha, k2 hagg u rfl, Result.andThen_ok, h1 g hg1 hg2]
    · cases h1v
  | [], _ :: _, _, hr, _ => hr.elim
  | .tmp _ :: _, [], _, hr, _ => hr.elim
  | .tmp _ :: _, .cell .. :: _, _, hr, _ => hr.elim
  | .cell .. :: _, [], _, hr, _ => hr.elim
  | .cell .. :: _, .tmp _ :: _, _, hr, _ => hr.elim

theorem tupK_is {ks : List KV} {vs : List Value} (h : IsL S.T.get γ ks vs) : Is S.T.get γ (tupK ks) (tupOf vs) := by
  match ks, vs, h with
  | [], vs, h => simp only [IsL] at h; subst h; simp only [tupK, Is]; exact ⟨[], IsL.nil, rfl⟩
  | [k], vs, h =>
    simp only [IsL] at h
    obtain ⟨v, r, hv, rfl, rfl⟩ := h
    exact hv
  | k :: k2 :: ks, vs, h =>
    have h' := h
    simp only [IsL] at h
    obtain ⟨v, r, hv, ⟨v2, r2, hv2, hr2, rfl⟩, rfl⟩ := h
    simp only [tupK, Is]
    exact ⟨_, h', rfl⟩

theorem run_results (hE : E.Ok) (hh : HeapOk E P S.T.get γ W) {tmps : Array Value} (hf : ∀ d, Is S.T.get γ (fg F d) (tmps.getD d undef)) {fn : Func} {l' : List RV} {ks : List KV} (hr : RsOk P fn.results.toList l') (h : rsv E.G F S l' = some ks) :
    ∃ v, (results fn tmps).run P W = .ok v W ∧ Is S.T.get γ (tupK ks) v := by
  unfold results
  have e : fn.results = fn.results.toList.toArray := by simp
  rw [e, List.mapM_toArray]
  simp only [Sem.run_bind, Sem.run_map]
  obtain ⟨vs, h1, h2⟩ := rsv_spec hE hh hf _ _ _ hr h
  refine ⟨tupOf vs, ?_, tupK_is h2⟩
  rw [h1 _ (fun _ => rfl) (fun _ _ => rfl)]
  simp only [Result.andThen_ok, Sem.run_pure]
  congr 1
  match vs with
  | [] => simp [tupOf]
  | [v] => simp [tupOf]
  | v :: u :: l => simp [tupOf]

theorem putObj_ok (hh : HeapOk E P S.T.get γ W) {i : Nat} {e e' : KO} (hi : S.T.get i = some e) (h1 : e.fix = true) (h2 : e'.fix = true) (hf : e.fp (γ i) = some (γ i).g) (hf' : ∀ g, e'.fp (γ i) = some g → g = (γ i).g) (o' : Obj) (hs : setE S i e' = some S')
    (he : ∀ h', Ext S.T.get γ h' γ → EntryOk P h' γ (fun g => (W.putObj (γ i).g o').heap[g]?) (γ i) e') : Ext S.T.get γ S'.T.get γ ∧ HeapOk E P S'.T.get γ (W.putObj (γ i).g o') := by
  have ek := setE_get hs
  have hx : Ext S.T.get γ (upd S.T.get i (some e')) γ := by
    have := Ext.fixd (γ := γ) hi h1 h2 (G := γ i) rfl (fun h => by rw [h] at hf; cases hf)
    rw [upd_id] at this; exact this
  rw [ek]
  refine ⟨hx, ?_⟩
  have := hh.put (W' := W.putObj (γ i).g o') (G' := γ i) (e' := e') (i := i) (by rw [upd_id]; exact hx) (by simp) rfl rfl rfl
    (fun j _ hj => World.putObj_heap_other (fun q => hj _ hi (by rw [hf, q]))) (fun g hg => by
      rw [hf' g hg]; exact ⟨.inl ⟨_, hi, hf⟩, by simpa using (hh.fresh _ _ _ hi hf).2⟩) (by rw [upd_id]; exact he _ hx)
  rw [upd_id] at this; exact this

theorem leaves_ok (hE : E.Ok) {fn : Func} {l' : List RV} {ks : List KV} {tmps : Array Value} {R : Value → World → Prop} (hr : RsOk P fn.results.toList l') : ∀ (mk : List Nat) (S : KS) (W : World), HeapOk E P S.T.get γ W → (∀ d, Is S.T.get γ (fg F d) (tmps.getD d undef)) →
    shut S mk = some S' → rsv E.G F S' l' = some ks → (∀ v W', Is S'.T.get γ (tupK ks) v → Ext S.T.get γ S'.T.get γ → HeapOk E P S'.T.get γ W' → R v W') →
    LeavesInM (WF none) 0 P fn tmps (fun e w' => match e with | .returned v => R v w' | _ => False) (mk.map fun i => { target := .collected (γ i).g, args := #[] }) .returning W
  | [], S, W, hh, hf, h, hrs, hR => by
    simp only [shut, Option.some.injEq] at h; subst h
    obtain ⟨v, h1, h2⟩ := run_results hE hh hf hr hrs
    exact ⟨v, h1, hR v W h2 (Ext.refl _ _) hh⟩
  | i :: mk, S, W, hh, hf, h, hrs, hR => by
    simp only [shut] at h
    split at h
    case h_2 => cases h
    rename_i hi
    split at h
    case h_2 => cases h
    rename_i S1 hs
    have hb : W.heap[(γ i).g]? = some (.deferred (some [])) := hh.ents _ _ hi
    obtain ⟨x, hh1⟩ := putObj_ok hh hi rfl rfl rfl (fun g hg => by simp [KO.fp] at hg) (.deferred none) hs (fun _ _ => trivial)
    refine ⟨by simp, .inl ⟨(γ i).g, _, rfl, run_takeDeferred hb, ?_⟩⟩
    exact leaves_ok hE hr mk S1 _ hh1 (fun d => (hf d).ext x) h hrs fun v W' k1 k2 k3 => hR v W' k1 (x.trans k2) k3
end

def Sd (P : Program) (E : KE) (C : Cfg) (n : Nat) : Prop := ∀ (r : Option Nat) (Q : Post), Quiet Q → ∀ (h0 : KH) (γ0 : Nat → Gh) (nt : Nat) (k : List KI) (F : Tr KV) (S : KS) (mk : Option (List Nat)) (out : Out) (k' : List KJ) (γ : Nat → Gh) (a : Act) (W : World),
  (mk.isSome = true → r = none) → run C n nt k F S mk = some out →
  (∀ γ' a' W', Rep E P nt (out.mks.getD []) out.F out.S.T.get γ' a' W' → Ext h0 γ0 out.S.T.get γ' → (out.mks.isSome = mk.isSome) → Q out.e.at a' W') →
  Match (fun m k2 I => m < n → ∀ F2 S2 mk2 γ2 a2 W2, mk2.isSome = mk.isSome → run C m nt k2 F2 S2 mk2 = some out → Rep E P nt (mk2.getD []) F2 S2.T.get γ2 a2 W2 → Ext h0 γ0 S2.T.get γ2 → I a2 W2) k k' →
  Rep E P nt (mk.getD []) F S.T.get γ a W → Ext h0 γ0 S.T.get γ → den r P nt Q k' .normal a W

section
variable {P : Program} {E : KE} {C : Cfg} {n : Nat} {S S' : KS} {γ : Nat → Gh} {W : World}

def Gave (P : Program) (E : KE) (S : KS) (γ : Nat → Gh) (kv : KV) (S' : KS) (v : Value) (W' : World) : Prop := ∃ γ', Is S'.T.get γ' kv v ∧ Ext S.T.get γ S'.T.get γ' ∧ HeapOk E P S'.T.get γ' W'

theorem endM_quiet (P : Program) (fn : Func) (R : Value → World → Prop) : Quiet (endPostM P fn R) := ⟨fun _ _ _ h => h, fun _ _ _ h => h⟩

theorem HeapOk.freshK (k : HeapOk E P S.T.get γ W) {W' : World} (h : Sx.Fresh W W') : HeapOk E P S.T.get γ W' where
  keep := k.keep.trans ⟨h.os, h.tape, h.output, h.size, fun j hj => h.block j (Nat.lt_of_lt_of_le hj k.floor)⟩
  floor := Nat.le_trans k.floor h.size
  ents i e hi := (k.ents i e hi).mono (Ext.refl _ _) fun g hg => h.block g (k.fresh i e g hi hg).2
  fresh i e g hi hg := by have := k.fresh i e g hi hg; exact ⟨this.1, Nat.lt_of_lt_of_le this.2 h.size⟩
  dist := k.dist
theorem memoL_noRow {N : Nat} {W' : World} : ∀ {rs : List RC} {ks : List KV} {S1 : KS} {vs : List Value}, noRow rs = true → memoL S rs = some (ks, S1) → RcAll N W' rs vs → S1 = S ∧ ∀ (h : KH) (γ : Nat → Gh), IsL h γ ks vs
  | [], ks, S1, vs, _, hm, hv => by
    simp only [memoL, Option.some.injEq, Prod.mk.injEq] at hm
    obtain ⟨rfl, rfl⟩ := hm
    simp only [RcAll] at hv; subst hv
    exact ⟨rfl, fun _ _ => IsL.nil⟩
  | .pl x :: l, ks, S1, vs, hn, hm, hv => by
    simp only [memoL] at hm
    split at hm
    case h_2 => cases hm
    rename_i ks' S' hm'
    injection hm with hm; injection hm with h1 h2; subst h1; subst h2
    obtain ⟨r, rfl, hr⟩ := hv
    obtain ⟨rfl, hk⟩ := memoL_noRow (rs := l) hn hm' hr
    exact ⟨rfl, fun h γ => IsL.cons (kc_is _) (hk h γ)⟩
  | .row .. :: l, _, _, _, hn, _, _ => by simp [noRow] at hn
  | .err _ :: l, _, _, _, hn, _, _ => by simp [noRow] at hn
theorem noRow_vals : ∀ {rs : List RC}, noRow rs = true → ∃ vs0, (∀ N W', RcAll N W' rs vs0) ∧ ∀ N W' vs, RcAll N W' rs vs → vs = vs0
  | [], _ => ⟨[], fun _ _ => rfl, fun _ _ _ h => h⟩
  | .pl x :: l, h => by
    obtain ⟨vs0, h1, h2⟩ := noRow_vals (rs := l) h
    exact ⟨x :: vs0, fun N W' => ⟨vs0, rfl, h1 N W'⟩, fun N W' vs ⟨r, e, hr⟩ => by rw [e, h2 N W' r hr]⟩
  | .row .. :: l, h => by simp [noRow] at h
  | .err _ :: l, h => by simp [noRow] at h
theorem memoL_ok {W' : World} (hh : HeapOk E P S.T.get γ W) (hf : Sx.Fresh W W') : ∀ {rs : List RC} {ks : List KV} {S1 : KS} {vs : List Value}, memoL S rs = some (ks, S1) → RcAll W.heap.size W' rs vs →
    ∃ γ', IsL S1.T.get γ' ks vs ∧ Ext S.T.get γ S1.T.get γ' ∧ HeapOk E P S1.T.get γ' W'
  | [], ks, S1, vs, hm, hv => by
    simp only [memoL, Option.some.injEq, Prod.mk.injEq] at hm
    obtain ⟨rfl, rfl⟩ := hm
    simp only [RcAll] at hv; subst hv
    exact ⟨γ, IsL.nil, Ext.refl _ _, hh.freshK hf⟩
  | .pl x :: l, ks, S1, vs, hm, hv => by
    simp only [memoL] at hm
    split at hm
    case h_2 => cases hm
    rename_i ks' S' hm'
    injection hm with hm; injection hm with h1 h2; subst h1; subst h2
    obtain ⟨r, rfl, hr⟩ := hv
    obtain ⟨γ', h1, h2, h3⟩ := memoL_ok hh hf hm' hr
    exact ⟨γ', IsL.cons (kc_is _) h1, h2, h3⟩
  | .row t sz n xs :: l, ks, S1, vs, hm, hv => by
    simp only [memoL] at hm
    split at hm
    case h_2 => cases hm
    rename_i i S' ks' S2 hn hnew hm'
    injection hm with hm; injection hm with h1 h2; subst h1; subst h2
    obtain ⟨u, r, rfl, ⟨⟨hl, hown⟩, hpos⟩, hr⟩ := hv
    obtain ⟨_, hk⟩ := memoL_noRow hn hm' hr
    obtain ⟨hnone, ek⟩ := newE_get hnew
    rcases hown with ⟨_, h0⟩ | ⟨g, cap, cur, rfl, hge, hg, h1, h2, h3, h4⟩
    · omega
    have hx : Ext S.T.get γ (upd S.T.get i (some (.grow t sz 0 (xs.map .v)))) (upd γ i ⟨g, cap, 0⟩) := Ext.new hnone _ _
    have hlt := (Array.getElem?_eq_some_iff.1 hg).1
    have hp := hh.put (W' := W') (e' := .grow t sz 0 (xs.map .v)) (G' := ⟨g, cap, 0⟩) hx hf.size hf.os hf.tape hf.output (fun j hj _ => hf.block j hj)
      (fun g' hg' => by simp only [KO.fp, Option.some.injEq] at hg'; subst hg'; exact ⟨.inr hge, hlt⟩)
      ⟨cur, hg, by simp only [List.length_map, hl]; exact Nat.mul_le_mul_right _ h1, (Nat.zero_add _).trans h3.symm, ⟨h2, Nat.lt_of_lt_of_le hpos h1, fun _ => rfl⟩, by
        have e : cur.toList.take (xs.map KV.v).length = xs := by rw [List.length_map, hl]; exact h4
        show IsL _ _ _ ((List.drop 0 cur.toList).take _)
        rw [List.drop_zero, e]; exact IsL.vals _⟩
    refine ⟨upd γ i ⟨g, cap, 0⟩, IsL.cons ?_ (hk _ _), by rw [ek]; exact hx, by rw [ek]; exact hp⟩
    exact w_mk (by rw [ek, upd_self]) (upd_self _ _ _) h1
  | .err t :: l, ks, S1, vs, hm, hv => by
    simp only [memoL] at hm
    split at hm
    case h_2 => cases hm
    rename_i i S' ks' S2 hn hnew hm'
    injection hm with hm; injection hm with h1 h2; subst h1; subst h2
    obtain ⟨g, r, rfl, hr⟩ := hv
    obtain ⟨_, hk⟩ := memoL_noRow hn hm' hr
    obtain ⟨hnone, ek⟩ := newE_get hnew
    have hx : Ext S.T.get γ (upd S.T.get i (some .gone)) (upd γ i ⟨g, 0, 0⟩) := Ext.new hnone _ _
    have hp := hh.put (W' := W') (e' := .gone) (G' := ⟨g, 0, 0⟩) hx hf.size hf.os hf.tape hf.output (fun j hj _ => hf.block j hj) (fun g' hg' => by simp [KO.fp] at hg') trivial
    refine ⟨upd γ i ⟨g, 0, 0⟩, IsL.cons ?_ (hk _ _), by rw [ek]; exact hx, by rw [ek]; exact hp⟩
    simp only [Is]
    exact ⟨_, ⟨⟨.gone, by rw [ek, upd_self], rfl⟩, by rw [upd_self]⟩, rfl⟩
theorem callF_ok (hE : E.Ok) (hG : SameG C E) (hT : TabOk P C) (ih : Sd P E C n) {f : FuncId} {args : List KV} {kv : KV} (h : callF C (run C n) f args S = some (kv, S')) (hh : HeapOk E P S.T.get γ W) {vs : List Value} (hL : IsL S.T.get γ args vs) :
    fnOk P f = true ∧ CallsV P f vs W (Gave P E S γ kv S') := by
  unfold callF at h
  split at h
  · rename_i r hb
    unfold bldF at hb
    split at hb
    · cases hb
    rename_i B hB
    have hBk := hT.bld B hB
    split at hb
    · rename_i hf
      have hf := Nat.eq_of_beq_eq_true hf
      subst hf
      injection hb with hb; subst hb
      exact ⟨hBk.wok, kWrite_ok hBk hh hL h⟩
    · split at hb
      · rename_i hf
        have hf := Nat.eq_of_beq_eq_true hf
        subst hf
        injection hb with hb; subst hb
        exact ⟨hBk.sok, kString_ok hBk hh hL h⟩
      · cases hb
  split at h
  · rename_i rs hfm
    split at h
    case h_2 => cases h
    rename_i ks S1 hm
    injection h with h; injection h with h1 h2; subst h1; subst h2
    obtain ⟨m, hmem, rfl, hargs, rfl⟩ := findM_spec hfm
    obtain ⟨hok, hc⟩ := hT.memo m hmem
    have hvs := veqL_spec _ _ hargs hL
    subst hvs
    refine ⟨hok, (hc E hG hE W hh.keep hh.floor).mono fun v W' ⟨hf, us, hv, hR⟩ => ?_⟩
    obtain ⟨γ', h1, h2, h3⟩ := memoL_ok hh hf hm hR
    refine ⟨γ', ?_, h2, h3⟩
    subst hv
    have hll := h1.length
    match ks, us, h1, hll with
    | [], [], _, _ => simp only [tupK, tupOf, Is]; exact ⟨[], IsL.nil, rfl⟩
    | [k], [u], h1, _ => simp only [IsL] at h1; obtain ⟨_, _, h, rfl, e⟩ := h1; injection e with e1 e2; subst e1; exact h
    | k1 :: k2 :: ks, u1 :: u2 :: us, h1, _ => simp only [tupK, tupOf, Is]; exact ⟨_, h1, rfl⟩
  split at h
  · cases h
  rename_i fi hfi
  obtain ⟨fn, hf, hok, hc, hn, hr⟩ := hT.ok f fi hfi
  refine ⟨hok, ?_⟩
  split at h
  case h_2 => cases h
  rename_i F0 hF0 hlen
  have hlen := Nat.le_of_ble_eq_true hlen
  obtain ⟨c, hb, hcc⟩ := Sx.cmpF_spec hc
  have fin : ∀ (out : Out) (mk : List Nat), out.mks = some mk → (out.e = .nrm ∨ out.e = .ret) → run C n fi.nt [.c fi.xc] F0 S (some []) = some out → ∀ S'' ks, shut out.S mk = some S'' → rsv C.G out.F S'' fi.rs = some ks → CallsV P f vs W (Gave P E S γ (tupK ks) S'') := by
    intro out mk hmk he hrun S'' ks hsh hrs
    refine Sx.callsIn_WF (r := none) (n := 0) |>.1 ?_
    refine callsIn_of_wp_marks hf hb trivial ?_ rfl
    rw [hn]
    have hrep := frame_begin (nt := fi.nt) hh hL hlen hF0
    have := ih none (endPostM P fn (Gave P E S γ (tupK ks) S'')) (endM_quiet _ _ _) S.T.get γ fi.nt [.c fi.xc] F0 S (some []) out [.c fi.xc] γ _ W (fun _ => rfl) hrun ?_ ⟨rfl, trivial⟩ hrep (Ext.refl _ _) c (by rw [← hn]; exact hcc)
    · refine wpIn_mono this fun e a' w' hq => ?_
      cases e with
      | normal => exact hq
      | ret => exact hq
      | exit id => exact hq.elim
      | goto l => exact hq.elim
      | panic ch => exact hq.elim
      | outgrown => exact hq.elim
    · intro γ' a' W' rep' x' _
      rw [hmk] at rep'
      have := leaves_ok hE (fn := fn) (tmps := a'.tmps) (R := Gave P E S γ (tupK ks) S'') hr mk out.S W' rep'.heap rep'.frame hsh (by rw [← hG.1]; exact hrs) (fun v W'' k1 k2 k3 => ⟨γ', k1, x'.trans k2, k3⟩)
      have hd : a'.defers = mk.map fun i => { target := .collected (γ' i).g, args := #[] } := rep'.defers
      rw [← hd] at this
      rcases he with he | he <;> rw [he] <;> exact this
  split at h
  · cases h
  · rename_i e F1 S1 mk hne hrun
    split at h
    case h_2 => cases h
    rename_i S2 hsh
    split at h
    case h_2 => cases h
    rename_i ks hrs
    injection h with h; injection h with h1 h2; subst h1; subst h2
    refine fin ⟨e, F1, S1, some mk⟩ mk rfl ?_ hrun S2 ks hsh hrs
    cases e with
    | nrm => exact .inl rfl
    | ret => exact .inr rfl
    | exit id => exact (hne id rfl).elim
  · cases h
end
end Go.Kx
