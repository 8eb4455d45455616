/- The runner, part 11: rounds, loops over functions, regions; the run is sound. -/
import Derived.Test.YtfgdmcnlbgbleaaDoorKxSound
set_option linter.unusedSimpArgs false
set_option linter.unusedVariables false
set_option linter.unnecessarySimpa false
namespace Go.Kx
open Go
open Go.Sx (Grow Keep XC XS XI XK CK NK cmp cmpF cmpL cmpO cmpI cmpG theOrder Jump Ran SV SO kEq cmpK cmpK0 cmpK1 isNew pureK readK nth takeL dropL szT isAggT fnOk WF Post NoPanic CallsV endPostM wpS stepS cl tupOf)

section
variable {P : Program} {E : KE} {C : Cfg} {n nt : Nat} {mk : List Nat} {F : Tr KV} {S S' : KS} {γ : Nat → Gh} {a : Act} {W : World} {kv : KV}

theorem setPs_spec {h : KH} : ∀ (ps : List Nat) (ks : List KV) (vs : List Value) (F F1 : Tr KV) (t : Array Value), setPs F ps ks = some F1 → IsL h γ ks vs → (∀ p ∈ ps, p < t.size) → (∀ d, Is h γ (fg F d) (t.getD d undef)) →
    ps.length = vs.length ∧ (((ps.zip vs).foldl (fun t (p, v) => t.setIfInBounds p v) t).size = t.size) ∧ ∀ d, Is h γ (fg F1 d) (((ps.zip vs).foldl (fun t (p, v) => t.setIfInBounds p v) t).getD d undef)
  | [], [], vs, F, F1, t, h, hi, hp, hf => by
    simp [setPs] at h; subst h
    simp only [IsL] at hi; subst hi; exact ⟨rfl, rfl, hf⟩
  | [], _ :: _, _, _, _, _, h, _, _, _ => by simp [setPs] at h
  | _ :: _, [], _, _, _, _, h, _, _, _ => by simp [setPs] at h
  | p :: ps, k :: ks, vs, F, F1, t, h, hi, hp, hf => by
    simp only [setPs] at h
    split at h
    case h_2 => cases h
    rename_i F' hF'
    simp only [IsL] at hi
    obtain ⟨v, vs', h1, h2, rfl⟩ := hi
    obtain ⟨g1, g2, g3⟩ := setPs_spec ps ks vs' F' F1 (t.setIfInBounds p v) h h2 (fun q hq => by simpa using hp q (by simp [hq])) (fun d => by
      rw [fg_set hF' d]
      by_cases e : d = p
      · subst e
        have hlt := hp d (by simp)
        rw [if_pos rfl]
        simp only [Array.getD_eq_getD_getElem?, Array.getElem?_setIfInBounds_self_of_lt hlt, Option.getD_some]
        exact h1
      · rw [if_neg e]
        simp only [Array.getD_eq_getD_getElem?, Array.getElem?_setIfInBounds_ne (Ne.symm e)]
        rw [← Array.getD_eq_getD_getElem?]
        exact hf d)
    exact ⟨by simp [g1], by simpa using g2, by simpa using g3⟩

theorem roundF_ok (r : Option Nat) (ih : Sd P E C n) {i : Nat} {args : List KV} (h : roundF (run C n) i args S = some (kv, S')) (hh : HeapOk E P S.T.get γ W) {vs : List Value} (hL : IsL S.T.get γ args vs) :
    ∃ rec : Loop, W.heap[(γ i).g]? = some (.loop rec) ∧ vs.toArray.size = rec.params.size ∧ ∀ R : Ending → World → Prop, (∀ v W', Gave P E S γ kv S' v W' → R (.returned v) W') →
      RoundIn (WF r) 0 P (γ i).g rec.fn ((rec.params.zip vs.toArray).foldl (fun tmps (t, v) => tmps.setIfInBounds t v) rec.tmps) rec.assign rec.body W R := by
  unfold roundF at h
  split at h
  case h_2 => cases h
  rename_i nt F ps as bd hi
  split at h
  case h_2 => cases h
  rename_i F1 hF1 hps
  split at h
  case h_2 => cases h
  rename_i F2 S2 hrun1
  split at h
  case h_2 => cases h
  rename_i nt2 F2' ps2 as2 bd2 hi2
  split at h
  case h_2 => cases h
  rename_i S3 hs3
  split at h
  case h_2 => cases h
  rename_i e F4 S4 hrun2
  split at h
  case h_2 => cases h
  rename_i nt4 F4' ps4 as4 bd4 hi4
  obtain ⟨rec, hrec, e1, e2, e3, e4, e5, e6, e7⟩ := hh.ents _ _ hi
  have hps : ∀ p ∈ ps, p < nt := fun p hp => blt_lt (List.all_eq_true.1 hps p hp)
  obtain ⟨g1, g2, g3⟩ := setPs_spec ps args vs F F1 rec.tmps hF1 hL (fun p hp => by rw [e6]; exact hps p hp) e7
  refine ⟨rec, hrec, ?_, fun R hR => ?_⟩
  · rw [List.size_toArray, ← g1, ← e3, Array.length_toList]
  let l := (γ i).g
  let J : Act → World → Prop := fun a₁ w₁ => ∃ w₂, (Instr.beginRound l).run P w₁ = .ok () w₂ ∧ rec.body.wpIn ((WF r).inRound l) 0 P (roundPost P l R) a₁ w₂
  let Q1 : Post := fun e a w => match e with | .normal => J a w | _ => False
  let Q2 : Post := fun e a w => match e with
    | .normal => roundPost P l R .normal a w
    | .ret => roundPost P l R .ret a w
    | .exit id => roundPost P l R (.exit id) a w
    | _ => False
  have hQ1 : Quiet Q1 := ⟨fun _ _ _ h => h, fun _ _ _ h => h⟩
  have hQ2 : Quiet Q2 := ⟨fun _ _ _ h => h, fun _ _ _ h => h⟩
  have fixd : ∀ {S1 : KS} {γ1 : Nat → Gh}, Ext S.T.get γ S1.T.get γ1 → (γ1 i).g = l := fun x => (x.fix i ⟨_, hi, rfl⟩).2
  -- behind the round
  have back : ∀ (γ4 : Nat → Gh) (W4 : World) (st : LoopState) (pe : Option Jump) (b : Bool), Ext S.T.get γ S4.T.get γ4 → HeapOk E P S4.T.get γ4 W4 → setE S4 i (.lp nt4 F4' ps4 as4 bd4 st pe) = some S' → kv = .v (.bool b) →
      ∀ rec4 : Loop, W4.heap[(γ4 i).g]? = some (.loop rec4) → R (.returned (.bool b)) (W4.putObj (γ4 i).g (.loop { rec4 with state := st, pending := pe.map Jump.code })) := by
    intro γ4 W4 st pe b x4 h4 hs5 hk rec4 hr4
    refine hR _ _ ?_
    obtain ⟨rec4', hr4', f1, f2, f3, f4, f5, f6, f7⟩ := h4.ents _ _ hi4
    have hr4'' : W4.heap[(γ4 i).g]? = some (.loop rec4') := hr4'
    rw [hr4] at hr4''; injection hr4'' with hr4''; injection hr4'' with hr4''; subst hr4''
    obtain ⟨x5, h5⟩ := putObj_ok (e' := .lp nt4 F4' ps4 as4 bd4 st pe) h4 hi4 rfl rfl rfl (fun g hg => by simp [KO.fp] at hg; exact hg.symm) (.loop { rec4 with state := st, pending := pe.map Jump.code }) hs5 (fun h' x' =>
      ⟨{ rec4 with state := st, pending := pe.map Jump.code }, World.putObj_heap_same (h4.fresh _ _ _ hi4 rfl).2, rfl, rfl, f3, f4, f5, f6, fun d => (f7 d).ext x'⟩)
    exact ⟨γ4, by rw [hk]; simp [Is], x4.trans x5, h5⟩
  refine roundIn_of_wpIn trivial ?_
  have hrep1 : Rep E P nt [] F1 S.T.get γ { tmps := (rec.params.zip vs.toArray).foldl (fun tmps (t, v) => tmps.setIfInBounds t v) rec.tmps, defers := [] } W := by
    have hfold : (rec.params.zip vs.toArray).foldl (fun tmps (t, v) => tmps.setIfInBounds t v) rec.tmps = (ps.zip vs).foldl (fun t (p, v) => t.setIfInBounds p v) rec.tmps := by
      rw [← e3, ← Array.foldl_toList, Array.toList_zip]
    exact ⟨by rw [hfold]; exact g2.trans e6, fun d => by rw [hfold]; exact g3 d, rfl, by simp, hh⟩
  have d1 := ih (some l) Q1 hQ1 S.T.get γ nt [.c as] F1 S none ⟨.nrm, F2, S2, none⟩ [.c as] γ _ W (fun h => by cases h) hrun1 ?_ ⟨rfl, trivial⟩ hrep1 (Ext.refl _ _) rec.assign e4
  · refine wpIn_mono d1 fun e a2 w2 hq => ?_
    cases e with
    | normal => exact hq
    | ret => exact hq.elim
    | exit id => exact hq.elim
    | goto _ => exact hq.elim
    | panic _ => exact hq.elim
    | outgrown => exact hq.elim
  intro γ2 a2 W2 rep2 x2 _
  have x2 : Ext S.T.get γ S2.T.get γ2 := x2
  have rep2 : Rep E P nt [] F2 S2.T.get γ2 a2 W2 := rep2
  obtain ⟨rec2, hr2, f1, f2, f3, f4, f5, f6, f7⟩ := rep2.heap.ents _ _ hi2
  have hl2 := fixd x2
  refine ⟨_, run_beginRound (r := rec2) (by rw [← hl2]; exact hr2) f1, ?_⟩
  obtain ⟨x3, h3⟩ := putObj_ok (e' := .lp nt2 F2' ps2 as2 bd2 .busy none) rep2.heap hi2 rfl rfl rfl (fun g hg => by simp [KO.fp] at hg; exact hg.symm) (.loop { rec2 with state := .busy }) hs3 (fun h' x' =>
      ⟨{ rec2 with state := .busy }, World.putObj_heap_same (rep2.heap.fresh _ _ _ hi2 rfl).2, rfl, f2, f3, f4, f5, f6, fun d => (f7 d).ext x'⟩)
  have rep3 := rep2.ext x3 h3
  rw [hl2] at rep3
  have d2 := ih (some l) Q2 hQ2 S3.T.get γ2 nt [.c bd] F2 S3 none ⟨e, F4, S4, none⟩ [.c bd] γ2 a2 _ (fun h => by cases h) hrun2 ?_ ⟨rfl, trivial⟩ rep3 (Ext.refl _ _) rec.body e5
  · refine wpIn_mono d2 fun e a2 w2 hq => ?_
    cases e with
    | normal => exact hq
    | ret => exact hq
    | exit id => exact hq
    | goto _ => exact hq.elim
    | panic _ => exact hq.elim
    | outgrown => exact hq.elim
  intro γ4 a4 W4 rep4 x4 _
  have x4 : Ext S3.T.get γ2 S4.T.get γ4 := x4
  have rep4 : Rep E P nt [] F4 S4.T.get γ4 a4 W4 := rep4
  have x04 := (x2.trans x3).trans x4
  obtain ⟨rec4, hr4, q⟩ := rep4.heap.ents _ _ hi4
  have hl4 := fixd x04
  have hr4' : W4.heap[l]? = some (.loop rec4) := by rw [← hl4]; exact hr4
  cases e with
  | nrm =>
    dsimp only at h
    split at h
    case h_2 => cases h
    rename_i S5 hs5
    injection h with h; injection h with h1 h2; subst h1; subst h2
    have := back γ4 W4 .ready none true x04 rep4.heap hs5 rfl rec4 hr4
    rw [hl4] at this
    exact ⟨_, _, run_endRound none hr4', this⟩
  | ret =>
    dsimp only at h
    split at h
    case h_2 => cases h
    rename_i S5 hs5
    injection h with h; injection h with h1 h2; subst h1; subst h2
    have := back γ4 W4 .done (some .ret) false x04 rep4.heap hs5 rfl rec4 hr4
    rw [hl4] at this
    exact ⟨_, _, run_endRound (some .ret) hr4', this⟩
  | exit id =>
    dsimp only at h
    split at h
    case h_2 => cases h
    rename_i S5 hs5
    injection h with h; injection h with h1 h2; subst h1; subst h2
    have := back γ4 W4 .done (some (.exit id)) false x04 rep4.heap hs5 rfl rec4 hr4
    rw [hl4] at this
    exact ⟨_, _, run_endRound (some (.exit id)) hr4', this⟩

theorem stepS_ok {r : Option Nat} {ops : Array Oper} {Q' : Post} {o : Oper} {x : XK} {K : Act → World → Prop} (hx : cmpK P o.op = some x) (hh : HeapOk E P S.T.get γ W) (hw : Region.wanted o (yielded ops a.tmps) = true) (hok : Ok E P o a W S γ x kv S')
    (h : ∀ v W', Is S'.T.get γ kv v ∨ True → Gave P E S γ kv S' v W' → K (a.put o.dst v) W') : stepS r P ops Q' o K a W := by
  unfold stepS
  rw [if_pos hw]
  have hcl : cl P o = (if pureK x then 0 else if readK x then 1 else 2) := by unfold cl; rw [hx]
  unfold Ok at hok
  split at hok
  · rename_i hp
    rw [hcl, if_pos hp]
    obtain ⟨rfl, v, h1, h2⟩ := hok
    exact ⟨v, h1, h v W (.inr trivial) ⟨γ, h2, Ext.refl _ _, hh⟩⟩
  · rename_i hp
    rw [hcl, if_neg hp]
    split at hok
    · rename_i hq
      rw [if_pos hq]
      obtain ⟨rfl, v, h1, h2⟩ := hok
      exact ⟨v, h1, h v W (.inr trivial) ⟨γ, h2, Ext.refl _ _, hh⟩⟩
    · rename_i hq
      rw [if_neg hq]
      obtain ⟨v, W', γ', hran, h1, h2, h3⟩ := hok
      have := h v W' (.inr trivial) ⟨γ', h1, h2, h3⟩
      refine ⟨fun _ _ => trivial, ?_⟩
      rw [Oper.semAt_eq _ _ _ (Sx.notDefer hx)]
      rcases hran with e | ⟨e, rfl⟩
      · rw [e]; exact this
      · rw [e]; exact this

theorem exI_ok (hE : E.Ok) (hG : SameG C E) (hT : TabOk P C) (ih : Sd P E C n) {r : Option Nat} {ops : Array Oper} {Q' : Post} {o : Oper} {x : XI} {K : Act → World → Prop} (hx : cmpI P o.op = some x) (rep : Rep E P nt mk F S.T.get γ a W) (hw : Region.wanted o (yielded ops a.tmps) = true)
    (he : exI C (run C n) F S x = some (kv, S')) (h : ∀ v W', Gave P E S γ kv S' v W' → K (a.put o.dst v) W') : stepS r P ops Q' o K a W := by
  cases x with
  | still d x => simp only [exI] at he; cases he
  | k x =>
    simp only [exI] at he
    have hx := Sx.cmpI_k hx
    exact stepS_ok hx rep.heap hw (kx_ok hE hT.ct rep hx (by rw [← hG.1]; exact he)) fun v W' _ g => h v W' g
  | call f args =>
    simp only [exI] at he
    obtain ⟨c, hop, hcal, hargs', hok⟩ := Sx.cmpI_call hx
    have hn := Sx.cmpK_none hx (by simp)
    obtain ⟨_, hcall⟩ := callF_ok hE hG hT ih he rep.heap (rep.evL args)
    unfold stepS
    rw [if_pos hw, Sx.cl_other hop hn]
    refine ⟨fun _ _ => trivial, ?_⟩
    have hnd : ∀ c', o.op ≠ .defer c' := by intro c' e; rw [hop] at e; cases e
    have hvs : (c.args.map a.eval) = (args.map a.eval).toArray := by
      rw [← hargs', ← Array.toList_map, Array.toArray_toList]
    have hrun : (execOp a.eval o).run P W = .ok (.enter f (args.map a.eval).toArray) W := by
      simp only [execOp, hop, resolve, hcal, Act.eval, hvs, Deferred.ofValue, Sem.run_bind, Sem.run_pure, Result.andThen_ok, invoke, Array.append_empty, Array.empty_append]
      exact Sx.run_callFunc hok _ W
    rw [Oper.semAt_eq _ _ _ hnd, hrun]
    refine ⟨fun h => by simp [WF, Fence.wide] at h, ?_⟩
    refine Sx.callsIn_WF.2 ?_
    refine Calls.mono hcall fun e W' hq => ?_
    cases e with
    | returned v => exact h v W' hq
    | panicked ch => exact hq.elim
    | outgrown => exact hq.elim
  | callv f args =>
    simp only [exI] at he
    obtain ⟨c, hop, hcal, hargs'⟩ := Sx.cmpI_callv hx
    have hn := Sx.cmpK_none hx (by simp)
    have hnd : ∀ c', o.op ≠ .defer c' := by intro c' e; rw [hop] at e; cases e
    have hfv := rep.ev f
    have hLa := rep.evL args
    have eargs : (c.args.map a.eval) = (args.map a.eval).toArray := by
      rw [← hargs', ← Array.toList_map, Array.toArray_toList]
    unfold stepS
    rw [if_pos hw, Sx.cl_other hop hn]
    refine ⟨fun _ _ => trivial, ?_⟩
    rw [Oper.semAt_eq _ _ _ hnd]
    generalize ev F f = kf at he hfv
    have enter : ∀ (g : FuncId) (ks : List KV) (vs : List Value), IsL S.T.get γ ks vs → callF C (run C n) g ks S = some (kv, S') → (fnOk P g = true → (execOp a.eval o).run P W = .ok (.enter g vs.toArray) W) →
        Oper.uponIn (WF r) 0 P o a K Q' ((execOp a.eval o).run P W) := by
      intro g ks vs hLk hcf hrun
      obtain ⟨hok, hcall⟩ := callF_ok hE hG hT ih hcf rep.heap hLk
      rw [hrun hok]
      refine ⟨fun h => by simp [WF, Fence.wide] at h, ?_⟩
      refine Sx.callsIn_WF.2 ?_
      refine Calls.mono hcall fun e W' hq => ?_
      cases e with
      | returned v => exact h v W' hq
      | panicked ch => exact hq.elim
      | outgrown => exact hq.elim
    unfold callV at he
    split at he
    · rename_i g first caps
      simp only [Is] at hfv
      obtain ⟨xs, ys, h1, h2, hfv⟩ := hfv
      refine enter g _ (xs ++ args.map a.eval ++ ys) ((h1.append hLa).append h2) he fun hok => ?_
      simp only [execOp, hop, resolve, hcal, hfv, eargs, Deferred.ofValue, Sem.run_bind, Sem.run_pure, Result.andThen_ok, invoke]
      have : xs.toArray ++ (args.map a.eval).toArray ++ ys.toArray = (xs ++ args.map a.eval ++ ys).toArray := by simp
      rw [this]
      exact Sx.run_callFunc hok _ W
    · rename_i g
      simp only [Is] at hfv
      refine enter g _ (args.map a.eval) hLa he fun hok => ?_
      simp only [execOp, hop, resolve, hcal, hfv, eargs, Deferred.ofValue, Sem.run_bind, Sem.run_pure, Result.andThen_ok, invoke]
      have : (#[] : Array Value) ++ (args.map a.eval).toArray ++ #[] = (args.map a.eval).toArray := by simp
      rw [this]
      exact Sx.run_callFunc hok _ W
    · rename_i i
      simp only [Is] at hfv
      obtain ⟨rec, hrec, hsz, hround⟩ := roundF_ok r ih he rep.heap hLa
      have hrun : (execOp a.eval o).run P W = .ok (.round (γ i).g rec.fn ((rec.params.zip (args.map a.eval).toArray).foldl (fun tmps (t, v) => tmps.setIfInBounds t v) rec.tmps) rec.assign rec.body) W := by
        simp only [execOp, hop, resolve, hcal, hfv.2, eargs, Deferred.ofValue, Sem.run_bind, Sem.run_pure, Result.andThen_ok, invoke, Array.append_empty, Array.empty_append]
        exact run_yield hrec hsz
      rw [hrun]
      refine ⟨fun h => by simp [WF, Fence.wide] at h, ?_⟩
      exact hround _ fun v W' g => h v W' g
    · cases he

theorem putF_ok (rep : Rep E P nt mk F S.T.get γ a W) {γ' : Nat → Gh} {W' : World} {F' : Tr KV} {d : Option Nat} {v : Value} (hF : putF F d kv = some F') (hd : ∀ m, d = some m → m < nt) (hx : Ext S.T.get γ S'.T.get γ') (hh : HeapOk E P S'.T.get γ' W') (hv : Is S'.T.get γ' kv v) :
    Rep E P nt mk F' S'.T.get γ' (a.put d v) W' := by
  have rep' := rep.ext hx hh
  cases d with
  | none => simp only [putF, Option.some.injEq] at hF; subst hF; exact rep'
  | some d => exact rep'.put hF (hd d rfl) hv

theorem gd_wanted (rep : Rep E P nt mk F S.T.get γ a W) {ops : Array Oper} {op : Oper} {g : Option (Nat × Bool)} (hg : cmpG ops op.guard = some g) {b : Bool} (hb : gd F g = some b) : Region.wanted op (yielded ops a.tmps) = b := by
  unfold gd at hb
  split at hb
  · injection hb with hb; subst hb; exact Sx.wanted_none hg a
  · rename_i d w
    rw [Sx.wanted_of hg]
    have hfr := rep.frame d
    split at hb
    · rename_i c hc
      rw [hc] at hfr; simp only [Is] at hfr
      have ht : a.tmps[d]? = some (.bool c) := by
        rw [Array.getD_eq_getD_getElem?] at hfr
        cases ht : a.tmps[d]? with
        | none => rw [ht] at hfr; simp [undef] at hfr
        | some v => rw [ht] at hfr; simp at hfr; rw [hfr]
      rw [ht]
      cases c <;> cases w <;> simp at hb ⊢ <;> first | exact hb | (subst hb; rfl)
    · rename_i hc
      injection hb with hb; subst hb
      rw [hc] at hfr; simp only [Is] at hfr
      obtain ⟨vs, hvs, hfr⟩ := hfr
      split
      · rename_i b' ht
        rw [Array.getD_eq_getD_getElem?, ht] at hfr; cases hfr
      · rfl
    · cases hb

theorem exOps_ok (hE : E.Ok) (hG : SameG C E) (hT : TabOk P C) (ih : Sd P E C n) {r : Option Nat} {ops : Array Oper} {Q' : Post} {h0 : KH} {γ0 : Nat → Gh} {out : Out} {K : Tr KV → KS → Option Out} :
    ∀ (l : List XS) (F : Tr KV) (S : KS) (γ : Nat → Gh) (a : Act) (W : World) (ol : List Sx.RO), exOps C (run C n) l F S K = some out → cmpL P nt ops ol = some l → Rep E P nt mk F S.T.get γ a W → Ext h0 γ0 S.T.get γ →
      (∀ F' S' γ' a' W', K F' S' = some out → Rep E P nt mk F' S'.T.get γ' a' W' → Ext h0 γ0 S'.T.get γ' → Q' .normal a' W') → wpS r P ops Q' ol a W
  | [], F, S, γ, a, W, ol, h, hol, rep, hx, hK => by
    obtain rfl := Sx.cmpL_nil hol
    simp only [exOps] at h
    exact hK F S γ a W h rep hx
  | ⟨dst, g, i⟩ :: l, F, S, γ, a, W, ol, h, hol, rep, hx, hK => by
    obtain ⟨q, rest, rfl, ho, hl⟩ := Sx.cmpL_cons hol
    cases hst : i.isStill with
    | true =>
      cases i with
      | still d x =>
        obtain ⟨op, rfl, hd, hlt, hdst, hg, hi, hr⟩ := Sx.cmpO_still ho rfl
        simp only [exOps] at h
        split at h
        · rename_i hb
          split at h
          case h_2 => cases h
          rename_i kv S1 hk
          split at h
          case h_2 => cases h
          rename_i heq
          refine ⟨fun hw d' hd' W2 hgr => ?_, exOps_ok hE hG hT ih l F S γ a W rest h hl rep hx hK⟩
          rw [hd] at hd'; injection hd' with hd'; subst hd'
          have hok := kx_ok hE hT.ct rep hi (by rw [← hG.1]; exact hk)
          unfold Ok at hok
          have hnp : pureK x = false := by cases x <;> first | rfl | (simp [readK] at hr)
          rw [if_neg (by simp [hnp]), if_pos hr] at hok
          obtain ⟨rfl, v, h1, h2⟩ := hok
          rw [h1 W2 hgr, kEqv_spec heq h2 (rep.frame d)]
        · rename_i hb
          refine ⟨fun hw => ?_, exOps_ok hE hG hT ih l F S γ a W rest h hl rep hx hK⟩
          rw [gd_wanted rep hg hb] at hw; cases hw
        · cases h
      | _ => cases hst
    | false =>
      obtain ⟨op, rfl, hd, hdst, hg, hi⟩ := Sx.cmpO_spec ho hst
      rw [exOps_cons (i := i) _ _ hst] at h
      have run : ∀ kv S', exI C (Kx.run C n) F S i = some (kv, S') → (match putF F dst kv with | some F' => exOps C (Kx.run C n) l F' S' K | none => none) = some out → Region.wanted op (yielded ops a.tmps) = true → wpS r P ops Q' (.op op :: rest) a W := by
        intro kv S' he h hw
        split at h
        case h_2 => cases h
        rename_i F' hF'
        refine exI_ok hE hG hT ih hi rep hw he fun v W' ⟨γ', k1, k2, k3⟩ => ?_
        exact exOps_ok hE hG hT ih l F' S' γ' _ W' rest h hl (putF_ok rep (by rw [← hdst]; exact hF') hd k2 k3 k1) (hx.trans k2) hK
      have skip : (match putF F dst (.t []) with | some F' => exOps C (Kx.run C n) l F' S K | none => none) = some out → Region.wanted op (yielded ops a.tmps) = false → wpS r P ops Q' (.op op :: rest) a W := by
        intro h hw
        split at h
        case h_2 => cases h
        rename_i F' hF'
        refine Sx.step_skip hw ?_
        refine exOps_ok hE hG hT ih l F' S γ _ W rest h hl (putF_ok rep (by rw [← hdst]; exact hF') hd (Ext.refl _ _) rep.heap ?_) hx hK
        simp only [Is]; exact ⟨[], IsL.nil, rfl⟩
      have hgd : ∀ b, gd F g = some b → Region.wanted op (yielded ops a.tmps) = b := fun b hb => gd_wanted rep hg hb
      split at h
      · rename_i hb
        split at h
        case h_2 => cases h
        rename_i kv S' he
        exact run kv S' he h (hgd true hb)
      · rename_i hb
        exact skip h (hgd false hb)
      · cases h
end
end Go.Kx
