/- The runner, part 13: operations in more than one order. -/
import Derived.Test.YtfgdmcnlbgbleaaDoorKxMain
set_option linter.unusedSimpArgs false
set_option linter.unusedVariables false
set_option linter.unnecessarySimpa false
namespace Go.Kx
open Go
open Go.Sx (Grow Keep XC XS XI XK XT CK NK cmp cmpF cmpL cmpO cmpI cmpT cmpG theOrder Jump Ran SV SO kEq cmpK cmpK0 cmpK1 isNew pureK readK nth takeL dropL szT isAggT fnOk WF Post NoPanic CallsV endPostM wpS wpR stepS cl tupOf)

theorem vSame_eq {a b : Value} (h : vSame a b = true) : a = b := by
  unfold vSame at h
  split at h
  · rw [Nat.eq_of_beq_eq_true h]
  · exact veq_spec h
mutual
theorem kSame_eq : ∀ {a b : KV}, kSame a b = true → a = b
  | .u, b, h => by cases b <;> simp [kSame] at h ⊢
  | .v x, b, h => by
    cases b <;> simp only [kSame] at h <;> try cases h
    rw [vSame_eq h]
  | .p i o, b, h => by
    cases b <;> simp only [kSame] at h <;> try cases h
    split at h
    · rename_i e; rw [Nat.eq_of_beq_eq_true e, Nat.eq_of_beq_eq_true h]
    · cases h
  | .q i v o, b, h => by
    cases b <;> simp only [kSame] at h <;> try cases h
    split at h
    · rename_i e1 e2; rw [Nat.eq_of_beq_eq_true e1, Nat.eq_of_beq_eq_true e2, Nat.eq_of_beq_eq_true h]
    · cases h
  | .s i o n c, b, h => by
    cases b <;> simp only [kSame] at h <;> try cases h
    split at h
    · rename_i e1 e2 e3; rw [Nat.eq_of_beq_eq_true e1, Nat.eq_of_beq_eq_true e2, Nat.eq_of_beq_eq_true e3, Nat.eq_of_beq_eq_true h]
    · cases h
  | .w i v o n, b, h => by
    cases b <;> simp only [kSame] at h <;> try cases h
    split at h
    · rename_i e1 e2 e3; rw [Nat.eq_of_beq_eq_true e1, Nat.eq_of_beq_eq_true e2, Nat.eq_of_beq_eq_true e3, Nat.eq_of_beq_eq_true h]
    · cases h
  | .m i, b, h => by
    cases b <;> simp only [kSame] at h <;> try cases h
    rw [Nat.eq_of_beq_eq_true h]
  | .y i, b, h => by
    cases b <;> simp only [kSame] at h <;> try cases h
    rw [Nat.eq_of_beq_eq_true h]
  | .a l, b, h => by
    cases b <;> simp only [kSame] at h <;> try cases h
    rw [kSameL_eq h]
  | .t l, b, h => by
    cases b <;> simp only [kSame] at h <;> try cases h
    rw [kSameL_eq h]
  | .f fn x y, b, h => by
    cases b with
    | f fn2 z w =>
      cases fn <;> cases fn2 <;> simp only [kSame] at h <;> try cases h
      split at h
      · rename_i e1 e2; rw [Nat.eq_of_beq_eq_true e1, kSameL_eq e2, kSameL_eq h]
      · cases h
    | _ => cases fn <;> simp [kSame] at h
  | .i t x, b, h => by
    cases b <;> simp only [kSame] at h <;> try cases h
    split at h
    · rename_i e; rw [Nat.eq_of_beq_eq_true e, kSame_eq h]
    · cases h
  | .z .., b, h => by cases b <;> simp [kSame] at h
theorem kSameL_eq : ∀ {l m : List KV}, kSameL l m = true → l = m
  | [], [], _ => rfl
  | x :: l, y :: m, h => by
    simp only [kSameL] at h
    split at h
    · rename_i e; rw [kSame_eq e, kSameL_eq h]
    · cases h
  | [], _ :: _, h => by simp [kSameL] at h
  | _ :: _, [], h => by simp [kSameL] at h
end
theorem oSame_eq {a b : KO} (h : oSame a b = true) : a = b := by
  unfold oSame at h
  split at h
  · split at h
    · rename_i e; rw [Nat.eq_of_beq_eq_true e, kSameL_eq h]
    · cases h
  · split at h
    · rename_i e1 e2 e3; rw [Nat.eq_of_beq_eq_true e1, Nat.eq_of_beq_eq_true e2, Nat.eq_of_beq_eq_true e3, kSameL_eq h]
    · cases h
  · rfl
  · cases h
theorem fAll_eq {F G : Tr KV} : ∀ {l : List Nat}, fAll F G l = true → ∀ d ∈ l, F.get d = G.get d
  | [], _, d, hd => by cases hd
  | e :: l, h, d, hd => by
    simp only [fAll] at h
    split at h
    · rename_i x y h1 h2
      split at h
      · rename_i e1
        rcases List.mem_cons.1 hd with rfl | hd
        · rw [h1, h2, kSame_eq e1]
        · exact fAll_eq h d hd
      · cases h
    · cases h
theorem tAll_eq {F G : Tr KO} : ∀ {l : List Nat}, tAll F G l = true → ∀ d ∈ l, F.get d = G.get d
  | [], _, d, hd => by cases hd
  | e :: l, h, d, hd => by
    simp only [tAll] at h
    split at h
    · rename_i x y h1 h2
      split at h
      · rename_i e1
        rcases List.mem_cons.1 hd with rfl | hd
        · rw [h1, h2, oSame_eq e1]
        · exact tAll_eq h d hd
      · cases h
    · cases h

section
variable {E : KE} {P : Program} {C : Cfg} {nt : Nat} {mk : List Nat} {F : Tr KV} {S S' : KS} {γ : Nat → Gh} {a : Act} {W : World} {o : Oper} {kv : KV} {x : XK}

theorem Rep.same {F2 : Tr KV} {h2 : KH} (r : Rep E P nt mk F S.T.get γ a W) (hF : ∀ d, F2.get d = F.get d) (hh : h2 = S.T.get) : Rep E P nt mk F2 h2 γ a W := by
  subst hh
  exact ⟨r.size, fun d => by have : fg F2 d = fg F d := by unfold fg; rw [hF d]
                             rw [this]; exact r.frame d, r.defers, r.marks, r.heap⟩

theorem touch_spec (hE : E.Ok) {ct : List TypeId} (hct : CtOk P ct) (r : Rep E P nt mk F S.T.get γ a W) (hc : cmpK P o.op = some x) {j : Nat} {l : List Nat} (ht : touch j F x = some l) (h : kx E.G ct F ⟨S.T, j⟩ x = some (kv, S')) : ∀ i, i ∉ l → S'.T.get i = S.T.get i := by
  have new : ∀ {e : KO} {q : Nat} {S1 : KS}, newE ⟨S.T, j⟩ e = some (q, S1) → ∀ i, i ∉ [j] → S1.T.get i = S.T.get i := by
    intro e q S1 hn i hi
    unfold newE at hn
    split at hn
    · cases hn
    · split at hn
      · rename_i T hT
        injection hn with hn; injection hn with _ hn; subst hn
        show T.get i = S.T.get i
        rw [Tr.get_set 40 hT, if_neg (by simpa using hi)]
      · cases hn
  have quiet : pureK x = true ∨ readK x = true → S' = ⟨S.T, j⟩ := by
    intro hq
    have hok := kx_ok (S := ⟨S.T, j⟩) hE hct r hc h
    unfold Ok at hok
    split at hok
    · exact hok.1
    · rename_i hp
      rw [if_pos (hq.resolve_left hp)] at hok
      exact hok.1
  intro i hi
  unfold touch at ht
  split at ht
  · injection ht with ht; subst ht
    simp only [kx] at h
    split at h
    · rename_i q S1 hn; injection h with h; injection h with _ h; subst h; exact new hn i hi
    · cases h
  · injection ht with ht; subst ht
    simp only [kx] at h
    split at h
    · split at h
      · rename_i q S1 hn; injection h with h; injection h with _ h; subst h; exact new hn i hi
      · cases h
    · cases h
  · injection ht with ht; subst ht
    simp only [kx, kbuildS] at h
    split at h
    · split at h
      · rename_i q S1 hn; injection h with h; injection h with _ h; subst h; exact new hn i hi
      · cases h
    · cases h
  · injection ht with ht; subst ht
    simp only [kx] at h
    split at h
    · rename_i q S1 hn; injection h with h; injection h with _ h; subst h; exact new hn i hi
    · cases h
  · rename_i n p z
    simp only [kx] at h
    split at h
    case h_2 => cases h
    split at h
    case h_2 => cases h
    rename_i q e hw
    split at h
    case h_2 => cases h
    rename_i S1 hs
    injection h with h; injection h with _ h; subst h
    rw [setE_get hs]
    have hq : ∀ i0, l = [i0] → q = i0 → upd (KS.mk S.T j).T.get q (some e) i = S.T.get i := by
      rintro i0 rfl rfl
      exact upd_ne _ _ (by simpa using hi)
    unfold wrp at hw
    split at ht
    · rename_i i0 off he
      injection ht with ht
      rw [he] at hw
      simp only at hw
      split at hw
      · split at hw
        · injection hw with hw; injection hw with hw _; exact hq i0 ht.symm hw.symm
        · cases hw
      · cases hw
    · rename_i i0 ver off he
      injection ht with ht
      rw [he] at hw
      simp only at hw
      split at hw
      · split at hw
        · injection hw with hw; injection hw with hw _; exact hq i0 ht.symm hw.symm
        · cases hw
      · cases hw
    · cases ht
  · split at ht
    · cases ht
    · rename_i hne
      have : pureK x = true ∨ readK x = true := by
        cases h1 : pureK x
        · cases h2 : readK x
          · exact (hne h1 h2).elim
          · exact .inr rfl
        · exact .inl rfl
      rw [quiet this]

theorem fAll_far {F0 F1 F2 : Tr KV} {l1 l2 : List Nat} (h1 : ∀ d, d ∉ l1 → F1.get d = F0.get d) (h2 : ∀ d, d ∉ l2 → F2.get d = F0.get d) (h : fAll F1 F2 (l1 ++ l2) = true) : ∀ d, F1.get d = F2.get d := fun d => by
  by_cases hd : d ∈ l1 ++ l2
  · exact fAll_eq h d hd
  · simp only [List.mem_append, not_or] at hd
    rw [h1 d hd.1, h2 d hd.2]
theorem tAll_far {F0 F1 F2 : Tr KO} {l1 l2 : List Nat} (h1 : ∀ d, d ∉ l1 → F1.get d = F0.get d) (h2 : ∀ d, d ∉ l2 → F2.get d = F0.get d) (h : tAll F1 F2 (l1 ++ l2) = true) : F1.get = F2.get := funext fun d => by
  by_cases hd : d ∈ l1 ++ l2
  · exact tAll_eq h d hd
  · simp only [List.mem_append, not_or] at hd
    rw [h1 d hd.1, h2 d hd.2]
theorem putF_far {F F' : Tr KV} {dst : Option Nat} {kv : KV} (h : putF F dst kv = some F') {l : List Nat} {d : Nat} (hd : d ∉ dsts dst l) : F'.get d = F.get d ∧ d ∉ l := by
  cases dst with
  | none => simp only [putF, Option.some.injEq] at h; subst h; exact ⟨rfl, hd⟩
  | some e =>
    simp only [dsts, List.mem_cons, not_or] at hd
    simp only [putF] at h
    rw [Tr.get_set 40 h, if_neg hd.1]; exact ⟨rfl, hd.2⟩

theorem exT_ok (hE : E.Ok) (hG : SameG C E) (hT : TabOk P C) {r : Option Nat} {ops : Array Oper} {Q' : Post} {h0 : KH} {γ0 : Nat → Gh} {n0 : Nat} :
    ∀ (t : XT) (F : Tr KV) (S : KS) (γ : Nat → Gh) (a : Act) (W : World) (rt : Sx.ROT) (out : AO), exT C n0 t F S = some out → cmpT P nt ops rt = some t → Rep E P nt mk F S.T.get γ a W → Ext h0 γ0 S.T.get γ →
      (∀ d, d ∉ out.ls → out.F.get d = F.get d) ∧ (∀ d, d ∉ out.le → out.S.T.get d = S.T.get d) ∧
      ((∀ γ' a' W', Rep E P nt mk out.F out.S.T.get γ' a' W' → Ext h0 γ0 out.S.T.get γ' → Q' .normal a' W') → wpR r P ops Q' rt a W)
  | .done, F, S, γ, a, W, rt, out, h, hc, rep, hx => by
    simp only [exT, Option.some.injEq] at h; subst h
    cases rt with
    | done => exact ⟨fun _ _ => rfl, fun _ _ => rfl, fun hK => hK γ a W rep hx⟩
    | seq q k t => simp only [cmpT] at hc; split at hc <;> simp at hc
    | alt x y => simp only [cmpT] at hc; split at hc <;> simp at hc
  | .alt x y, F, S, γ, a, W, rt, out, h, hc, rep, hx => by
    cases rt with
    | done => simp [cmpT] at hc
    | seq q k t => simp only [cmpT] at hc; split at hc <;> simp at hc
    | alt p q =>
      simp only [cmpT] at hc
      split at hc
      case h_2 => cases hc
      rename_i xt yt hp hq
      injection hc with hc; injection hc with e1 e2; subst e1; subst e2
      simp only [exT] at h
      split at h
      case h_2 => cases h
      rename_i u v hu hv
      split at h
      case h_2 => cases h
      rename_i e1 e2
      injection h with h; subst h
      obtain ⟨u1, u2, u3⟩ := exT_ok hE hG hT (Q' := Q') xt F S γ a W p u hu hp rep hx
      obtain ⟨v1, v2, v3⟩ := exT_ok hE hG hT (Q' := Q') yt F S γ a W q v hv hq rep hx
      have hF := fAll_far u1 v1 e1
      have hS := tAll_far u2 v2 e2
      refine ⟨fun d hd => u1 d (fun k => hd (by simp [k])), fun d hd => u2 d (fun k => hd (by simp [k])), fun hK => ⟨u3 hK, v3 fun γ' a' W' rep' hx' => hK γ' a' W' (rep'.same hF hS) (by rw [hS]; exact hx')⟩⟩
  | .seq ⟨dst, g, i⟩ k t, F, S, γ, a, W, rt, out, h, hc, rep, hx => by
    cases rt with
    | done => simp [cmpT] at hc
    | alt p q => simp only [cmpT] at hc; split at hc <;> simp at hc
    | seq q k2 t2 =>
      simp only [cmpT] at hc
      split at hc
      case h_2 => cases hc
      rename_i x t' ho hl
      injection hc with hc; injection hc with e1 e2 e3; subst e1; subst e2; subst e3
      simp only [exT] at h
      cases i with
      | call f as =>
        obtain ⟨op, rfl, hd, hdst, hg, hi⟩ := Sx.cmpO_spec ho rfl
        simp only at h hdst
        split at h
        case h_2 => cases h
        rename_i rs hb hfm
        have hw := gd_wanted rep hg hb
        split at h
        case h_2 => cases h
        rename_i ks S0 hnr hml
        split at h
        case h_2 => cases h
        rename_i F' hF'
        split at h
        case h_2 => cases h
        rename_i u hu
        injection h with h; subst h
        obtain ⟨m, hmem, hmf, hargs, hmr⟩ := findM_spec hfm
        subst hmf; subst hmr
        obtain ⟨_, hc0⟩ := hT.memo m hmem
        have hvs := veqL_spec _ _ hargs (rep.evL as)
        obtain ⟨vs0, p1, p2⟩ := noRow_vals hnr
        have hks : ∀ (h : KH) (γ : Nat → Gh), IsL h γ ks vs0 := (memoL_noRow (N := 0) (W' := W) hnr hml (p1 0 W)).2
        obtain ⟨c, hop, hcal, hargs', hok⟩ := Sx.cmpI_call hi
        have hn := Sx.cmpK_none hi (by simp)
        have run : ∀ K : Act → World → Prop, (∀ W', Sx.Fresh W W' → K (a.put op.dst (tupOf vs0)) W') → stepS r P ops Q' op K a W := fun K hK => by
          unfold stepS
          rw [if_pos hw, Sx.cl_other hop hn]
          refine ⟨fun _ _ => trivial, ?_⟩
          have hnd : ∀ c', op.op ≠ .defer c' := by intro c' e; rw [hop] at e; cases e
          have hvs' : (c.args.map a.eval) = m.args.toArray := by
            rw [← hvs, ← hargs', ← Array.toList_map, Array.toArray_toList]
          have hrun : (execOp a.eval op).run P W = .ok (.enter m.f m.args.toArray) W := by
            simp only [execOp, hop, resolve, hcal, Act.eval, hvs', Deferred.ofValue, Sem.run_bind, Sem.run_pure, Result.andThen_ok, invoke, Array.append_empty, Array.empty_append]
            exact Sx.run_callFunc hok _ W
          rw [Oper.semAt_eq _ _ _ hnd, hrun]
          refine ⟨fun h => by simp [WF, Fence.wide] at h, ?_⟩
          refine Sx.callsIn_WF.2 ?_
          refine Calls.mono (hc0 E hG hE W rep.heap.keep rep.heap.floor) fun e W' hq => ?_
          cases e with
          | returned v =>
            obtain ⟨hf, us, hv, hR⟩ := hq
            rw [p2 _ _ _ hR] at hv
            subst hv
            exact hK W' hf
          | panicked ch => exact hq.elim
          | outgrown => exact hq.elim
        have nextR : ∀ W', Sx.Fresh W W' → Rep E P nt mk F' S.T.get γ (a.put op.dst (tupOf vs0)) W' := fun W' hf =>
          putF_ok (S' := S) (kv := tupK ks) rep (by rw [← hdst]; exact hF') hd (Ext.refl _ _) (rep.heap.freshK hf) (tupK_is (hks _ _))
        obtain ⟨u1, u2, _⟩ := exT_ok (r := r) hE hG hT (Q' := Q') t' F' S γ _ W t2 u hu hl (nextR W (Sx.Fresh.refl W)) hx
        refine ⟨fun d hd' => ?_, u2, fun hK => ?_⟩
        · obtain ⟨e1, e2⟩ := putF_far hF' hd'
          rw [← e1]; exact u1 d e2
        · exact run _ fun W' hf => (exT_ok hE hG hT (Q' := Q') t' F' S γ _ W' t2 u hu hl (nextR W' hf) hx).2.2 hK
      | callv f as => cases h
      | still d x =>
        obtain ⟨op, rfl, hd, hlt, hdst, hg, hi, hr⟩ := Sx.cmpO_still ho rfl
        simp only at h
        split at h
        · rename_i hb
          split at h
          case h_2 => cases h
          rename_i kv S1 hk
          split at h
          case h_2 => cases h
          rename_i heq
          obtain ⟨u1, u2, u3⟩ := exT_ok hE hG hT (Q' := Q') t' F S γ a W t2 out h hl rep hx
          refine ⟨u1, u2, fun hK => ⟨fun hw d' hd' W2 hgr => ?_, u3 hK⟩⟩
          rw [hd] at hd'; injection hd' with hd'; subst hd'
          have hok := kx_ok hE hT.ct rep hi (by rw [← hG.1]; exact hk)
          unfold Ok at hok
          have hnp : pureK x = false := by cases x <;> first | rfl | (simp [readK] at hr)
          rw [if_neg (by simp [hnp]), if_pos hr] at hok
          obtain ⟨rfl, v, h1, h2⟩ := hok
          rw [h1 W2 hgr, kEqv_spec heq h2 (rep.frame d)]
        · rename_i hb
          obtain ⟨u1, u2, u3⟩ := exT_ok hE hG hT (Q' := Q') t' F S γ a W t2 out h hl rep hx
          refine ⟨u1, u2, fun hK => ⟨fun hw => ?_, u3 hK⟩⟩
          rw [gd_wanted rep hg hb] at hw; cases hw
        · cases h
      | k x =>
        obtain ⟨op, rfl, hd, hdst, hg, hi⟩ := Sx.cmpO_spec ho rfl
        have hi := Sx.cmpI_k hi
        simp only at h hdst
        split at h
        · rename_i hb
          have hw := gd_wanted rep hg hb
          split at h
          case h_2 => cases h
          rename_i l kv S' htch hk
          split at h
          case h_2 => cases h
          rename_i F' hF'
          split at h
          case h_2 => cases h
          rename_i u hu
          injection h with h; subst h
          have hk : kx E.G C.ct F ⟨S.T, n0 + k2⟩ x = some (kv, S') := by rw [← hG.1]; exact hk
          have htc := touch_spec hE hT.ct rep hi htch hk
          have hok := kx_ok (S := ⟨S.T, n0 + k2⟩) hE hT.ct rep hi hk
          -- one world in which it has run
          have run : ∀ K : Act → World → Prop, (∀ v W' γ', Is S'.T.get γ' kv v → Ext S.T.get γ S'.T.get γ' → HeapOk E P S'.T.get γ' W' → K (a.put op.dst v) W') → stepS r P ops Q' op K a W := fun K hK =>
            stepS_ok (S := ⟨S.T, n0 + k2⟩) hi rep.heap hw hok fun v W' _ ⟨γ', k1, k2, k3⟩ => hK v W' γ' k1 k2 k3
          have some_world : ∃ v W' γ', Is S'.T.get γ' kv v ∧ Ext S.T.get γ S'.T.get γ' ∧ HeapOk E P S'.T.get γ' W' := by
            unfold Ok at hok
            split at hok
            · obtain ⟨rfl, v, _, h2⟩ := hok; exact ⟨v, W, γ, h2, Ext.refl _ _, rep.heap⟩
            · split at hok
              · obtain ⟨rfl, v, _, h2⟩ := hok; exact ⟨v, W, γ, h2, Ext.refl _ _, rep.heap⟩
              · obtain ⟨v, W', γ', _, h1, h2, h3⟩ := hok; exact ⟨v, W', γ', h1, h2, h3⟩
          have nextR : ∀ v W' γ', Is S'.T.get γ' kv v → Ext S.T.get γ S'.T.get γ' → HeapOk E P S'.T.get γ' W' → Rep E P nt mk F' S'.T.get γ' (a.put op.dst v) W' := fun v W' γ' k1 k2 k3 =>
            putF_ok (S' := S') rep (by rw [← hdst]; exact hF') hd k2 k3 k1
          obtain ⟨v0, W0, γ1, s1, s2, s3⟩ := some_world
          obtain ⟨u1, u2, _⟩ := exT_ok (r := r) hE hG hT (Q' := Q') t' F' ⟨S'.T, S.n⟩ γ1 _ W0 t2 u hu hl (nextR v0 W0 γ1 s1 s2 s3) (hx.trans s2)
          refine ⟨fun d hd' => ?_, fun d hd' => ?_, fun hK => ?_⟩
          · obtain ⟨e1, e2⟩ := putF_far hF' hd'
            rw [← e1]; exact u1 d e2
          · simp only [List.mem_append, not_or] at hd'
            have h1 := u2 d hd'.2
            rw [h1]; exact htc d hd'.1
          · refine run _ fun v W' γ' k1 k2 k3 => ?_
            exact (exT_ok hE hG hT (Q' := Q') t' F' ⟨S'.T, S.n⟩ γ' _ W' t2 u hu hl (nextR v W' γ' k1 k2 k3) (hx.trans k2)).2.2 hK
        · rename_i hb
          have hw := gd_wanted rep hg hb
          split at h
          case h_2 => cases h
          rename_i F' hF'
          split at h
          case h_2 => cases h
          rename_i u hu
          injection h with h; subst h
          have rep' : Rep E P nt mk F' S.T.get γ (a.put op.dst undef) W := putF_ok (S' := S) (kv := .t []) rep (by rw [← hdst]; exact hF') hd (Ext.refl _ _) rep.heap (by simp only [Is]; exact ⟨[], IsL.nil, rfl⟩)
          obtain ⟨u1, u2, u3⟩ := exT_ok hE hG hT (Q' := Q') t' F' S γ _ W t2 u hu hl rep' hx
          refine ⟨fun d hd' => ?_, u2, fun hK => ?_⟩
          · obtain ⟨e1, e2⟩ := putF_far hF' hd'
            rw [← e1]; exact u1 d e2
          · show stepS r P ops Q' op _ a W
            unfold stepS
            rw [if_neg (by simp [hw])]
            exact u3 hK
        · cases h
end
end Go.Kx
