/- The runner, part 12: the run is sound; a closed function's contract from its run. -/
import Derived.Test.YtfgdmcnlbgbleaaDoorKxAlt
set_option linter.unusedSimpArgs false
set_option linter.unusedVariables false
set_option linter.unnecessarySimpa false
namespace Go.Kx
open Go
open Go.Sx (Grow Keep XC XS XI XK CK NK cmp cmpF cmpL cmpO cmpI cmpG theOrder Jump Ran SV SO kEq cmpK pureK readK nth takeL dropL fnOk WF Post NoPanic CallsV endPostM wpS)

section
variable {P : Program} {E : KE} {C : Cfg}

theorem Rep.marked {nt : Nat} {l : List Nat} {F : Tr KV} {S S' : KS} {γ γ' : Nat → Gh} {a : Act} {W W' : World} (rep : Rep E P nt l F S.T.get γ a W) (x : Ext S.T.get γ S'.T.get γ') (hh : HeapOk E P S'.T.get γ' W') {d g : Nat} (hd : Fixd S'.T.get d) (hg : (γ' d).g = g) :
    Rep E P nt (d :: l) F S'.T.get γ' { a with defers := [{ target := .collected g, args := #[] }] ++ a.defers } W' := by
  have r2 := rep.ext x hh
  exact ⟨r2.size, r2.frame, by show _ ++ a.defers = _; rw [r2.defers, List.map_cons, hg]; rfl, fun i hi => by
    rcases List.mem_cons.1 hi with rfl | hi
    · exact hd
    · exact r2.marks i hi, hh⟩

theorem rngF_ok (hE : E.Ok) (hG : SameG C E) (hT : TabOk P C) {n nt : Nat} (ih : Sd P E C n) {r : Option Nat} (hr : r = none) {g : Operand} {ps : List Nat} {as bd : XC} {k : List KI} {F : Tr KV} {S : KS} {l : List Nat} {out : Out} {γ : Nat → Gh} {a : Act} {W : World} {Qk : Post}
    (h : rngF C (run C n) nt g ps as bd k F S l = some out) (rep : Rep E P nt l F S.T.get γ a W)
    (next : ∀ k2 S2 γ2 a2 W2 l2, run C n nt k2 F S2 (some l2) = some out → Rep E P nt l2 F S2.T.get γ2 a2 W2 → Ext S.T.get γ S2.T.get γ2 → (k2 = k → Qk .normal a2 W2) ∧ (∀ j, k2 = .c j :: k → ∀ c', cmp P theOrder nt c' = some j → c'.wpIn (WF r) 0 P Qk a2 W2))
    {c' : Code} (hc : cmp P theOrder nt c' = some (.rng g ps as bd)) : c'.wpIn (WF r) 0 P Qk a W := by
  obtain ⟨ps', c1, c2, rfl, hps, h1, h2⟩ := Sx.cmp_rng hc
  unfold rngF at h
  have hg := rep.ev g
  generalize ev F g = kg at h hg
  split at h
  case h_2 => cases h
  rename_i gf caps
  split at h
  case h_2 => cases h
  rename_i d S1 hs1
  split at h
  case h_2 => cases h
  rename_i i S2 hs2
  split at h
  case h_2 => cases h
  rename_i kv S3 hcall
  simp only [Is] at hg
  obtain ⟨xs, ys, hxs, hys, hgv⟩ := hg
  simp only [IsL] at hxs
  subst hxs
  obtain ⟨hn1, ek1⟩ := newE_get hs1
  obtain ⟨hn2, ek2⟩ := newE_get hs2
  refine wpIn_rangeFunc (F := WF r) ?_
  intro fn _
  have hround : (WF r).round = none := hr
  let rec' : Loop := { state := .ready, pending := none, fn, tmps := a.tmps, params := ps', assign := c1, body := c2, defers := W.heap.size }
  let W0 := W.alloc (.deferred (some []))
  let W1 := W0.alloc (.loop rec')
  let γ1 := upd γ d ⟨W.heap.size, 0, 0⟩
  let γ2 := upd γ1 i ⟨W.heap.size + 1, 0, 0⟩
  have hsz : W0.heap.size = W.heap.size + 1 := by simp [W0]
  have x1 : Ext S.T.get γ S1.T.get γ1 := by rw [ek1]; exact Ext.new hn1 _ _
  have hh0 : HeapOk E P S1.T.get γ1 W0 := by rw [ek1]; exact rep.heap.new hn1 _ _ ⟨W.heap.size, 0, 0⟩ rfl (World.alloc_heap_new W _)
  have x2 : Ext S1.T.get γ1 S2.T.get γ2 := by rw [ek2]; exact Ext.new hn2 _ _
  have hh1 : HeapOk E P S2.T.get γ2 W1 := by
    have x2' := x2
    rw [ek2] at x2' ⊢
    refine hh0.new hn2 (.loop rec') _ ⟨W.heap.size + 1, 0, 0⟩ (by simp only [KO.fp]; rw [hsz]) ?_
    refine ⟨rec', ?_, rfl, rfl, hps, h1, h2, rep.size, fun d => ((rep.frame d).ext x1).ext x2'⟩
    have := World.alloc_heap_new W0 (.loop rec')
    rw [hsz] at this; exact this
  have hd2 : Fixd S2.T.get d ∧ (γ2 d).g = W.heap.size := by
    have h3 : Fixd S1.T.get d := ⟨.df, by rw [ek1, upd_self], rfl⟩
    obtain ⟨q1, q2⟩ := x2.fix d h3
    exact ⟨q1, by rw [q2]; show (upd γ d _ d).g = _; rw [upd_self]⟩
  have hi2 : Fixd S2.T.get i ∧ (γ2 i).g = W.heap.size + 1 := ⟨⟨_, by rw [ek2, upd_self], rfl⟩, by show (upd γ1 i _ i).g = _; rw [upd_self]⟩
  have hLy : IsL S2.T.get γ2 (.y i :: caps) (.func (.yield (W.heap.size + 1)) #[] #[] :: ys) := IsL.cons (by simp only [Is]; exact ⟨hi2.1, by rw [hi2.2]⟩) ((hys.ext x1).ext x2)
  obtain ⟨hok, hcv⟩ := callF_ok hE hG hT ih hcall hh1 hLy
  refine ⟨W.heap.size + 1, [{ target := .collected W.heap.size, args := #[] }], W1, { target := .fn (.func gf) ys.toArray, args := #[.func (.yield (W.heap.size + 1)) #[] #[]] }, W1, gf, #[.func (.yield (W.heap.size + 1)) #[] #[]] ++ ys.toArray, W1, ?_, ?_, fun _ _ => trivial, ?_, fun h => by simp [WF, Fence.wide] at h, ?_⟩
  · rw [hround]; exact run_enterLoop_outer _ _ _ _ _
  · have ec : a.eval (.const (.func (.yield (W.heap.size + 1)) #[] #[])) = .func (.yield (W.heap.size + 1)) #[] #[] := rfl
    simp [resolve, hgv, Deferred.ofValue, ec]
  · simp only [invoke]
    exact Sx.run_callFunc hok _ _
  · refine Sx.callsIn_WF.2 ?_
    have hargs : (#[.func (.yield (W.heap.size + 1)) #[] #[]] ++ ys.toArray : Array Value) = (.func (.yield (W.heap.size + 1)) #[] #[] :: ys).toArray := by simp
    rw [hargs]
    refine Calls.mono hcv fun e W3 he => ?_
    cases e with
    | panicked ch => exact he.elim
    | outgrown => exact he.elim
    | returned v =>
      obtain ⟨γ3, _, x3, hh3⟩ := he
      have x03 := (x1.trans x2).trans x3
      have hi3 := (x3.fix i hi2.1).2.trans hi2.2
      have hd3 := x3.fix d hd2.1
      have fin : ∀ (nt' : Nat) (F' : Tr KV) (ps' : List Nat) (as' bd' : XC) (st : LoopState) (pe : Option Jump) (S4 : KS), S3.T.get i = some (.lp nt' F' ps' as' bd' st pe) → st ≠ .busy → setE S3 i (.lp nt' F' ps' as' bd' .exhausted pe) = some S4 →
          ∃ W4, (Instr.endLoop (W.heap.size + 1)).run P W3 = .ok (pe.map Jump.code) W4 ∧ Rep E P nt (d :: l) F S4.T.get γ3 { a with defers := [{ target := .collected W.heap.size, args := #[] }] ++ a.defers } W4 ∧ Ext S.T.get γ S4.T.get γ3 := by
        intro nt' F' ps' as' bd' st pe S4 hi hst hs4
        obtain ⟨rec3, hr3, f1, f2, f3, f4, f5, f6, f7⟩ := hh3.ents _ _ hi
        have hr3' : W3.heap[W.heap.size + 1]? = some (.loop rec3) := by rw [← hi3]; exact hr3
        obtain ⟨x4, hh4⟩ := putObj_ok (e' := .lp nt' F' ps' as' bd' .exhausted pe) hh3 hi rfl rfl rfl (fun g hg => by simp [KO.fp] at hg; exact hg.symm) (.loop { rec3 with state := .exhausted }) hs4 (fun h' x' =>
          ⟨{ rec3 with state := .exhausted }, World.putObj_heap_same (hh3.fresh _ _ _ hi rfl).2, rfl, f2, f3, f4, f5, f6, fun d => (f7 d).ext x'⟩)
        rw [hi3] at hh4
        refine ⟨_, by rw [← f2]; exact run_endLoop hr3' (by rw [f1]; exact hst), ?_, x03.trans x4⟩
        exact rep.marked (x03.trans x4) hh4 (x4.fix d hd3.1).1 (hd3.2.trans hd2.2)
      split at h
      · rename_i nt' F' ps' as' bd' hi
        split at h
        case h_2 => cases h
        rename_i S4 hs4
        obtain ⟨W4, hrun, rep4, x4⟩ := fin nt' F' ps' as' bd' .ready none S4 hi (by simp) hs4
        exact ⟨none, W4, hrun, (next k S4 γ3 _ W4 (d :: l) h rep4 x4).1 rfl⟩
      · rename_i nt' F' ps' as' bd' j hi
        split at h
        case h_2 => cases h
        rename_i S4 hs4
        obtain ⟨W4, hrun, rep4, x4⟩ := fin nt' F' ps' as' bd' .done (some j) S4 hi (by simp) hs4
        exact ⟨some j.code, W4, hrun, (next _ S4 γ3 _ W4 (d :: l) h rep4 x4).2 j.xc rfl j.code (by cases j <;> rfl)⟩
      · cases h

theorem sd_all (hE : E.Ok) (hG : SameG C E) (hT : TabOk P C) : ∀ n, Sd P E C n := by
  intro n
  induction n using Nat.strongRecOn with
  | _ n ih =>
  intro r Q hQ h0 γ0 nt k F S mk out k' γ a W hmk hrun hHQ hM rep hx
  cases n with
  | zero => rw [run_zero] at hrun; cases hrun
  | succ n =>
  have ihn := ih n (Nat.lt_succ_self n)
  have next : ∀ (k : List KI) (k' : List KJ) (F2 : Tr KV) (S2 : KS) (mk2 : Option (List Nat)) (γ2 : Nat → Gh) (a2 : Act) (W2 : World), run C n nt k F2 S2 mk2 = some out → mk2.isSome = mk.isSome →
      Match (fun m k2 I => m < n + 1 → ∀ F2 S2 mk2 γ2 a2 W2, mk2.isSome = mk.isSome → run C m nt k2 F2 S2 mk2 = some out → Rep E P nt (mk2.getD []) F2 S2.T.get γ2 a2 W2 → Ext h0 γ0 S2.T.get γ2 → I a2 W2) k k' →
      Rep E P nt (mk2.getD []) F2 S2.T.get γ2 a2 W2 → Ext h0 γ0 S2.T.get γ2 → den r P nt Q k' .normal a2 W2 := by
    intro k k' F2 S2 mk2 γ2 a2 W2 hr hm hM rep hx
    refine ihn r Q hQ h0 γ0 nt k F2 S2 mk2 out k' γ2 a2 W2 (fun h => hmk (by rw [← hm]; exact h)) hr (fun γ' a' W' h1 h2 h3 => hHQ γ' a' W' h1 h2 (h3.trans hm)) ?_ rep hx
    exact hM.mono fun m k I hz hlt F2 S2 mk3 γ2 a2 W2 e1 => hz (by omega) F2 S2 mk3 γ2 a2 W2 (e1.trans hm)
  rw [run_succ] at hrun
  match k, k', hM with
  | [], [], _ =>
    simp only [step, Option.some.injEq] at hrun; subst hrun
    exact hHQ γ a W rep hx rfl
  | .b id :: k, .b id' :: k', hM =>
    exact next k k' F S mk γ a W hrun rfl hM.2 rep hx
  | .l x :: k, .l I :: k', hM =>
    exact hM.1 n (by omega) F S mk γ a W rfl hrun rep hx
  | .c x :: k, .c x' :: k', hM =>
    obtain ⟨rfl, hM⟩ := hM
    show ∀ c', cmp P theOrder nt c' = some x → c'.wpIn (WF r) 0 P (den r P nt Q k') a W
    intro c' hc
    cases x with
    | skip =>
      rw [Sx.cmp_skip hc]
      exact wpIn_skip (next k k' F S mk γ a W hrun rfl hM rep hx)
    | lab =>
      obtain ⟨l, rfl⟩ := Sx.cmp_lab hc
      exact wpIn_label (next k k' F S mk γ a W hrun rfl hM rep hx)
    | scp x =>
      obtain ⟨c1, rfl, h1⟩ := Sx.cmp_scp hc
      exact Sx.wpIn_scope (den_quiet hQ k').2 (next (.c x :: k) (.c x :: k') F S mk γ a W hrun rfl ⟨rfl, hM⟩ rep hx c1 h1)
    | ops l =>
      have key : ∀ (ops : Array Oper) (ol : List Sx.RO) (W' : World), cmpL P nt ops ol = some l → Rep E P nt (mk.getD []) F S.T.get γ a W' → wpS r P ops (den r P nt Q k') ol a W' := fun ops ol W' hl rep' =>
        exOps_ok hE hG hT ihn l F S γ a W' ol hrun hl rep' hx fun F' S' γ' a' W' h1 h2 h3 => next k k' F' S' mk γ' a' W' h1 rfl hM h2 h3
      rcases Sx.cmp_ops hc with ⟨id, ops, rfl, hl⟩ | ⟨id, ops, is, ol, rfl, ho, hp, hl⟩
      · exact wpIn_region_list (Sx.wpS_list _ _ _ (key ops (ops.toList.map .op) W hl rep))
      · refine (Sx.ordOk (den_quiet hQ k').1).one id ops is ol a W ho hp fun W' e1 e2 e3 e4 => key ops ol W' hl ⟨rep.size, rep.frame, rep.defers, rep.marks, rep.heap.drawn e1 e2 e3 e4⟩
    | alt m t =>
      obtain ⟨id, ops, T, rt, rfl, ho, hp, hl⟩ := Sx.cmp_alt hc
      simp only [step] at hrun
      split at hrun
      case h_2 => cases hrun
      rename_i u hu
      refine (Sx.ordOk (den_quiet hQ k').1).tree id ops T rt a W ho hp fun W' e1 e2 e3 e4 => ?_
      have rep' : Rep E P nt (mk.getD []) F S.T.get γ a W' := ⟨rep.size, rep.frame, rep.defers, rep.marks, rep.heap.drawn e1 e2 e3 e4⟩
      exact (exT_ok (r := r) (ops := ops) (Q' := den r P nt Q k') hE hG hT t F ⟨S.T, S.n + m⟩ γ a W' rt u hu hl rep' hx).2.2 fun γ' a' W' h1 h2 => next k k' u.F u.S mk γ' a' W' hrun rfl hM h1 h2
    | seq x y =>
      obtain ⟨c1, c2, rfl, h1, h2⟩ := Sx.cmp_seq hc
      refine wpIn_seq ?_
      refine wpIn_mono (next (.c x :: .c y :: k) (.c x :: .c y :: k') F S mk γ a W hrun rfl ⟨rfl, rfl, hM⟩ rep hx c1 h1) fun e a' w' hq => ?_
      cases e with
      | normal => exact hq c2 h2
      | _ => exact hq
    | cond c x y =>
      obtain ⟨c1, c2, rfl, h1, h2⟩ := Sx.cmp_cond hc
      have hb := rep.ev c
      simp only [step] at hrun
      split at hrun
      · rename_i e
        exact wpIn_cond_true (kb_is e hb) (next (.c x :: k) (.c x :: k') F S mk γ a W hrun rfl ⟨rfl, hM⟩ rep hx c1 h1)
      · rename_i e
        exact wpIn_cond_false (kb_is e hb) (next (.c y :: k) (.c y :: k') F S mk γ a W hrun rfl ⟨rfl, hM⟩ rep hx c2 h2)
      · cases hrun
    | blk id x =>
      obtain ⟨c1, rfl, h1⟩ := Sx.cmp_blk hc
      exact wpIn_block (next (.c x :: .b id :: k) (.c x :: .b id :: k') F S mk γ a W hrun rfl ⟨rfl, rfl, hM⟩ rep hx c1 h1)
    | loop x =>
      obtain ⟨c1, rfl, h1⟩ := Sx.cmp_loop hc
      let M : (Nat × Tr KV × KS × Option (List Nat) × (Nat → Gh)) → Act → World → Prop := fun y a W => y.1 ≤ n ∧ y.2.2.2.1.isSome = mk.isSome ∧ run C (y.1 + 1) nt (.c (.loop x) :: k) y.2.1 y.2.2.1 y.2.2.2.1 = some out ∧ Rep E P nt (y.2.2.2.1.getD []) y.2.1 y.2.2.1.T.get y.2.2.2.2 a W ∧ Ext h0 γ0 y.2.2.1.T.get y.2.2.2.2
      refine wpIn_loop_fam M (fun y => y.1) ⟨(n, F, S, mk, γ), Nat.le_refl _, rfl, by rw [run_succ]; exact hrun, rep, hx⟩ ?_
      rintro ⟨m, F2, S2, mk2, γ2⟩ a2 W2 ⟨hm, hs, hr2, rep2, hx2⟩
      have hm : m ≤ n := hm
      have hs : mk2.isSome = mk.isSome := hs
      have hr2 : run C (m + 1) nt (.c (.loop x) :: k) F2 S2 mk2 = some out := hr2
      rw [run_succ] at hr2
      have hr3 : run C m nt (.c x :: .l x :: k) F2 S2 mk2 = some out := hr2
      let I : Act → World → Prop := fun a' W' => ∃ y, M y a' W' ∧ y.1 < m
      have := ih m (by omega) r Q hQ h0 γ0 nt (.c x :: .l x :: k) F2 S2 mk2 out (.c x :: .l I :: k') γ2 a2 W2 (fun h => hmk (by rw [← hs]; exact h)) hr3 (fun γ' a' W' h1 h2 h3 => hHQ γ' a' W' h1 h2 (h3.trans hs)) ?_ rep2 hx2 c1 h1
      · refine wpIn_mono this fun e a' w' hq => ?_
        cases e with
        | normal => exact hq
        | _ => exact hq
      · refine ⟨rfl, fun m2 hlt F3 S3 mk3 γ3 a3 W3 e1 e2 e3 e4 => ?_, hM.mono fun m2 k2 I2 hz hlt F3 S3 mk3 γ3 a3 W3 e1 => hz (by omega) F3 S3 mk3 γ3 a3 W3 (e1.trans hs)⟩
        cases m2 with
        | zero => rw [run_zero] at e2; cases e2
        | succ m2 => exact ⟨(m2, F3, S3, mk3, γ3), ⟨by show m2 ≤ n; omega, e1.trans hs, e2, e3, e4⟩, by show m2 < m; omega⟩
    | exit id =>
      rw [Sx.cmp_exit hc]
      refine wpIn_exit ?_
      simp only [step] at hrun
      split at hrun
      · rename_i k2 hp
        obtain ⟨k2', hM2, hd⟩ := den_exit (r := r) (P := P) (nt := nt) (Q := Q) (a := a) (W := W) k k' hp hM
        exact hd (next k2 k2' F S mk γ a W hrun rfl hM2 rep hx)
      · rename_i hp
        injection hrun with hrun; subst hrun
        exact den_exit_none k k' hp hM (hHQ γ a W rep hx rfl)
    | ret =>
      rw [Sx.cmp_ret hc]
      simp only [step, Option.some.injEq] at hrun; subst hrun
      exact wpIn_ret (den_ret k' (hHQ γ a W rep hx rfl))
    | ref i => exact (Sx.cmp_ref hc).elim
    | rng g ps as bd =>
      cases mk with
      | none => simp only [step] at hrun; cases hrun
      | some l =>
        have hrun : rngF C (run C n) nt g ps as bd k F S l = some out := hrun
        refine rngF_ok hE hG hT ihn (hmk rfl) hrun rep (fun k2 S2 γ2 a2 W2 l2 h1 h2 h3 => ⟨fun e => ?_, fun j e c2 hc2 => ?_⟩) hc
        · subst e; exact next k2 k' F S2 (some l2) γ2 a2 W2 h1 rfl hM h2 (hx.trans h3)
        · subst e; exact next (.c j :: k) (.c j :: k') F S2 (some l2) γ2 a2 W2 h1 rfl ⟨rfl, hM⟩ h2 (hx.trans h3) c2 hc2
  | [], _ :: _, hM => exact hM.elim
  | .b _ :: _, [], hM => exact hM.elim
  | .b _ :: _, .c _ :: _, hM => exact hM.elim
  | .b _ :: _, .l _ :: _, hM => exact hM.elim
  | .l _ :: _, [], hM => exact hM.elim
  | .l _ :: _, .c _ :: _, hM => exact hM.elim
  | .l _ :: _, .b _ :: _, hM => exact hM.elim
  | .c _ :: _, [], hM => exact hM.elim
  | .c _ :: _, .b _ :: _, hM => exact hM.elim
  | .c _ :: _, .l _ :: _, hM => exact hM.elim

theorem closed_call (hT : TabOk P C) {w : World} (hG : (KE.mk w w.heap.size C.G).Ok) (hq : C.q w) {n : Nat} {f : FuncId} {args : List Value} {v : Value} {S' : KS} (h : callF C (run C n) f (args.map .v) ⟨.e, 0⟩ = some (.v v, S')) : CallsV P f args w fun u w' => u = v ∧ Sx.Fresh w w' := by
  have hh : HeapOk ⟨w, w.heap.size, C.G⟩ P (⟨.e, 0⟩ : KS).T.get (fun _ => ⟨0, 0, 0⟩) w := ⟨Keep.refl _ _, Nat.le_refl _, fun i e hi => by simp [Tr.get] at hi, fun i e g hi => by simp [Tr.get] at hi, fun i j e e' g _ hi => by simp [Tr.get] at hi⟩
  obtain ⟨_, hc⟩ := callF_ok hG ⟨rfl, rfl, hq⟩ hT (sd_all hG ⟨rfl, rfl, hq⟩ hT n) h hh (IsL.vals args)
  refine hc.mono fun u w' ⟨γ', h1, _, h3⟩ => ?_
  simp only [Is] at h1
  exact ⟨h1, h3.keep⟩
end
end Go.Kx
