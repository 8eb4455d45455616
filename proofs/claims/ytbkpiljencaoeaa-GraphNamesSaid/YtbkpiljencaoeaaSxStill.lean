/- The engine: rules for what is looked at again behind a turn of the world, and for operations in more than one order. -/
import Derived.Test.YtbkpiljencaoeaaSxLib
set_option linter.unusedSimpArgs false
set_option linter.unusedVariables false
set_option linter.unnecessarySimpa false
namespace Go.Sx
section
variable {C : Cx} {E : Env}
def Det (H : List SO) (sv : SV) : Prop := ∀ u v, Is H sv u → Is H sv v → u = v
theorem stillAt_of {s : SS} {a : Act} {W : World} {ops : Array Oper} {o : Oper} {d : Nat} {x : XK} (rep : Rep E s a W) (hd : o.dst = some d) (hi : cmpK C.P o.op = some x) (hr : readK x = true)
  (hx : xk E s (fun sv _ => sv = lk s.F d ∧ Det s.H sv) x) : StillAt C.P ops o a W := by
 intro hw d' hd' W2 hg
 rw [hd] at hd'; injection hd' with hd'; subst hd'
 have h := xk_sound hi rep hx
 have hnp : pureK x = false := by cases x <;> first | rfl | (simp [readK] at hr)
 unfold ResK at h
 rw [if_neg (by simp [hnp]), if_pos hr] at h
 obtain ⟨v, sv, h1, ⟨rfl, h2⟩, h3⟩ := h
 rw [h1 W2 hg, h2 _ _ h3 (rep.frame d)]
theorem still_rule {dst : Option Nat} {d : Nat} {x : XK} {l : List XS} {k : List KI} {s : SS} (hx : xk E s (fun sv _ => sv = lk s.F d ∧ Det s.H sv) x) (next : G C E (.ops l :: k) s) :
  G C E (.ops ({ dst := dst, guard := none, i := .still d x } :: l) :: k) s := by
 intro a W rep ops ol hol
 obtain ⟨q, rest, rfl, ho, hl⟩ := cmpL_cons hol
 obtain ⟨op, rfl, hd, hlt, hdst, hg, hi, hr⟩ := cmpO_still ho rfl
 exact ⟨stillAt_of rep hd hi hr hx, next a W rep ops rest hl⟩
variable {k : List KI} {t : XT} {s : SS}
end
end Go.Sx
namespace Go.Sx
theorem callv_rule {C : Cx} {E : Env} {d : Option Nat} {x : Operand} {f : FuncId} {fst caps : List Value} {args : List Operand} {l : List XS} {k : List KI} {s : SS} {vs : List Value} (hx : den s.H (ev s.F x) = some (.func (.func f) fst.toArray caps.toArray)) (hok : fnOk C.P f = true)
  (hargs : denL s.H (evL s.F args) = some vs) {R : World → Value → World → Prop} (hc : ∀ W, HeapOk E s.H W → CallsV C.P f (fst ++ vs ++ caps) W (R W))
  (next : ∀ W v W', HeapOk E s.H W → R W v W' → ∃ sv H', Is H' sv v ∧ HExt s.H H' ∧ HeapOk E H' W' ∧ G C E (.ops l :: k) { F := putF s.F d sv, H := H' }) :
  G C E (.ops ({ dst := d, guard := none, i := .callv x args } :: l) :: k) s := by
 intro a W rep ops ol hol
 obtain ⟨q, rest, rfl, ho, hl⟩ := cmpL_cons hol
 obtain ⟨op, rfl, hd, hdst, hg, hi⟩ := cmpO_spec ho rfl
 obtain ⟨c, hop, hcal, hargs'⟩ := cmpI_callv hi
 have hn := cmpK_none hi (by simp)
 have hw := wanted_none hg a
 show stepS C.r C.P ops _ op _ a W
 unfold stepS
 rw [if_pos hw, cl_other hop hn]
 refine ⟨fun _ _ => trivial, ?_⟩
 have hnd : ∀ c', op.op ≠ .defer c' := by intro c' e; rw [hop] at e; cases e
 have hvs : (c.args.map a.eval) = vs.toArray := by
  have := denL_is _ hargs (rep.evL args)
  rw [← hargs'] at this
  rw [← this, ← Array.toList_map, Array.toArray_toList]
 have hfv : a.eval x = .func (.func f) fst.toArray caps.toArray := den_is _ hx (rep.ev x)
 have hrun : (execOp a.eval op).run C.P W = .ok (.enter f (fst ++ vs ++ caps).toArray) W := by
  simp only [execOp, hop, resolve, hcal, hfv, hvs, Deferred.ofValue, Sem.run_bind, Sem.run_pure, Result.andThen_ok, invoke]
  have e : fst.toArray ++ vs.toArray ++ caps.toArray = (fst ++ vs ++ caps).toArray := by simp
  first | (rw [e]; exact run_callFunc hok _ W) | (simp only [List.append_toArray]; exact run_callFunc hok _ W)
 rw [Oper.semAt_eq _ _ _ hnd, hrun]
 refine ⟨fun h => by simp [WF, Fence.wide] at h, ?_⟩
 refine callsIn_WF.2 ?_
 refine Calls.mono (hc W rep.heap) fun e W' he => ?_
 cases e with
 | returned v =>
  obtain ⟨sv, H', h1, h2, h3, h4⟩ := next W v W' rep.heap he
  have hdst' : d = op.dst := hdst
  have := h4 (a.put op.dst v) W' (by rw [← hdst']; exact (rep.ext h2 h3).put (fun m hm => hd m (by rw [← hdst']; exact hm)) h1)
  exact this ops rest hl
 | panicked ch => exact he.elim
 | outgrown => exact he.elim
theorem callv_val {C : Cx} {E : Env} {d : Option Nat} {x : Operand} {f : FuncId} {fst caps : List Value} {args : List Operand} {l : List XS} {k : List KI} {s : SS} {vs : List Value} (hx : den s.H (ev s.F x) = some (.func (.func f) fst.toArray caps.toArray)) (hok : fnOk C.P f = true)
  (hargs : denL s.H (evL s.F args) = some vs) {R : Value → Prop} (hc : ∀ W, HeapOk E s.H W → CallsV C.P f (fst ++ vs ++ caps) W fun v W' => R v ∧ Fresh W W')
  (next : ∀ v, R v → ∃ sv, Is s.H sv v ∧ G C E (.ops l :: k) { F := putF s.F d sv, H := s.H }) :
  G C E (.ops ({ dst := d, guard := none, i := .callv x args } :: l) :: k) s := by
 refine callv_rule hx hok hargs (R := fun W v W' => R v ∧ Fresh W W') hc fun W v W' hW hr => ?_
 obtain ⟨sv, h1, h2⟩ := next v hr.1
 exact ⟨sv, s.H, h1, HExt.refl _, hW.freshK hr.2, h2⟩
theorem det_of_den {H : List SO} {sv : SV} {u : Value} (h : den H sv = some u) : Det H sv := fun a b ha hb => (den_is _ h ha).trans (den_is _ h hb).symm
theorem still_y {C : Cx} {E : Env} {dst : Option Nat} {d : Nat} {x : XK} {l : List XS} {k : List KI} {F : List (Nat × SV)} {H : List SO} (hx : yk E F H (fun sv _ => sv = lk F d ∧ Det H sv) x) (next : G C E (.ops l :: k) { F := F, H := H }) :
  G C E (.ops ({ dst := dst, guard := none, i := .still d x } :: l) :: k) { F := F, H := H } :=
 still_rule (s := { F := F, H := H }) (yk_xk (s := { F := F, H := H }) hx) next
inductive RV where
 | tmp (t : Nat)
 | cell (t n : Nat) (agg : Bool)
theorem HeapOk.cellsAt {E : Env} {H : List SO} {W : World} (h : HeapOk E H W) {i g : Nat} {t : TypeId} {l : List SV} {xs : List Value} (hi : nth H i = some (.cells g t l)) (hx : denL H l = some xs) : RowAt W (some ⟨g, 0, none⟩) xs := by
 obtain ⟨c, hc, hL⟩ := h.ents i _ hi
 have hc : W.heap[g]? = some (.cells c t (0, 0)) := hc
 have e := denL_is _ hx hL
 intro j u hj
 refine ⟨_, rfl, (Array.getElem?_eq_some_iff.1 hc).1, ?_⟩
 rw [cell_flat W g j hc]
 rw [← e] at hj; simpa using hj
theorem HeapOk.cellsRow {E : Env} {H : List SO} {W : World} (h : HeapOk E H W) {i g : Nat} {t : TypeId} {xs : List Value} (hi : nth H i = some (.row g t xs)) : RowAt W (some ⟨g, 0, none⟩) xs := by
 have hc : W.heap[g]? = some (.cells xs.toArray t (0, 0)) := h.ents i _ hi
 intro j u hj
 refine ⟨_, rfl, (Array.getElem?_eq_some_iff.1 hc).1, ?_⟩
 rw [cell_flat W g j hc]; simpa using hj
end Go.Sx
namespace Go.Sx
section
variable {C : Cx} {E : Env} {n : Nat} {k : List KI} {F : List (Nat × SV)} {H : List SO}
end
theorem Y_0 {C : Cx} {E : Env} {k : List KI} {F : List (Nat × SV)} {H : List SO} : Y C E 0 k F H = G C E k { F := F, H := H } := rfl
theorem denK_goto {T : Nat → XC} {r : Option Nat} {P : Program} {ord : Order} {nt : Nat} {Q : Post} {lb : _} {a : Act} {W : World} : ∀ k, denK T r P ord nt Q k (.goto lb) a W → Q (.goto lb) a W
 | [], h => h
 | .code _ :: k, h => denK_goto k h
 | .ops _ :: k, h => denK_goto k h
 | .blk _ :: k, h => denK_goto k h
 | .lend _ :: k, h => denK_goto k h
theorem scp_rule {C : Cx} {E : Env} {c : XC} {k : List KI} {s : SS} (hg : ∀ l a w, ¬ C.Q (.goto l) a w) (h : G C E (.code c :: k) s) : G C E (.code (.scp c) :: k) s := by
 intro a W rep n cc hc
 rw [expand_scp] at hc
 obtain ⟨c1, rfl, h1⟩ := cmp_scp hc
 exact wpIn_scope (fun l a w q => hg l a w (denK_goto k q)) (h a W rep n c1 h1)
end Go.Sx
