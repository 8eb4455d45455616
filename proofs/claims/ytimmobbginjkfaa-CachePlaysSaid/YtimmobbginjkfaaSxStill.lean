/- The engine: rules for what is looked at again behind a turn of the world, and for operations in more than one order. -/
import Derived.Test.YtimmobbginjkfaaSxLib
set_option linter.unusedSimpArgs false
set_option linter.unusedVariables false
set_option linter.unnecessarySimpa false
namespace Go.Sx
section
variable {C : Cx} {E : Env}
def Det (H : List SO) (sv : SV) : Prop := ∀ u v, Is H sv u → Is H sv v → u = v
theorem stillAt_of {s : SS} {a : Act} {W : World} {ops : Array Oper} {o : Oper} {d : Nat} {x : XK} (rep : Rep E s a W) (hd : o.dst = some d) (hi : cmpK C.P o.op = some x) (hr : readK x = true)
  (hx : xk E s (fun sv _ => sv = lk s.F d ∧ Det s.H sv) x) : StillAt C.P ops o a W := by
 intro hw d' hd' W2 hg
 rw [hd] at hd'; injection hd' with hd'; subst hd'
 have h := xk_sound hi rep hx
 have hnp : pureK x = false := by cases x <;> first | rfl | (simp [readK] at hr)
 unfold ResK at h
 rw [if_neg (by simp [hnp]), if_pos hr] at h
 obtain ⟨v, sv, h1, ⟨rfl, h2⟩, h3⟩ := h
 rw [h1 W2 hg, h2 _ _ h3 (rep.frame d)]
theorem still_rule {dst : Option Nat} {d : Nat} {x : XK} {l : List XS} {k : List KI} {s : SS} (hx : xk E s (fun sv _ => sv = lk s.F d ∧ Det s.H sv) x) (next : G C E (.ops l :: k) s) :
  G C E (.ops ({ dst := dst, guard := none, i := .still d x } :: l) :: k) s := by
 intro a W rep ops ol hol
 obtain ⟨q, rest, rfl, ho, hl⟩ := cmpL_cons hol
 obtain ⟨op, rfl, hd, hlt, hdst, hg, hi, hr⟩ := cmpO_still ho rfl
 exact ⟨stillAt_of rep hd hi hr hx, next a W rep ops rest hl⟩
variable {k : List KI} {t : XT} {s : SS}
end
end Go.Sx
namespace Go.Sx
theorem det_of_den {H : List SO} {sv : SV} {u : Value} (h : den H sv = some u) : Det H sv := fun a b ha hb => (den_is _ h ha).trans (den_is _ h hb).symm
theorem still_y {C : Cx} {E : Env} {dst : Option Nat} {d : Nat} {x : XK} {l : List XS} {k : List KI} {F : List (Nat × SV)} {H : List SO} (hx : yk E F H (fun sv _ => sv = lk F d ∧ Det H sv) x) (next : G C E (.ops l :: k) { F := F, H := H }) :
  G C E (.ops ({ dst := dst, guard := none, i := .still d x } :: l) :: k) { F := F, H := H } :=
 still_rule (s := { F := F, H := H }) (yk_xk (s := { F := F, H := H }) hx) next
inductive RV where
 | tmp (t : Nat)
 | cell (t n : Nat) (agg : Bool)
def rvOf (P : Program) : List ResultVar → Option (List RV)
 | [] => some []
 | .tmp t :: l => match rvOf P l with | some r => some (.tmp t :: r) | none => none
 | .cell t ty :: l => match P.underlying ty, szT P ty, rvOf P l with
  | some _, some n, some r => some (.cell t n (isAggT P ty) :: r)
  | _, _, _ => none
def oneV : Bool → List Value → Option Value
 | true, us => some (.agg us.toArray)
 | false, [u] => some u
 | _, _ => none
def cellV (H : List SO) (n : Nat) (agg : Bool) : SV → Option Value
 | .ptr i off => match nth H i with
  | some (.cells _ _ c) => (match takeL n (dropL off c) with
   | some svs => (match denL H svs with | some us => oneV agg us | none => none)
   | none => none)
  | some (.row _ _ xs) => (match takeL n (dropL off xs) with | some us => oneV agg us | none => none)
  | _ => none
 | _ => none
def denR (H : List SO) (F : List (Nat × SV)) : List RV → Option (List Value)
 | [] => some []
 | .tmp t :: l => match den H (lk F t), denR H F l with | some v, some r => some (v :: r) | _, _ => none
 | .cell t n agg :: l => match cellV H n agg (lk F t), denR H F l with | some v, some r => some (v :: r) | _, _ => none
theorem IsL.dropX {H : List SO} : ∀ (n : Nat) {l : List SV} {vs : List Value}, IsL H l vs → IsL H (l.drop n) (vs.drop n)
 | 0, _, _, k => k
 | n + 1, [], _, k => by simp [IsL] at k; subst k; simp [IsL]
 | n + 1, s :: l, _, k => by
  simp only [IsL] at k; obtain ⟨v, r, hv, hr, rfl⟩ := k
  exact IsL.dropX n hr
theorem IsL.takeX {H : List SO} : ∀ (n : Nat) {l : List SV} {vs : List Value}, IsL H l vs → IsL H (l.take n) (vs.take n)
 | 0, _, _, _ => by simp [IsL]
 | n + 1, [], _, k => by simp [IsL] at k; subst k; simp [IsL]
 | n + 1, s :: l, _, k => by
  simp only [IsL] at k; obtain ⟨v, r, hv, hr, rfl⟩ := k
  simp only [List.take_succ_cons, IsL]
  exact ⟨v, _, hv, IsL.takeX n hr, rfl⟩
theorem run_loadVar {P : Program} {t : TypeId} {n : Nat} {td : TypeDesc} (hu : P.underlying t = some td) (hz : szT P t = some n) (A : Addr) (us : List Value) (hl : us.length = n) (W2 : World) (hc : ∀ j u, us[j]? = some u → W2.cell? (A.add j) = some u) {v : Value} (hv : oneV (isAggT P t) us = some v) :
  (loadVar t A).run P W2 = .ok v W2 := by
 have hlc := run_loadCells_list (P := P) W2 A us hc
 rw [hl] at hlc
 have hu' : (P.underlying t).isSome = true := by rw [hu]; rfl
 cases hg : isAggT P t with
 | true =>
  rw [hg] at hv; simp only [oneV] at hv; injection hv with hv; subst hv
  simp [loadVar, run_isAgg P t hu', hg, run_sizeOf hz, hlc]
 | false =>
  rw [hg] at hv
  unfold oneV at hv
  split at hv
  ·rename_i e; cases e
  ·rename_i u e
   injection hv with hv; subst hv
   have h0 := hc 0 u rfl
   have : (A.add 0) = A := by simp [Addr.add]
   rw [this] at h0
   simp [loadVar, run_isAgg P t hu', hg, run_load, h0]
  ·cases hv
theorem cellV_spec {E : Env} {P : Program} {s : SS} {a : Act} {W : World} (rep : Rep E s a W) {t n : Nat} {ty : TypeId} {td : TypeDesc} (hu : P.underlying ty = some td) (hz : szT P ty = some n) {v : Value} (h : cellV s.H n (isAggT P ty) (lk s.F t) = some v) :
  ∃ A, a.tmps.getD t undef = .pointer (some A) ∧ (loadVar ty A).run P W = .ok v W := by
 have hf := rep.frame t
 unfold cellV at h
 split at h
 case h_2 => cases h
 rename_i i off e
 rw [e] at hf
 simp only [Is] at hf
 obtain ⟨g, hb, hp⟩ := hf
 refine ⟨_, hp, ?_⟩
 split at h
 ·rename_i g' t' c hi
  rw [blk_eq, hi] at hb
  simp only [Option.bind_some, SO.blk, Option.some.injEq] at hb
  subst hb
  split at h
  case h_2 => cases h
  rename_i svs ht
  split at h
  case h_2 => cases h
  rename_i us hus
  obtain ⟨cs, hc, hL⟩ := rep.heap.ents i _ hi
  have hc : W.heap[g']? = some (.cells cs t' (0, 0)) := hc
  obtain ⟨h1, h2, h3⟩ := takeL_eq _ _ _ ht
  rw [dropL_eq] at h1
  have hLu := denL_is _ hus (h1 ▸ ((hL.dropX off).takeX n) : IsL s.H svs ((cs.toList.drop off).take n))
  refine run_loadVar hu hz _ us (by rw [← hLu]; have := ((hL.dropX off).takeX n).length; rw [this, ← h1, h2]) W (fun j u hj => ?_) h
  rw [← hLu, List.getElem?_take] at hj
  split at hj
  ·rw [List.getElem?_drop] at hj
   rw [show (Addr.add ⟨g', off, none⟩ j) = (⟨g', 0, none⟩ : Addr).add (off + j) by simp [Addr.add]; split <;> simp_all, cell_flat W g' _ hc]
   simpa using hj
  ·cases hj
 ·rename_i g' t' xs hi
  rw [blk_eq, hi] at hb
  simp only [Option.bind_some, SO.blk, Option.some.injEq] at hb
  subst hb
  split at h
  case h_2 => cases h
  rename_i us ht
  have hc : W.heap[g']? = some (.cells xs.toArray t' (0, 0)) := rep.heap.ents i _ hi
  obtain ⟨h1, h2, h3⟩ := takeL_eq _ _ _ ht
  rw [dropL_eq] at h1
  refine run_loadVar hu hz _ us h2 W (fun j u hj => ?_) h
  rw [h1, List.getElem?_take] at hj
  split at hj
  ·rw [List.getElem?_drop] at hj
   rw [show (Addr.add ⟨g', off, none⟩ j) = (⟨g', 0, none⟩ : Addr).add (off + j) by simp [Addr.add]; split <;> simp_all, cell_flat W g' _ hc]
   simpa using hj
  ·cases hj
 ·cases h
theorem denR_spec {E : Env} {P : Program} {s : SS} {a : Act} {W : World} (rep : Rep E s a W) (g : ResultVar → Sem Value) (hg1 : ∀ t, g (.tmp t) = pure (a.tmps.getD t undef)) (hg2 : ∀ t ty, g (.cell t ty) = (do loadVar ty (← asAddr (a.tmps.getD t undef)))) :
  ∀ (l : List ResultVar) (rs : List RV) (vs : List Value), rvOf P l = some rs → denR s.H s.F rs = some vs → (l.mapM g : Sem (List Value)).run P W = .ok vs W
 | [], rs, vs, h, hd => by simp [rvOf] at h; subst h; simp [denR] at hd; subst hd; rfl
 | .tmp t :: l, rs, vs, h, hd => by
  simp only [rvOf] at h
  split at h
  case h_2 => cases h
  rename_i r hr
  injection h with h; subst h
  simp only [denR] at hd
  split at hd
  case h_2 => cases hd
  rename_i v r' h1 h2
  injection hd with hd; subst hd
  rw [List.mapM_cons]
  simp only [hg1, Sem.run_bind, Sem.run_pure, Result.andThen_ok, denR_spec rep g hg1 hg2 l r r' hr h2, den_is _ h1 (rep.frame t)]
 | .cell t ty :: l, rs, vs, h, hd => by
  simp only [rvOf] at h
  split at h
  case h_2 => cases h
  rename_i td n r hu hz hr
  injection h with h; subst h
  simp only [denR] at hd
  split at hd
  case h_2 => cases hd
  rename_i v r' h1 h2
  injection hd with hd; subst hd
  obtain ⟨A, hp, hrun⟩ := cellV_spec rep hu hz h1
  rw [List.mapM_cons]
  simp only [hg2, hp, asAddr, Sem.run_bind, Sem.run_pure, Result.andThen_ok, hrun, denR_spec rep g hg1 hg2 l r r' hr h2]
theorem run_resultsR {E : Env} {P : Program} {s : SS} {a : Act} {W : World} (rep : Rep E s a W) {fn : Func} {rs : List RV} {vs : List Value} (hr : rvOf P fn.results.toList = some rs) (hv : denR s.H s.F rs = some vs) :
  (results fn a.tmps).run P W = .ok (tupOf vs) W := by
 unfold results
 have e : fn.results = fn.results.toList.toArray := by simp
 rw [e, List.mapM_toArray]
 simp only [Sem.run_bind, Sem.run_map]
 rw [denR_spec rep _ (fun t => rfl) (fun t ty => rfl) _ rs vs hr hv]
 simp only [Result.andThen_ok, Sem.run_pure]
 congr 1
 match vs with
 | [] => simp [tupOf]
 | [v] => simp [tupOf]
 | v :: u :: l => simp [tupOf]
theorem ret_rv {P : Program} {fn : Func} {keep : List Nat} {tab : Nat → XC} {R : Value → World → Prop} {E : Env} {s : SS} {rs : List RV} {vs : List Value} (hr : rvOf P fn.results.toList = some rs) (hm : E.marks = [])
  (hv : denR s.H s.F rs = some vs) (h : ∀ W, HeapOk E s.H W → R (tupOf vs) W) : RetG (cxOf P fn keep tab R) E s := by
 intro a W rep
 exact ⟨by rw [rep.defers, hm]; rfl, _, run_resultsR rep hr hv, h W rep.heap⟩
end Go.Sx
namespace Go.Sx
section
variable {C : Cx} {E : Env} {n : Nat} {k : List KI} {F : List (Nat × SV)} {H : List SO}
end
theorem denK_goto {T : Nat → XC} {r : Option Nat} {P : Program} {ord : Order} {nt : Nat} {Q : Post} {lb : _} {a : Act} {W : World} : ∀ k, denK T r P ord nt Q k (.goto lb) a W → Q (.goto lb) a W
 | [], h => h
 | .code _ :: k, h => denK_goto k h
 | .ops _ :: k, h => denK_goto k h
 | .blk _ :: k, h => denK_goto k h
 | .lend _ :: k, h => denK_goto k h
theorem scp_rule {C : Cx} {E : Env} {c : XC} {k : List KI} {s : SS} (hg : ∀ l a w, ¬ C.Q (.goto l) a w) (h : G C E (.code c :: k) s) : G C E (.code (.scp c) :: k) s := by
 intro a W rep n cc hc
 rw [expand_scp] at hc
 obtain ⟨c1, rfl, h1⟩ := cmp_scp hc
 exact wpIn_scope (fun l a w q => hg l a w (denK_goto k q)) (h a W rep n c1 h1)
end Go.Sx
