/- The engine: rules for what is looked at again behind a turn of the world, and for operations in more than one order. -/
import Derived.Test.YtlbiogokpadaoaaGreatDoorSxRange
set_option linter.unusedSimpArgs false
set_option linter.unusedVariables false
set_option linter.unnecessarySimpa false
namespace Go.Sx

section
variable {C : Cx} {E : Env}

def Det (H : List SO) (sv : SV) : Prop := ∀ u v, Is H sv u → Is H sv v → u = v

theorem stillAt_of {s : SS} {a : Act} {W : World} {ops : Array Oper} {o : Oper} {d : Nat} {x : XK} (rep : Rep E s a W) (hd : o.dst = some d) (hi : cmpK C.P o.op = some x) (hr : readK x = true)
    (hx : xk E s (fun sv _ => sv = lk s.F d ∧ Det s.H sv) x) : StillAt C.P ops o a W := by
  intro hw d' hd' W2 hg
  rw [hd] at hd'; injection hd' with hd'; subst hd'
  have h := xk_sound hi rep hx
  have hnp : pureK x = false := by cases x <;> first | rfl | (simp [readK] at hr)
  unfold ResK at h
  rw [if_neg (by simp [hnp]), if_pos hr] at h
  obtain ⟨v, sv, h1, ⟨rfl, h2⟩, h3⟩ := h
  rw [h1 W2 hg, h2 _ _ h3 (rep.frame d)]

theorem still_rule {dst : Option Nat} {d : Nat} {x : XK} {l : List XS} {k : List KI} {s : SS} (hx : xk E s (fun sv _ => sv = lk s.F d ∧ Det s.H sv) x) (next : G C E (.ops l :: k) s) :
    G C E (.ops ({ dst := dst, guard := none, i := .still d x } :: l) :: k) s := by
  intro a W rep ops ol hol
  obtain ⟨q, rest, rfl, ho, hl⟩ := cmpL_cons hol
  obtain ⟨op, rfl, hd, hlt, hdst, hg, hi, hr⟩ := cmpO_still ho rfl
  exact ⟨stillAt_of rep hd hi hr hx, next a W rep ops rest hl⟩

def GT (C : Cx) (E : Env) (k : List KI) (t : XT) (s : SS) : Prop :=
  ∀ a W, Rep E s a W → ∀ ops rt, cmpT C.P E.nt ops rt = some t → wpR C.r C.P ops (denK C.tab C.r C.P C.ord E.nt C.Q k) rt a W
variable {k : List KI} {t : XT} {s : SS}
theorem GT_done (h : G C E k s) : GT C E k .done s := by
  intro a W rep ops rt hc
  cases rt with
  | done => exact h a W rep
  | seq q j t => simp only [cmpT] at hc; split at hc <;> simp at hc
  | alt x y => simp only [cmpT] at hc; split at hc <;> simp at hc
theorem GT_alt {x y : XT} (hx : GT C E k x s) (hy : GT C E k y s) : GT C E k (.alt x y) s := by
  intro a W rep ops rt hc
  cases rt with
  | done => simp [cmpT] at hc
  | seq q j t => simp only [cmpT] at hc; split at hc <;> simp at hc
  | alt p q =>
    simp only [cmpT] at hc
    split at hc
    case h_2 => cases hc
    rename_i xt yt hp hq
    injection hc with hc; injection hc with e1 e2; subst e1; subst e2
    exact ⟨hx a W rep ops p hp, hy a W rep ops q hq⟩
theorem GT_seq {x : XS} {j : Nat} (h : ∀ a W, Rep E s a W → ∀ ops q rt, cmpO C.P E.nt ops q = some x → cmpT C.P E.nt ops rt = some t → wpR C.r C.P ops (denK C.tab C.r C.P C.ord E.nt C.Q k) (.seq q j rt) a W) : GT C E k (.seq x j t) s := by
  intro a W rep ops rt hc
  cases rt with
  | done => simp [cmpT] at hc
  | alt p q => simp only [cmpT] at hc; split at hc <;> simp at hc
  | seq q j2 t2 =>
    simp only [cmpT] at hc
    split at hc
    case h_2 => cases hc
    rename_i x' t' ho hl
    injection hc with hc; injection hc with e1 e2 e3; subst e1; subst e2; subst e3
    exact h a W rep ops q t2 ho hl
theorem GT_k {F : List (Nat × SV)} {H : List SO} {d : Option Nat} {x : XK} {j : Nat} (h : yk E F H (fun sv H' => GT C E k t { F := putF F d sv, H := H' }) x) : GT C E k (.seq { dst := d, guard := none, i := .k x } j t) { F := F, H := H } := by
  refine GT_seq fun a W rep ops q rt ho hl => ?_
  obtain ⟨op, rfl, hd, hdst, hg, hi⟩ := cmpO_spec ho rfl
  have hk := cmpI_k hi
  refine step_k hk rep (xk_sound hk rep (yk_xk (s := { F := F, H := H }) h)) (wanted_none hg a) ?_
  intro v W' sv H' hKs hIs hext hheap
  have hdst' : d = op.dst := hdst
  exact hKs (a.put op.dst v) W' (by rw [hdst']; exact (rep.ext hext hheap).put hd hIs) ops rt hl
theorem GT_still {dst : Option Nat} {d : Nat} {x : XK} {j : Nat} (hx : xk E s (fun sv _ => sv = lk s.F d ∧ Det s.H sv) x) (h : GT C E k t s) : GT C E k (.seq { dst := dst, guard := none, i := .still d x } j t) s := by
  refine GT_seq fun a W rep ops q rt ho hl => ?_
  obtain ⟨op, rfl, hd, hlt, hdst, hg, hi, hr⟩ := cmpO_still ho rfl
  exact ⟨stillAt_of rep hd hi hr hx, h a W rep ops rt hl⟩
theorem alt_rule {n : Nat} (hord : ∀ k, OrdOk C.r C.P C.ord (denK C.tab C.r C.P C.ord E.nt C.Q k)) (h : GT C E k t s) : G C E (.code (.alt n t) :: k) s := by
  intro a W rep m c hc
  rw [expand_alt] at hc
  obtain ⟨id, ops, T, rt, rfl, ho, hp, hl⟩ := cmp_alt hc
  exact (hord k).tree id ops T rt a W ho hp fun W' e1 e2 e3 e4 => h a W' ⟨rep.size, rep.frame, rep.defers, rep.heap.drawn e1 e2 e3 e4⟩ ops rt hl
end
end Go.Sx
