/- The engine: rules for what is looked at again behind a turn of the world, and for operations in more than one order. -/
import Derived.Test.YtbkpiljencaoeaaSxLib
set_option linter.unusedSimpArgs false
set_option linter.unusedVariables false
set_option linter.unnecessarySimpa false
namespace Go.Sx
section
variable {C : Cx} {E : Env}
def Det (H : List SO) (sv : SV) : Prop := ∀ u v, Is H sv u → Is H sv v → u = v
theorem stillAt_of {s : SS} {a : Act} {W : World} {ops : Array Oper} {o : Oper} {d : Nat} {x : XK} (rep : Rep E s a W) (hd : o.dst = some d) (hi : cmpK C.P o.op = some x) (hr : readK x = true)
  (hx : xk E s (fun sv _ => sv = lk s.F d ∧ Det s.H sv) x) : StillAt C.P ops o a W := by
 intro hw d' hd' W2 hg
 rw [hd] at hd'; injection hd' with hd'; subst hd'
 have h := xk_sound hi rep hx
 have hnp : pureK x = false := by cases x <;> first | rfl | (simp [readK] at hr)
 unfold ResK at h
 rw [if_neg (by simp [hnp]), if_pos hr] at h
 obtain ⟨v, sv, h1, ⟨rfl, h2⟩, h3⟩ := h
 rw [h1 W2 hg, h2 _ _ h3 (rep.frame d)]
theorem still_rule {dst : Option Nat} {d : Nat} {x : XK} {l : List XS} {k : List KI} {s : SS} (hx : xk E s (fun sv _ => sv = lk s.F d ∧ Det s.H sv) x) (next : G C E (.ops l :: k) s) :
  G C E (.ops ({ dst := dst, guard := none, i := .still d x } :: l) :: k) s := by
 intro a W rep ops ol hol
 obtain ⟨q, rest, rfl, ho, hl⟩ := cmpL_cons hol
 obtain ⟨op, rfl, hd, hlt, hdst, hg, hi, hr⟩ := cmpO_still ho rfl
 exact ⟨stillAt_of rep hd hi hr hx, next a W rep ops rest hl⟩
variable {k : List KI} {t : XT} {s : SS}
end
end Go.Sx
namespace Go.Sx
theorem det_of_den {H : List SO} {sv : SV} {u : Value} (h : den H sv = some u) : Det H sv := fun a b ha hb => (den_is _ h ha).trans (den_is _ h hb).symm
theorem still_y {C : Cx} {E : Env} {dst : Option Nat} {d : Nat} {x : XK} {l : List XS} {k : List KI} {F : List (Nat × SV)} {H : List SO} (hx : yk E F H (fun sv _ => sv = lk F d ∧ Det H sv) x) (next : G C E (.ops l :: k) { F := F, H := H }) :
  G C E (.ops ({ dst := dst, guard := none, i := .still d x } :: l) :: k) { F := F, H := H } :=
 still_rule (s := { F := F, H := H }) (yk_xk (s := { F := F, H := H }) hx) next
inductive RV where
 | tmp (t : Nat)
 | cell (t n : Nat) (agg : Bool)
end Go.Sx
namespace Go.Sx
section
variable {C : Cx} {E : Env} {n : Nat} {k : List KI} {F : List (Nat × SV)} {H : List SO}
end
theorem Y_0 {C : Cx} {E : Env} {k : List KI} {F : List (Nat × SV)} {H : List SO} : Y C E 0 k F H = G C E k { F := F, H := H } := rfl
theorem denK_goto {T : Nat → XC} {r : Option Nat} {P : Program} {ord : Order} {nt : Nat} {Q : Post} {lb : _} {a : Act} {W : World} : ∀ k, denK T r P ord nt Q k (.goto lb) a W → Q (.goto lb) a W
 | [], h => h
 | .code _ :: k, h => denK_goto k h
 | .ops _ :: k, h => denK_goto k h
 | .blk _ :: k, h => denK_goto k h
 | .lend _ :: k, h => denK_goto k h
theorem scp_rule {C : Cx} {E : Env} {c : XC} {k : List KI} {s : SS} (hg : ∀ l a w, ¬ C.Q (.goto l) a w) (h : G C E (.code c :: k) s) : G C E (.code (.scp c) :: k) s := by
 intro a W rep n cc hc
 rw [expand_scp] at hc
 obtain ⟨c1, rfl, h1⟩ := cmp_scp hc
 exact wpIn_scope (fun l a w q => hg l a w (denK_goto k q)) (h a W rep n c1 h1)
end Go.Sx
