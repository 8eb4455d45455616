/- The engine: operations in more than one order, walked by 'dsimp'. -/
import Derived.Test.YtlbiogokpadaoaaGreatDoorSxCall
set_option linter.unusedSimpArgs false
set_option linter.unusedVariables false
set_option linter.unnecessarySimpa false
namespace Go.Sx

def YT (C : Cx) (E : Env) (n : Nat) (k : List KI) : XT → List (Nat × SV) → List SO → Prop
  | .done, F, H => Y C E n k (normF F C.keep) H
  | .seq ⟨d, none, .k x⟩ _ t, F, H => yk E F H (fun sv H' => YT C E n k t (putF F d sv) H') x
  | .seq ⟨_, none, .still d x⟩ _ t, F, H => yk E F H (fun sv _ => sv = lk F d ∧ Det H sv) x ∧ YT C E n k t F H
  | .alt a b, F, H => YT C E n k a F H ∧ YT C E n k b F H
  | _, _, _ => False
section
variable {C : Cx} {E : Env} {n : Nat} {k : List KI} {F : List (Nat × SV)} {H : List SO}
theorem YT_done : YT C E n k .done F H = Y C E n k (normF F C.keep) H := rfl
theorem YT_k (d : Option Nat) (x : XK) (j : Nat) (t : XT) : YT C E n k (.seq { dst := d, guard := none, i := .k x } j t) F H = yk E F H (fun sv H' => YT C E n k t (putF F d sv) H') x := rfl
theorem YT_still (e : Option Nat) (d : Nat) (x : XK) (j : Nat) (t : XT) : YT C E n k (.seq { dst := e, guard := none, i := .still d x } j t) F H = (yk E F H (fun sv _ => sv = lk F d ∧ Det H sv) x ∧ YT C E n k t F H) := rfl
theorem YT_alt (a b : XT) : YT C E n k (.alt a b) F H = (YT C E n k a F H ∧ YT C E n k b F H) := rfl
end

theorem GT_k' {C : Cx} {E : Env} {k : List KI} {t : XT} {F : List (Nat × SV)} {H : List SO} {d : Option Nat} {x : XK} {j : Nat} {K : SV → List SO → Prop} (h : yk E F H K x) (hK : ∀ sv H', K sv H' → GT C E k t { F := putF F d sv, H := H' }) : GT C E k (.seq { dst := d, guard := none, i := .k x } j t) { F := F, H := H } := by
  refine GT_seq fun a W rep ops q rt ho hl => ?_
  obtain ⟨op, rfl, hd, hdst, hg, hi⟩ := cmpO_spec ho rfl
  have hk := cmpI_k hi
  refine step_k hk rep (xk_sound hk rep (yk_xk (s := { F := F, H := H }) h)) (wanted_none hg a) ?_
  intro v W' sv H' hKs hIs hext hheap
  have hdst' : d = op.dst := hdst
  exact hK sv H' hKs (a.put op.dst v) W' (by rw [hdst']; exact (rep.ext hext hheap).put hd hIs) ops rt hl

theorem Y_0 {C : Cx} {E : Env} {k : List KI} {F : List (Nat × SV)} {H : List SO} : Y C E 0 k F H = G C E k { F := F, H := H } := rfl

theorem YT_sound {C : Cx} {E : Env} {n : Nat} {k : List KI} (hord : ∀ k, OrdOk C.r C.P C.ord (denK C.tab C.r C.P C.ord E.nt C.Q k)) : ∀ (t : XT) (F : List (Nat × SV)) (H : List SO), YT C E n k t F H → GT C E k t { F := F, H := H }
  | .done, F, H, h => GT_done fun a W rep => Y_sound hord n k _ _ h a W (rep.frame_of fun d => lk_normF _ _ _)
  | .alt a b, F, H, h => GT_alt (YT_sound hord a F H h.1) (YT_sound hord b F H h.2)
  | .seq ⟨d, none, .k x⟩ j t, F, H, h => GT_k' (K := fun sv H' => YT C E n k t (putF F d sv) H') h fun sv H' h' => YT_sound hord t _ _ h'
  | .seq ⟨e, none, .still d x⟩ j t, F, H, h => GT_still (s := { F := F, H := H }) (yk_xk (s := { F := F, H := H }) h.1) (YT_sound hord t F H h.2)
  | .seq ⟨_, some _, _⟩ _ _, _, _, h => by simp only [YT] at h
  | .seq ⟨_, none, .call _ _⟩ _ _, _, _, h => by simp only [YT] at h
  | .seq ⟨_, none, .callv _ _⟩ _ _, _, _, h => by simp only [YT] at h
theorem alt_y {C : Cx} {E : Env} (ho : C.ord = theOrder) (hQ : NoPanic C.Q) (n : Nat) {m : Nat} {t : XT} {k : List KI} {F : List (Nat × SV)} {H : List SO} (h : YT C E n k t F H) : G C E (.code (.alt m t) :: k) { F := F, H := H } := by
  have hord : ∀ k, OrdOk C.r C.P C.ord (denK C.tab C.r C.P C.ord E.nt C.Q k) := fun k => by rw [ho]; exact ordOk (denK_noPanic hQ k)
  exact alt_rule hord (YT_sound hord t F H h)

theorem denK_goto {T : Nat → XC} {r : Option Nat} {P : Program} {ord : Order} {nt : Nat} {Q : Post} {lb : _} {a : Act} {W : World} : ∀ k, denK T r P ord nt Q k (.goto lb) a W → Q (.goto lb) a W
  | [], h => h
  | .code _ :: k, h => denK_goto k h
  | .ops _ :: k, h => denK_goto k h
  | .blk _ :: k, h => denK_goto k h
  | .lend _ :: k, h => denK_goto k h
theorem scp_rule {C : Cx} {E : Env} {c : XC} {k : List KI} {s : SS} (hg : ∀ l a w, ¬ C.Q (.goto l) a w) (h : G C E (.code c :: k) s) : G C E (.code (.scp c) :: k) s := by
  intro a W rep n cc hc
  rw [expand_scp] at hc
  obtain ⟨c1, rfl, h1⟩ := cmp_scp hc
  exact wpIn_scope (fun l a w q => hg l a w (denK_goto k q)) (h a W rep n c1 h1)
end Go.Sx
