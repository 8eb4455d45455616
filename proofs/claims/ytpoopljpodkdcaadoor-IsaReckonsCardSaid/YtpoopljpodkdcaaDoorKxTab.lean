/- The runner, last part: a table of functions made small, and that it is the program's. -/
import Derived.Test.YtpoopljpodkdcaaDoorKxTop
set_option linter.unusedSimpArgs false
set_option linter.unusedVariables false
set_option linter.unnecessarySimpa false
namespace Go.Kx
open Go
open Go.Sx (XC cmpF szT isAggT fnOk CallsV)

def rsOf (P : Program) : List ResultVar → Option (List RV)
  | [] => some []
  | .tmp t :: l => (match rsOf P l with | some r => some (.tmp t :: r) | none => none)
  | .cell t ty :: l => (match P.underlying ty, szT P ty, rsOf P l with
    | some _, some n, some r => some (.cell t ty n (isAggT P ty) :: r)
    | _, _, _ => none)
theorem rsOf_ok {P : Program} : ∀ {l : List ResultVar} {r : List RV}, rsOf P l = some r → RsOk P l r
  | [], r, h => by simp [rsOf] at h; subst h; trivial
  | .tmp t :: l, r, h => by
    simp only [rsOf] at h
    split at h
    · rename_i r' hr; injection h with h; subst h; exact ⟨rfl, rsOf_ok hr⟩
    · cases h
  | .cell t ty :: l, r, h => by
    simp only [rsOf] at h
    split at h
    · rename_i d n r' hd hn hr; injection h with h; subst h; exact ⟨⟨rfl, rfl, by rw [hd]; rfl, hn, rfl⟩, rsOf_ok hr⟩
    · cases h
def mkFI (P : Program) (f : FuncId) : Option FI := match P.funcs[f]? with
  | some fn => (match fnOk P f, cmpF P fn, rsOf P fn.results.toList with
    | true, some xc, some rs => some ⟨xc, fn.ntmps, rs⟩
    | _, _, _ => none)
  | none => none
def tabOf : List (Nat × FI) → Option (Tr FI)
  | [] => some .e
  | (f, x) :: l => (match tabOf l with | some t => Tr.set 40 t f x | none => none)
theorem tabOf_mem : ∀ {L : List (Nat × FI)} {t : Tr FI}, tabOf L = some t → ∀ f fi, t.get f = some fi → (f, fi) ∈ L
  | [], t, h, f, fi, hg => by simp [tabOf] at h; subst h; simp [Tr.get] at hg
  | (g, x) :: L, t, h, f, fi, hg => by
    simp only [tabOf] at h
    split at h
    · rename_i t' ht
      rw [Tr.get_set 40 h] at hg
      by_cases e : f = g
      · rw [if_pos e] at hg; injection hg with hg; subst hg; subst e; exact .head _
      · rw [if_neg e] at hg; exact .tail _ (tabOf_mem ht f fi hg)
    · cases h
/-- Types of numbers that may be compared in interfaces. -/
def ctB (P : Program) (t : TypeId) : Bool := match P.info? t, P.underlying t with
  | some i, some (.int _) => i.comparable
  | _, _ => false
theorem ctOk_of {P : Program} {ct : List TypeId} (h : ct.all (ctB P) = true) : CtOk P ct := fun t ht => by
  have := List.all_eq_true.1 h t ht
  unfold ctB at this
  split at this
  · rename_i i k hi hk; exact ⟨i, k, hi, this, hk⟩
  · cases this
def AllFI (P : Program) : List (Nat × FI) → Prop
  | [] => True
  | p :: l => mkFI P p.1 = some p.2 ∧ AllFI P l
theorem AllFI.mem {P : Program} : ∀ {L : List (Nat × FI)}, AllFI P L → ∀ p ∈ L, mkFI P p.1 = some p.2
  | _ :: _, h, _, .head _ => h.1
  | _ :: _, h, _, .tail _ m => AllFI.mem h.2 _ m
theorem tabOk_of {P : Program} {C : Cfg} {L : List (Nat × FI)} (hL : AllFI P L) (ht : tabOf L = some C.tab) (hct : C.ct.all (ctB P) = true) : TabOk P C where
  ct := ctOk_of hct
  ok f fi hf := by
    have := hL.mem _ (tabOf_mem ht f fi hf)
    simp only [mkFI] at this
    split at this
    · rename_i fn hfn
      split at this
      · rename_i xc rs h1 h2 h3
        injection this with this; subst this
        exact ⟨fn, hfn, h1, h2, rfl, rsOf_ok h3⟩
      · cases this
    · cases this
def said (b : Bool) : KA → Bool
  | some (.v (.bool a), _) => a == b
  | _ => false
theorem said_spec {k : KA} {b : Bool} (h : said b k = true) : ∃ S', k = some (.v (.bool b), S') := by
  unfold said at h
  split at h
  · rename_i a S' ; simp at h; subst h; exact ⟨_, rfl⟩
  · cases h
end Go.Kx
