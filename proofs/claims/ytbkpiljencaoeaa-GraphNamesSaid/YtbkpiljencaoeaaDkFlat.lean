/- A package variable that is listed with plain data (numbers, strings, bools in arrays and structs): its cells in the world. -/
import Derived.ProofKit
import Derived.OpenShut
import Derived.FnData
import Derived.LaidSub
import Derived.MakeChecks
import Derived.KernelRfl
import Derived.Lay
import Derived.WideShapes
import Derived.Below
import Derived.Carry
import Derived.ChangeSame
import Derived.Deep.Slices
import Derived.Deep.Fields
import Derived.Test.YtbkpiljencaoeaaSxLib
set_option linter.unusedSimpArgs false
set_option linter.unusedVariables false
set_option linter.unnecessarySimpa false
namespace Go.Dk
open Go

mutual
def flatD {H : Type} : DataW H → Option (List Value)
  | .lit (.int k n) => some [.int k n]
  | .lit (.bool b) => some [.bool b]
  | .lit (.string s) => some [.string ⟨⟨s⟩⟩]
  | .agg l => flatL l
  | _ => none
def flatL {H : Type} : List (DataW H) → Option (List Value)
  | [] => some []
  | d :: l => match flatD d, flatL l with
    | some a, some b => some (a ++ b)
    | _, _ => none
end
def contig (P : Program) : List Field → Nat → Nat → Bool
  | [], off, n => off == n
  | f :: fs, off, n => f.offset == off && contig P fs (off + P.cellsOf f.type) n
def plainT (P : Program) : Nat → TypeId → Bool
  | 0, _ => false
  | k + 1, t => match P.underlying t with
    | some (.int _) => true
    | some .bool => true
    | some .string => true
    | some (.array n e) => plainT P k e && (P.cellsOf t == n * P.cellsOf e)
    | some (.struct fs) => fs.all (fun f => plainT P k f.type) && contig P fs.toList 0 (P.cellsOf t)
    | _ => false

section
variable {H : Type} {enc : TypeId × Value → H} {P : Program} {w : World} {base : Nat} {spare : Nat → Bool} {held : Bool}

end

end Go.Dk

namespace Go.Dk
open Go

def Ks : List IntKind → List Value → Prop
  | [], vs => vs = []
  | k :: ks, vs => ∃ n r, vs = .int k n :: r ∧ (Lit.int k n).wf = true ∧ Ks ks r
theorem Ks.append : ∀ {a b : List IntKind} {x y : List Value}, Ks a x → Ks b y → Ks (a ++ b) (x ++ y)
  | [], _, _, _, h, k => by simp only [Ks] at h; subst h; simpa using k
  | q :: a, _, _, _, h, k => by
    simp only [Ks] at h; obtain ⟨n, r, rfl, hw, hr⟩ := h
    exact ⟨n, _, rfl, hw, Ks.append hr k⟩
theorem Ks.length : ∀ {a : List IntKind} {x : List Value}, Ks a x → x.length = a.length
  | [], _, h => by simp only [Ks] at h; subst h; rfl
  | q :: a, _, h => by
    simp only [Ks] at h; obtain ⟨n, r, rfl, _, hr⟩ := h
    simp [Ks.length hr]
section
variable {H : Type} {enc : TypeId × Value → H} {P : Program}
end
end Go.Dk

namespace Go.Dk
open Go Go.ChangeShapes Go.WideShapes Go.ChangeAt Go.RowKit Go.Deep Go.Sx

section
variable {H : Type} {enc : TypeId × Value → H} {P : Program}
theorem post_of_below {f : Func} {s : ChangeSpec} {apart fresh handsOn again : Bool} {W W' : World} {args : Array Value} {v : Value} {ds gs : List (DataW H)} {before pa pv : List MemPlace}
    (hW : DataW.Whole enc P f.params.toList s.vars apart W args.toList ds gs before)
    (hres : ∀ (b : Nat) (sp : Nat → Bool) (hd : Bool), DataW.TrodAll enc P W' b sp hd f.resultTypes.toList (v.resultList f.resultTypes.size) (s.fn H (ds ++ gs)).results [])
    (hargs : ∀ sp : Nat → Bool, (∀ p ∈ before, sp p.block = true) → DataW.TrodAll enc P W' 0 sp true f.params.toList args.toList (s.fn H (ds ++ gs)).args pa)
    (hvars : ∀ sp : Nat → Bool, (∀ p ∈ before, sp p.block = true) → DataW.TrodVars enc P W' sp s.vars (s.fn H (ds ++ gs)).vars pv)
    (hps : before = pa ++ pv) (hb : Below W.heap.size W W')
    (hok : ∀ (j : Nat) (t : TypeId) (r : Value), f.resultTypes[j]? = some t → (v.resultList f.resultTypes.size)[j]? = some r → Value.okWide P W' .any 0 t r) :
    s.post enc P f apart fresh handsOn again W args v W' := by
  have hlt : ∀ p ∈ before, p.block < W.heap.size := fun p hp => hW.lt p hp
  have hold : ∀ p ∈ before, (fun b => decide (b < W.heap.size)) p.block = true := fun p hp => by simpa using hlt p hp
  refine ⟨ds, gs, before, [], pa, pv, hW, hres _ _ _, hargs _ hold, hvars _ hold, World.keptBut_mono (fun p hp => ⟨hp, ?_⟩) (hb.frame (· ∈ before)), fun _ => ?_⟩
  · rw [hps, List.mem_append] at hp
    exact Or.inr hp
  · obtain ⟨_, _, _, _, _, hz, hn⟩ := hW
    refine ⟨hok, _, _, ([] ++ pa) ++ pv, ⟨[] ++ pa, pv, trodAll_append (hargs _ (fun _ _ => rfl)) (hres _ _ _), hvars _ (fun _ _ => rfl), rfl, ?_, ?_⟩, ?_⟩
    · intro b off hp
      have hin : MemPlace.cell b off ∈ before := by rw [hps]; simpa using hp
      rw [hb.frozen (hlt _ hin)]
      exact hz b off hin
    · intro ha
      have := hn ha
      rw [hps] at this
      simpa using this
    · intro p hp _
      rw [hps]
      simpa using hp
end

section
variable {H : Type} {enc : TypeId × Value → H} {P : Program} {W : World}
end
end Go.Dk
