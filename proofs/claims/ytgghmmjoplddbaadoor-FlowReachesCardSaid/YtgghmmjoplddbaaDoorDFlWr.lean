/- FlowCovers: the statement, walked. -/
import Derived.Test.YtgghmmjoplddbaaDoorFlSteps
import Derived.Test.YtgghmmjoplddbaaDoorDFlCode
import Derived.Test.YtgghmmjoplddbaaDoorDFlCode2
set_option linter.unusedSimpArgs false
set_option linter.unusedVariables false
set_option linter.unnecessarySimpa false
namespace Go.Proofs.YtgghmmjoplddbaaDoor
open Go Go.Sx Go.Isa
set_option maxRecDepth 100000
theorem nxs_parts {l : List In} {ps : List PR} (h : ps.map PR.pa = partsL l) {i : Nat} {p : PR} (hp : ps[i]? = some p) : p.pa = partL l (bgL l) i := by
 have h2 := congrArg (fun z => z[i]?) h
 simp only [List.getElem?_map, hp, Option.map_some] at h2
 have hi : i < ps.length := (List.getElem?_eq_some_iff.1 hp).1
 rw [partsL_get (by rw [← partsR_len h]; exact hi)] at h2
 injection h2
theorem nxs_nn {l : List In} {ps : List PR} (h : ps.map PR.pa = partsL l) : ∀ s ∈ nxs ps, s.length ≤ 2 ∧ ∀ j ∈ s, (0 : Int) ≤ j := by
 intro s hs
 unfold nxs at hs
 obtain ⟨p, hp, rfl⟩ := List.mem_map.1 hs
 obtain ⟨i, hi⟩ := List.getElem?_of_mem hp
 have e := nxs_parts h hi
 have hlt : i < (bgL l).length := by rw [← partsR_len h]; exact (List.getElem?_eq_some_iff.1 hi).1
 have hb : (bgL l)[i]? = some (bgL l)[i] := List.getElem?_eq_getElem hlt
 rw [e]
 exact ⟨nxL_len _ _ _, fun j hj => (nxL_range hb hj).1⟩
def ReachR (nx : List (List Int)) (wo : Int) (w : World) (v : Value) (w' : World) : Prop := ∃ (A : Option Addr) (c : Nat) (os : List Bool), v = .slice A os.length c ∧ ReachOk nx wo os ∧ World.ownsB w' w.heap.size 4 1 (.slice A os.length c) os.length (bsV os) ∧ Fresh w w'
theorem reached18 (l : List In) (nx : List (List Int)) (hnx : nx = (partsL l).map Pa.nx) (B : Option Addr) (bc : Nat) (w : World) (hl : l.length ≤ 1024) (hB : RowAt w B (cellsI l)) (hG : ShAt w) :
  CallsV Tryd.prog 14 [.slice B l.length bc] w fun v w' => ∃ u, v = .tuple #[u, .int .i64 0] ∧ ReachR nx (-1) w u w' := by
 refine calls_go (keep := K14) (nt := 10) (svs := [.val (.slice B l.length bc)]) Tryd.func14 x14 n14 (by simp) (by simp [IsL, Is]) fun R hR => ?_
 (refine Y_go 600 ?_; dsimp only [X14, numF, Nat.reduceAdd, zq9r, zq9q, Y_k, zq4u, zq8p, zq6u, YK, zq8t, zq6q, zq9i, normF, zq6n, Nat.reduceBEq, zq6l, zq6k, zq6m, zq86, zq87, zq9y, t14n2, T14n2, zq8o, zq55, zq0r, zq50, zq04, zq92, zq9b, zq0i, zq9g, zq9s, zq6h, zq8x, YC, t14n0, T14n0, zq89, zq9x, zq9p, t14n1, T14n1, zq9j])
 refine ⟨fun h => absurd (of_decide_eq_true h) (by omega), fun _ => ?_⟩
 refine call_base (vs := [.slice B l.length bc]) rfl (R := fun W v W' => PartsR l W v W') (fun W hW => parts33 l B bc W hl (hB.keep hW.fresh') (hG.keep hW.fresh')) (fun _ _ _ h => by obtain ⟨_, _, _, _, _, _, _, _, h⟩ := h; exact h) fun W v W' hW ⟨A, c, ps, hv, h1, h2, h3, h5, h4⟩ ov => ?_
 subst hv
 have hw1 : Fresh w W' := Fresh.tr hW.fresh' h4
 have hr : RowAt W' A (cellsR ps) := .of_own h2 rfl
 have hpl := partsR_len h1
 have hbn := bgL_len l
 have enx : nxs ps = nx := by rw [hnx, ← h1]; simp [nxs]
 refine ⟨.val (.slice A ps.length c), by simp [Is], ?_⟩
 rw [show fps ([] : List SO) = [] from rfl]
 (refine Y_go 600 ?_; dsimp only [zq8t, zq9j])
 refine call_base (vs := [.slice A ps.length c, .int .i64 (-1)]) rfl (R := fun W v W' => ReachR nx (-1) W v W') (fun W hW => enx ▸ reach34 ps (-1) A c W (by omega) (hr.keep hW.fresh') (h3.keep hW.fresh') (nxs_nn h1)) (fun _ _ _ h => by obtain ⟨_, _, _, _, _, _, h⟩ := h; exact h) fun W2 v W3 hW2 ⟨A2, c2, os, hv, k1, k2, k3⟩ _ => ?_
 subst hv
 have hw2 : Fresh w W3 := Fresh.tr (Fresh.tr hw1 hW2.fresh') k3
 refine ⟨.val (.slice A2 os.length c2), by simp [Is], ?_⟩
 rw [show fps ([] : List SO) = [] from rfl]
 (refine Y_go 600 ?_; dsimp only [zq8t, Y_k, zq4u, zq8o, zq6n, Nat.reduceBEq, zq6k, YK, zq8p, zq6q, zq9i, normF, zq6l, zq8a, zq87, zq9x])
 have hlow := ownsB_low k2 (Nat.le_trans hw1.size hW2.fresh'.size)
 exact ret_rule (vs := [_, _]) r14 rfl rfl fun W4 hW4 => hR _ _ ⟨_, rfl, A2, c2, os, rfl, k1, ownsB_keep hlow hW4.fresh', Fresh.tr hw2 hW4.fresh'⟩
end Go.Proofs.YtgghmmjoplddbaaDoor
