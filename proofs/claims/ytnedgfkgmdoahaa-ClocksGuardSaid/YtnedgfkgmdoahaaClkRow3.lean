/- 'shuntlaw26.ClocksGuard' answers true for any turns and any object, and leaves its arguments as they were. No condition. -/
import Derived.Test.YtnedgfkgmdoahaaClkRowK
import Derived.Test.YtnedgfkgmdoahaaClkLaw3g
set_option linter.unusedSimpArgs false
set_option linter.unusedVariables false
set_option linter.unnecessarySimpa false
namespace Go.Proofs.Ytnedgfkgmdoahaa
open Go Go.ChangeShapes Go.WideShapes Go.ChangeAt Go.RowKit Go.Sx Go.Clk Go.Dk
set_option maxRecDepth 100000

theorem open_turns {H : Type} {enc : TypeId × Value → H} {W : World} {base b0 : Nat} {r : Reach} {spare : Nat → Bool} {held : Bool} {v : Value} {d : DataW H} {p : List MemPlace} (hv : Value.okWide Try.prog W r b0 22 v) (h : DataW.Trod enc Try.prog W base spare held 22 v d p) :
    ∃ (A : Option Addr) (c : Nat) (ts : List Tn), v = .slice A ts.length c ∧ RowAt W A (cellsT ts) ∧ ∀ t ∈ ts, RowAt W t.A (cellsS t.l) := by
  obtain ⟨a, n, c, rfl⟩ := okWide_slice Try.underlying22 hv
  obtain ⟨fuel, hfu⟩ := h
  rcases open_slice_fields Try.underlying22 Try.underlying27 (by kernel_rfl) (by kernel_rfl) hfu with e1 | ⟨a', len, cap, e1, hl, hel⟩
  · simp [Value.cells] at e1
    obtain ⟨rfl, rfl, rfl⟩ := e1
    exact ⟨none, 0, [], rfl, fun j u hj => by simp [cellsT] at hj, by simp⟩
  · simp [Value.cells] at e1
    obtain ⟨rfl, rfl, rfl⟩ := e1
    obtain ⟨l, h1, h2, h3⟩ := rowAt_list (w := W) (a := a') (f := Tn.cells) (sz := 2) (fun _ => rfl) (Q := fun t => RowAt W t.A (cellsS t.l)) n (fun i hi' => by
      obtain ⟨m, hj⟩ := hel i hi'
      obtain ⟨v0, y0, c0, t0⟩ := hj 0 _ rfl
      obtain ⟨v1, y1, c1, t1⟩ := hj 1 _ rfl
      obtain ⟨z0, g0, _⟩ := DataW.trod_int Try.underlying3 t0
      simp only [List.cons.injEq, and_true] at g0
      obtain ⟨A1, k1, l1, e1, _, hr1, _⟩ := open_rows' (f := Sy.cells) (Q := fun _ => True) 3 Try.underlying25 (L := [.i64, .i64, .i64]) (by kernel_rfl) (by kernel_rfl) (fun _ => rfl) sync_ks t1
      simp only [List.cons.injEq, and_true] at e1
      refine ⟨⟨z0, A1, k1, l1⟩, hr1, fun k v hk => ?_⟩
      have hk2 : k < 2 := (List.getElem?_eq_some_iff.1 hk).1
      have : k = 0 ∨ k = 1 := by omega
      subst g0; subst e1
      rcases this with rfl | rfl <;> simp only [Tn.cells, List.getElem?_cons_zero, List.getElem?_cons_succ, Option.some.injEq] at hk <;> subst hk <;> assumption)
    exact ⟨some a', c, l, by rw [h1], h2, h3⟩

theorem clocksGuard_lifted (os : Os) (started : os.Started) (H : Type) (enc : TypeId × Value → H) :
    ReturnsInHanded {} Try.checked os 3 .any (Rows.clocksGuardSpec.pre6 enc Try.prog Try.f3 Rows.clocksGuardRow.domain false) (Rows.clocksGuardSpec.post enc Try.prog Try.f3 false true false false) := by
  refine returnsInHanded_of_change (C := Try.checked) Try.own started (by kernel_rfl) Try.func3
    (ChangeSpec.witness6 (enc := enc) (C := Try.checked) false ⟨#[], #[.slice none 0 0, .int .u16 0], []⟩ 8 (by kernel_rfl) (by kernel_rfl) (by kernel_rfl) (by kernel_rfl)) ?_
  intro W base args ds gs before hval0 hW hcnd _
  have hval : ∀ (j : Nat) t v, Try.f3.params[j]? = some t → args[j]? = some v → Value.okWide Try.prog W .any base t v := hval0
  have hW' := hW
  obtain ⟨p, q, hA0, hV, rfl, hfz, hnd⟩ := hW
  have hA : DataW.TrodAll enc Try.prog W 0 (fun _ => true) true Try.f3.params.toList args.toList ds p := hA0
  rw [Try.params3] at hA hval
  obtain ⟨v1, v2, d1, d2, p1, p2, rfl, rfl, rfl, h1, h2⟩ := trodAll_two hA
  obtain ⟨rfl, rfl⟩ := trodVars_none hV
  clear hA0 hval0
  simp only [List.append_nil] at hW'
  have hlt : ∀ x ∈ p1 ++ p2, x.block < W.heap.size := fun x hx => hW'.lt x hx
  obtain ⟨A, c, ts, rfl, hr, hrs⟩ := open_turns (hval 0 22 v1 rfl rfl) h1
  obtain ⟨o, rfl, wo, rfl, h2'⟩ := Dk.open_int Try.underlying23 (hval 1 23 v2 rfl rfl) h2
  have hob : 0 ≤ o ∧ o ≤ 65535 := by
    simp [Lit.wf, IntKind.min, IntKind.max, IntKind.signed, IntKind.bits] at wo
    omega
  refine Calls.mono (law3 A c ts o W hr hrs hob.1 hob.2) fun e W' he => ?_
  cases e with
  | panicked ch => exact he.elim
  | outgrown => exact he.elim
  | returned v =>
    obtain ⟨rfl, hk⟩ := he
    have hb : Below W.heap.size W W' := ⟨hk.os, hk.tape, hk.output, hk.size, hk.block⟩
    exact ⟨_, rfl, Dk.post_of_below (pa := p1 ++ []) (pv := []) hW' (fun _ _ _ => trodAll_mk1 (shut_bool Try.underlying4 true))
      (fun sp hsp => trodAll_mk2 (WideElems.Trod_stays Try.laidOut (by kernel_rfl) (of_decide_eq_true (by kernel_rfl)) h1 (fun x hx => hb.same (hlt x (by simp [hx]))) (fun x hx => hsp x (by simp [hx])))
        (h2' _ _ _ _))
      (fun _ _ => rfl) (by simp) hb (ok_one (by kernel_rfl) rfl (okWide_bool_mk Try.underlying4 true))⟩

theorem clocksGuard_holds : Rows.ClocksGuardSaid :=
  OpenClaim.holds_of_wide 3 Try.f3 rfl rfl rfl rfl rfl rfl rfl ⟨rfl, rfl, rfl, rfl, rfl⟩ rfl rfl rfl rfl rfl (by kernel_rfl) Try.func3 (by kernel_rfl)
    (of_decide_eq_true (by kernel_rfl)) (by unfold Func.isWrapper; first | (rw [if_pos (by decide +kernel)]; kernel_rfl) | (rw [if_neg (by decide +kernel)]; exact ⟨rfl, rfl⟩))
    (fun os started H enc _ => clocksGuard_lifted os started H enc)
end Go.Proofs.Ytnedgfkgmdoahaa
