/- 'shuntlaw25.GraphExplains' answers true for any history, and any memory at first, and leaves them as they were. No condition. -/
import Derived.Test.YtbkpiljencaoeaaGrRowK
import Derived.Test.YtbkpiljencaoeaaGrT14
set_option linter.unusedSimpArgs false
set_option linter.unusedVariables false
set_option linter.unnecessarySimpa false
namespace Go.Proofs.Ytbkpiljencaoeaa
open Go Go.ChangeShapes Go.WideShapes Go.ChangeAt Go.RowKit Go.Sx Go.Hs Go.Gr Go.Dk
set_option maxRecDepth 100000
def evU (e : Ev) : Prop := 0 ≤ e.value ∧ e.value < 18446744073709551616
theorem lit_u64 {n : Int} (h : (Lit.int .u64 n).wf = true) : 0 ≤ n ∧ n < 18446744073709551616 := by
 simp [Lit.wf, IntKind.min, IntKind.max, IntKind.signed, IntKind.bits] at h
 omega
theorem ev_ks (cs : List Value) (h : Ks [.i64, .i64, .i64, .i64, .i64, .i64, .i64, .u64, .i64] cs) : ∃ x : Ev, cs = x.cells ∧ evU x := by
 simp only [Ks] at h
 obtain ⟨a, _, rfl, _, b, _, rfl, _, c, _, rfl, _, d, _, rfl, _, e, _, rfl, _, f, _, rfl, _, g, _, rfl, _, i, _, rfl, hi, j, _, rfl, _, rfl⟩ := h
 exact ⟨⟨a, b, c, d, e, f, g, i, j⟩, rfl, lit_u64 hi⟩
theorem open_events {H : Type} {enc : TypeId × Value → H} {W : World} {base b0 : Nat} {r : Reach} {spare : Nat → Bool} {held : Bool} {v : Value} {d : DataW H} {p : List MemPlace} (hv : Value.okWide Try.prog W r b0 39 v) (h : DataW.Trod enc Try.prog W base spare held 39 v d p) :
  ∃ (A : Option Addr) (c : Nat) (l : List Ev), v = .slice A l.length c ∧ l.length ≤ c ∧ RowAt W A (cellsE l) ∧ ∀ e ∈ l, evU e := by
 obtain ⟨A, c, l, h1, h2, h3, h4⟩ := open_rows (f := Ev.cells) (Q := evU) 9 Try.underlying39 (L := [.i64, .i64, .i64, .i64, .i64, .i64, .i64, .u64, .i64]) (by kernel_rfl) (by kernel_rfl) (fun _ => rfl) ev_ks hv h
 exact ⟨A, c, l, h1, h2, h3, h4⟩
theorem open_words {H : Type} {enc : TypeId × Value → H} {W : World} {base b0 : Nat} {r : Reach} {spare : Nat → Bool} {held : Bool} {v : Value} {d : DataW H} {p : List MemPlace} (hv : Value.okWide Try.prog W r b0 40 v) (h : DataW.Trod enc Try.prog W base spare held 40 v d p) :
  ∃ (A : Option Addr) (c : Nat) (l : List Int), v = .slice A l.length c ∧ RowAt W A (l.map uV) := by
 obtain ⟨A, c, l, h1, h2, h3, h4⟩ := open_rows (f := fun n : Int => [uV n]) (Q := fun _ => True) 1 Try.underlying40 (L := [.u64]) (by kernel_rfl) (by kernel_rfl) (fun _ => rfl) (fun cs hk => by
  simp only [Dk.Ks] at hk
  obtain ⟨a, _, rfl, _, rfl⟩ := hk
  exact ⟨a, rfl, trivial⟩) hv h
 refine ⟨A, c, l, h1, ?_⟩
 have e : ∀ l : List Int, l.flatMap (fun n : Int => [uV n]) = l.map uV := fun l => by
  induction l with
  | nil => rfl
  | cons a l ih => rw [List.flatMap_cons, ih]; rfl
 rw [e] at h3; exact h3
theorem graphExplains_lifted (os : Os) (started : os.Started) (H : Type) (enc : TypeId × Value → H) :
  ReturnsInHanded {} Try.checked os 8 .any (Rows.graphExplainsSpec.pre6 enc Try.prog Try.f8 Rows.graphExplainsRow.domain false) (Rows.graphExplainsSpec.post enc Try.prog Try.f8 false true false false) := by
 refine returnsInHanded_of_change (C := Try.checked) Try.ownH started (by kernel_rfl) Try.func8
  (ChangeSpec.witness6 (enc := enc) (C := Try.checked) false ⟨#[], #[.slice none 0 0, .slice none 0 0], []⟩ 8 (by kernel_rfl) (by kernel_rfl) (by kernel_rfl) (by kernel_rfl)) ?_
 intro W base args ds gs before hval0 hW hcnd _
 have hval : ∀ (j : Nat) t v, Try.f8.params[j]? = some t → args[j]? = some v → Value.okWide Try.prog W .any base t v := hval0
 have hW' := hW
 obtain ⟨p, q, hA0, hV, rfl, hfz, hnd⟩ := hW
 have hA : DataW.TrodAll enc Try.prog W 0 (fun _ => true) true Try.f8.params.toList args.toList ds p := hA0
 rw [Try.params8] at hA hval
 obtain ⟨v1, v2, d1, d2, p1, p2, rfl, rfl, rfl, h1, h2⟩ := trodAll_two hA
 obtain ⟨rfl, rfl⟩ := trodVars_none hV
 clear hA0 hval0
 simp only [List.append_nil] at hW'
 obtain ⟨A, c, l, rfl, _, hr, _⟩ := open_events (hval 0 39 v1 rfl rfl) h1
 obtain ⟨A', c', fs, rfl, hr2⟩ := open_words (hval 1 40 v2 rfl rfl) h2
 have hlt : ∀ x ∈ p1 ++ p2, x.block < W.heap.size := fun x hx => hW'.lt x (by simpa using hx)
 refine Calls.mono (law8 A A' c c' l fs W hr hr2) fun e W' he => ?_
 cases e with
 | panicked ch => exact he.elim
 | outgrown => exact he.elim
 | returned v =>
  obtain ⟨rfl, hk⟩ := he
  have hb : Below W.heap.size W W' := ⟨hk.os, hk.tape, hk.output, hk.size, hk.block⟩
  exact ⟨_, rfl, Dk.post_of_below (pa := p1 ++ p2) (pv := []) hW' (fun _ _ _ => trodAll_mk1 (shut_bool Try.underlying4 true))
   (fun sp hsp => trodAll_mk2 (WideElems.Trod_stays Try.laidOutH (by kernel_rfl) (of_decide_eq_true (by kernel_rfl)) h1 (fun x hx => hb.same (hlt x (by simp [hx]))) (fun x hx => hsp x (by simp [hx])))
    (WideElems.Trod_stays Try.laidOutH (by kernel_rfl) (of_decide_eq_true (by kernel_rfl)) h2 (fun x hx => hb.same (hlt x (by simp [hx]))) (fun x hx => hsp x (by simp [hx]))))
   (fun _ _ => rfl) (by simp) hb (ok_one (by kernel_rfl) rfl (okWide_bool_mk Try.underlying4 true))⟩
theorem graphExplains_holds : Rows.GraphExplainsSaid :=
 OpenClaim.holds_of_wide 8 Try.f8 rfl rfl rfl rfl rfl rfl rfl ⟨rfl, rfl, rfl, rfl, rfl⟩ rfl rfl rfl rfl rfl (by kernel_rfl) Try.func8 (by kernel_rfl)
  (of_decide_eq_true (by kernel_rfl)) (by unfold Func.isWrapper; first | (rw [if_pos (by decide +kernel)]; kernel_rfl) | (rw [if_neg (by decide +kernel)]; exact ⟨rfl, rfl⟩))
  (fun os started H enc _ => graphExplains_lifted os started H enc)
end Go.Proofs.Ytbkpiljencaoeaa
