/- 'shuntlaw02.CacheBack' answers true for any sizes, any steps and any puts, and leaves them as they were. No condition. -/
import Derived.Test.YtimmobbginjkfaaCaRowK
import Derived.Test.YtimmobbginjkfaaCaW12
set_option linter.unusedSimpArgs false
set_option linter.unusedVariables false
set_option linter.unnecessarySimpa false
namespace Go.Proofs.Ytimmobbginjkfaa
open Go Go.ChangeShapes Go.WideShapes Go.ChangeAt Go.RowKit Go.Sx Go.Ca
set_option maxRecDepth 100000
theorem open_puts {H : Type} {enc : TypeId × Value → H} {W : World} {base b0 : Nat} {r : Reach} {spare : Nat → Bool} {held : Bool} {v : Value} {d : DataW H} {p : List MemPlace} (hv : Value.okWide Try.prog W r b0 24 v) (h : DataW.Trod enc Try.prog W base spare held 24 v d p) :
  ∃ (A : Option Addr) (c : Nat) (l : List (Int × Int)), v = .slice A l.length c ∧ RowAt W A (cellsP l) := by
 obtain ⟨A, c, l, h1, h2, h3, h4⟩ := Dk.open_rows (f := prV2) (Q := fun _ => True) 9 Try.underlying24 (L := [.i64, .u64]) (by kernel_rfl) (by kernel_rfl) (fun _ => rfl) (fun cs hk => by
  simp only [Dk.Ks] at hk
  obtain ⟨a, _, rfl, _, b, _, rfl, _, rfl⟩ := hk
  exact ⟨(a, b), rfl, trivial⟩) hv h
 exact ⟨A, c, l, h1, h3⟩
theorem okWide_array2 {P : Program} {w : World} {r : Reach} {base : Nat} {t e : TypeId} {n : Nat} {v : Value} (ht : P.underlying t = some (.array n e)) (h : Value.okWide P w r base t v) : ∃ cs, v = .agg cs ∧ cs.size = P.cellsOf t := by
 simp only [Value.okWide, ht] at h
 obtain ⟨cs, h1, h2, _⟩ := h
 exact ⟨cs, h1, h2⟩
theorem open_sizes {H : Type} {enc : TypeId × Value → H} {W : World} {base b0 : Nat} {r : Reach} {spare : Nat → Bool} {held : Bool} {v : Value} {d : DataW H} {p : List MemPlace} (hv : Value.okWide Try.prog W r b0 22 v) (h : DataW.Trod enc Try.prog W base spare held 22 v d p) :
  ∃ (a b : Int), v = .agg #[.int .i64 a, .int .i64 b] := by
 obtain ⟨cs, rfl, _⟩ := okWide_array2 Try.underlying22 hv
 obtain ⟨hk, _⟩ := Dk.open_agg (L := [.i64, .i64]) 3 (by kernel_rfl) h
 simp only [Dk.Ks] at hk
 obtain ⟨a, _, e1, _, b, _, rfl, _, rfl⟩ := hk
 refine ⟨a, b, ?_⟩
 show Value.agg cs = Value.agg _
 congr 1
 rw [← Array.toList_inj]
 exact e1
theorem cacheBack_lifted (os : Os) (started : os.Started) (H : Type) (enc : TypeId × Value → H) :
  ReturnsInHanded {} Try.checked os 3 .any (Rows.cacheBackSpec.pre6 enc Try.prog Try.f3 Rows.cacheBackRow.domain false) (Rows.cacheBackSpec.post enc Try.prog Try.f3 false true false false) := by
 refine returnsInHanded_of_change (C := Try.checked) Try.ownH started (by kernel_rfl) Try.func3
  (ChangeSpec.witness6 (enc := enc) (C := Try.checked) false ⟨#[], #[.agg #[.int .i64 0, .int .i64 0], .slice none 0 0, .slice none 0 0], []⟩ 8 (by kernel_rfl) (by kernel_rfl) (by kernel_rfl) (by kernel_rfl)) ?_
 intro W base args ds gs before hval0 hW hcnd _
 have hval : ∀ (j : Nat) t v, Try.f3.params[j]? = some t → args[j]? = some v → Value.okWide Try.prog W .any base t v := hval0
 have hW' := hW
 obtain ⟨p, q, hA0, hV, rfl, hfz, hnd⟩ := hW
 have hA : DataW.TrodAll enc Try.prog W 0 (fun _ => true) true Try.f3.params.toList args.toList ds p := hA0
 rw [Try.params3] at hA hval
 obtain ⟨v1, v2, v3, d1, d2, d3, p1, p2, p3, rfl, rfl, rfl, h1, h2, h3⟩ := trodAll_three hA
 obtain ⟨rfl, rfl⟩ := trodVars_none hV
 clear hA0 hval0
 simp only [List.append_nil] at hW'
 obtain ⟨a, b, rfl⟩ := open_sizes (hval 0 22 v1 rfl rfl) h1
 obtain ⟨A', c', l, rfl, hr2⟩ := open_steps (hval 1 23 v2 rfl rfl) h2
 obtain ⟨A3, c3, ps, rfl, hr3⟩ := open_puts (hval 2 24 v3 rfl rfl) h3
 have hlt : ∀ x ∈ p1 ++ (p2 ++ p3), x.block < W.heap.size := fun x hx => hW'.lt x (by simpa using hx)
 refine Calls.mono (law3 a b A' A3 c' c3 l ps W hr2 hr3) fun e W' he => ?_
 cases e with
 | panicked ch => exact he.elim
 | outgrown => exact he.elim
 | returned v =>
  obtain ⟨rfl, hk⟩ := he
  have hb : Below W.heap.size W W' := ⟨hk.os, hk.tape, hk.output, hk.size, hk.block⟩
  exact ⟨_, rfl, Dk.post_of_below (pa := p1 ++ (p2 ++ p3)) (pv := []) hW' (fun _ _ _ => trodAll_mk1 (shut_bool Try.underlying4 true))
   (fun sp hsp => trodAll_mk3 (WideElems.Trod_stays Try.laidOutH (by kernel_rfl) (of_decide_eq_true (by kernel_rfl)) h1 (fun x hx => hb.same (hlt x (by simp [hx]))) (fun x hx => hsp x (by simp [hx])))
    (WideElems.Trod_stays Try.laidOutH (by kernel_rfl) (of_decide_eq_true (by kernel_rfl)) h2 (fun x hx => hb.same (hlt x (by simp [hx]))) (fun x hx => hsp x (by simp [hx]))) (WideElems.Trod_stays Try.laidOutH (by kernel_rfl) (of_decide_eq_true (by kernel_rfl)) h3 (fun x hx => hb.same (hlt x (by simp [hx]))) (fun x hx => hsp x (by simp [hx]))))
   (fun _ _ => rfl) (by simp) hb (ok_one (by kernel_rfl) rfl (okWide_bool_mk Try.underlying4 true))⟩
theorem cacheBack_holds : Rows.CacheBackSaid :=
 OpenClaim.holds_of_wide 3 Try.f3 rfl rfl rfl rfl rfl rfl rfl ⟨rfl, rfl, rfl, rfl, rfl⟩ rfl rfl rfl rfl rfl (by kernel_rfl) Try.func3 (by kernel_rfl)
  (of_decide_eq_true (by kernel_rfl)) (by unfold Func.isWrapper; first | (rw [if_pos (by decide +kernel)]; kernel_rfl) | (rw [if_neg (by decide +kernel)]; exact ⟨rfl, rfl⟩))
  (fun os started H enc _ => cacheBack_lifted os started H enc)
end Go.Proofs.Ytimmobbginjkfaa
