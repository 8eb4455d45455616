/- 'shuntlaw12.HistSerial' answers true for any blocks, any memory at first and any number. No condition. -/
import Derived.ChangeArms
import Derived.Test.YtnedgfkgmdoahaaHsRowK
import Derived.Test.YtnedgfkgmdoahaaHsP4
set_option linter.unusedSimpArgs false
set_option linter.unusedVariables false
set_option linter.unnecessarySimpa false
namespace Go.Proofs.Ytnedgfkgmdoahaa
open Go Go.ChangeShapes Go.WideShapes Go.ChangeAt Go.RowKit Go.Sx Go.Hs Go.Dk
set_option maxRecDepth 100000
theorem open_words {H : Type} {enc : TypeId × Value → H} {W : World} {base b0 : Nat} {r : Reach} {spare : Nat → Bool} {held : Bool} {v : Value} {d : DataW H} {p : List MemPlace} (hv : Value.okWide Try.prog W r b0 95 v) (h : DataW.Trod enc Try.prog W base spare held 95 v d p) :
  ∃ (A : Option Addr) (c : Nat) (l : List Int), v = .slice A l.length c ∧ RowAt W A (l.map uV) := by
 obtain ⟨A, c, l, h1, h2, h3, h4⟩ := open_rows (f := fun n : Int => [uV n]) (Q := fun _ => True) 1 Try.underlying95 (L := [.u64]) (by kernel_rfl) (by kernel_rfl) (fun _ => rfl) (fun cs hk => by
  simp only [Dk.Ks] at hk
  obtain ⟨a, _, rfl, _, rfl⟩ := hk
  exact ⟨a, rfl, trivial⟩) hv h
 refine ⟨A, c, l, h1, ?_⟩
 have e : ∀ l : List Int, l.flatMap (fun n : Int => [uV n]) = l.map uV := fun l => by
  induction l with
  | nil => rfl
  | cons a l ih => rw [List.flatMap_cons, ih]; rfl
 rw [e] at h3; exact h3
theorem open_bops {H : Type} {enc : TypeId × Value → H} {W : World} {base : Nat} {spare : Nat → Bool} {held : Bool} {n : Nat} {v : Value} {y : DataW H × List MemPlace} (h : DataW.trod enc Try.prog W base spare held n 140 [v] = some y) :
  ∃ (A : Option Addr) (c : Nat) (l : List Bop), v = .slice A l.length c ∧ RowAt W A (bopC l) := by
 rcases open_slice_fields (t := 140) (e := 144) Try.underlying140 Try.underlying144 (by kernel_rfl) (by kernel_rfl) h with e | ⟨a, len, cap, e, hl, hi⟩
 ·injection e with e; exact ⟨none, 0, [], e, fun j u hj => by simp [bopC] at hj⟩
 ·injection e with e
  obtain ⟨l, l1, l2, _⟩ := rowAt_list (w := W) (a := a) (f := bopV) (sz := 3) (fun _ => rfl) (Q := fun _ => True) len fun i hi' => by
   obtain ⟨m, hf⟩ := hi i hi'
   obtain ⟨v0, y0, c0, t0⟩ := hf 0 _ rfl
   obtain ⟨v1, y1, c1, t1⟩ := hf 1 _ rfl
   obtain ⟨v2, y2, c2, t2⟩ := hf 2 _ rfl
   obtain ⟨n0, e0, _⟩ := DataW.trod_int (k := .i64) (by kernel_rfl) t0
   obtain ⟨n1, e1, _⟩ := DataW.trod_bool (by kernel_rfl) t1
   obtain ⟨n2, e2, _⟩ := DataW.trod_int (k := .u64) (by kernel_rfl) t2
   injection e0 with e0; injection e1 with e1; injection e2 with e2
   subst e0; subst e1; subst e2
   refine ⟨⟨n0, n1, n2⟩, trivial, fun k v hk => ?_⟩
   have hk3 : k < 3 := (List.getElem?_eq_some_iff.1 hk).1
   have : k = 0 ∨ k = 1 ∨ k = 2 := by omega
   rcases this with rfl | rfl | rfl <;> (injection hk with hk; subst hk; assumption)
  exact ⟨some a, cap, l, by rw [l1]; exact e, l2⟩
theorem open_blocks {H : Type} {enc : TypeId × Value → H} {W : World} {base b0 : Nat} {r : Reach} {spare : Nat → Bool} {held : Bool} {v : Value} {d : DataW H} {p : List MemPlace} (hv : Value.okWide Try.prog W r b0 104 v) (h : DataW.Trod enc Try.prog W base spare held 104 v d p) :
  ∃ (A : Option Addr) (c : Nat) (z : List (Blk × BHd)), v = .slice A z.length c ∧ RowAt W A (blkC z) ∧ ∀ p ∈ z, RowAt W p.2.A (bopC p.1.ops) := by
 obtain ⟨a, n, c, rfl⟩ := okWide_slice Try.underlying104 hv
 obtain ⟨fuel, hfu⟩ := h
 rcases open_slice_fields (t := 104) (e := 142) Try.underlying104 Try.underlying142 (by kernel_rfl) (by kernel_rfl) hfu with e | ⟨a', len, cap, e, hl, hi⟩
 ·have e : Value.slice a n c = .slice none 0 0 := by simpa [Value.cells] using e
  exact ⟨none, 0, [], e, fun j u hj => by simp [blkC] at hj, by simp⟩
 ·have e : Value.slice a n c = .slice (some a') len cap := by simpa [Value.cells] using e
  obtain ⟨l, l1, l2, l3⟩ := rowAt_list (w := W) (a := a') (f := blkV) (sz := 4) (fun _ => rfl) (Q := fun p => RowAt W p.2.A (bopC p.1.ops)) len fun i hi' => by
   obtain ⟨m, hf⟩ := hi i hi'
   obtain ⟨v0, y0, c0, t0⟩ := hf 0 _ rfl
   obtain ⟨v1, y1, c1, t1⟩ := hf 1 _ rfl
   obtain ⟨v2, y2, c2, t2⟩ := hf 2 _ rfl
   obtain ⟨v3, y3, c3, t3⟩ := hf 3 _ rfl
   obtain ⟨n0, e0, _⟩ := DataW.trod_int (k := .i64) (by kernel_rfl) t0
   obtain ⟨n1, e1, _⟩ := DataW.trod_int (k := .i64) (by kernel_rfl) t1
   obtain ⟨O, oc, ops, e2, ho⟩ := open_bops t2
   obtain ⟨n3, e3, _⟩ := DataW.trod_bool (by kernel_rfl) t3
   injection e0 with e0; injection e1 with e1; injection e3 with e3
   subst e0; subst e1; subst e2; subst e3
   refine ⟨(⟨n0, n1, ops, n3⟩, ⟨O, oc⟩), ho, fun k v hk => ?_⟩
   have hk3 : k < 4 := (List.getElem?_eq_some_iff.1 hk).1
   have : k = 0 ∨ k = 1 ∨ k = 2 ∨ k = 3 := by omega
   rcases this with rfl | rfl | rfl | rfl <;> (injection hk with hk; subst hk; assumption)
  exact ⟨some a', cap, l, by rw [l1]; exact e, l2, l3⟩
theorem lit_i64 {n : Int} (h : (Lit.int .i64 n).wf = true) : -9223372036854775808 ≤ n ∧ n ≤ 9223372036854775807 := by
 simp [Lit.wf, IntKind.min, IntKind.max, IntKind.signed, IntKind.bits] at h
 omega
theorem histSerial_lifted (os : Os) (started : os.Started) (H : Type) (enc : TypeId × Value → H) :
  ReturnsInHanded {} Try.checked os 11 .any (Rows.histSerialSpec.pre6 enc Try.prog Try.f11 Rows.histSerialRow.domain false) (Rows.histSerialSpec.post enc Try.prog Try.f11 false true false false) := by
 refine returnsInHanded_of_change (C := Try.checked) Try.ownH started (by kernel_rfl) Try.func11
  (ChangeSpec.witness6 (enc := enc) (C := Try.checked) false ⟨#[], #[.slice none 0 0, .slice none 0 0, .int .i64 0], []⟩ 8 (by kernel_rfl) (by kernel_rfl) (by kernel_rfl) (by kernel_rfl)) ?_
 intro W base args ds gs before hval0 hW hcnd _
 have hval : ∀ (j : Nat) t v, Try.f11.params[j]? = some t → args[j]? = some v → Value.okWide Try.prog W .any base t v := hval0
 have hW' := hW
 obtain ⟨p, q, hA0, hV, rfl, hfz, hnd⟩ := hW
 have hA : DataW.TrodAll enc Try.prog W 0 (fun _ => true) true Try.f11.params.toList args.toList ds p := hA0
 rw [Try.params11] at hA hval
 obtain ⟨v1, v2, v3, d1, d2, d3, p1, p2, p3, rfl, rfl, rfl, h1, h2, h3⟩ := trodAll_three hA
 obtain ⟨rfl, rfl⟩ := trodVars_none hV
 clear hA0 hval0
 simp only [List.append_nil] at hW'
 obtain ⟨L, lc, z, rfl, hL, hops⟩ := open_blocks (hval 0 104 v1 rfl rfl) h1
 obtain ⟨A', c', fs, rfl, hr2⟩ := open_words (hval 1 95 v2 rfl rfl) h2
 obtain ⟨o, rfl, wo, rfl, h3'⟩ := Dk.open_int Try.underlying3 (hval 2 3 v3 rfl rfl) h3
 have hlt : ∀ x ∈ p1 ++ p2, x.block < W.heap.size := fun x hx => hW'.lt x (by simpa using hx)
 refine Calls.mono (law11 L A' lc c' z fs o W hL hops hr2 (lit_i64 wo)) fun e W' he => ?_
 cases e with
 | panicked ch => exact he.elim
 | outgrown => exact he.elim
 | returned v =>
  obtain ⟨rfl, hk⟩ := he
  have hb : Below W.heap.size W W' := ⟨hk.os, hk.tape, hk.output, hk.size, hk.block⟩
  exact ⟨_, rfl, Dk.post_of_below (pa := p1 ++ (p2 ++ [])) (pv := []) hW' (fun _ _ _ => trodAll_mk1 (shut_bool Try.underlying4 true))
   (fun sp hsp => trodAll_mk3 (WideElems.Trod_stays Try.laidOutH (by kernel_rfl) (of_decide_eq_true (by kernel_rfl)) h1 (fun x hx => hb.same (hlt x (by simp [hx]))) (fun x hx => hsp x (by simp [hx])))
    (WideElems.Trod_stays Try.laidOutH (by kernel_rfl) (of_decide_eq_true (by kernel_rfl)) h2 (fun x hx => hb.same (hlt x (by simp [hx]))) (fun x hx => hsp x (by simp [hx]))) (h3' _ _ _ _))
   (fun _ _ => rfl) (by simp) hb (ok_one (by kernel_rfl) rfl (okWide_bool_mk Try.underlying4 true))⟩
theorem histSerial_holds : Rows.HistSerialSaid :=
 OpenClaim.holds_of_wide 11 Try.f11 rfl rfl rfl rfl rfl rfl rfl ⟨rfl, rfl, rfl, rfl, rfl⟩ rfl rfl rfl rfl rfl (by kernel_rfl) Try.func11 (by kernel_rfl)
  (of_decide_eq_true (by kernel_rfl)) (by unfold Func.isWrapper; first | (rw [if_pos (by decide +kernel)]; kernel_rfl) | (rw [if_neg (by decide +kernel)]; exact ⟨rfl, rfl⟩))
  (fun os started H enc _ => histSerial_lifted os started H enc)
end Go.Proofs.Ytnedgfkgmdoahaa
