/- 'shuntlaw10.IsaApart' answers true for any instruction, two sets of registers, and two places: the row, and its tied card. No condition but what the row lists. -/
import Derived.Test.YtpoopljpodkdcaaDoorIdDoor
import Derived.Test.YtpoopljpodkdcaaDoorRkOpen
import Derived.Test.YtpoopljpodkdcaaDoorIgLaw6
set_option linter.unusedSimpArgs false
set_option linter.unusedVariables false
set_option linter.unnecessarySimpa false
namespace Go.Proofs.YtpoopljpodkdcaaDoor
open Go Go.ChangeShapes Go.WideShapes Go.ChangeAt Go.RowKit Go.Sx Go.Isa
set_option maxRecDepth 100000

def theLaid : List (String × DataW Unit) := [("math/bits.deBruijn32tab", Rows.laid_math_bits_deBruijn32tab), ("math/bits.deBruijn64tab", Rows.laid_math_bits_deBruijn64tab), ("internal/strconv.uint64pow10", Rows.laid_internal_strconv_uint64pow10), ("unicode/utf8.acceptRanges", Rows.laid_unicode_utf8_acceptRanges), ("strconv.ErrRange", Rows.laid_strconv_ErrRange), ("strconv.ErrSyntax", Rows.laid_strconv_ErrSyntax), ("shunt/isa.shapes", Rows.laid_shunt_isa_shapes), ("unicode/utf8.first", Rows.laid_unicode_utf8_first)]

theorem ks_u64 : ∀ (n : Nat) (cs : List Value), Dk.Ks (List.replicate n .u64) cs → ∃ l : List Int, l.length = n ∧ cs = l.map uV ∧ ∀ x ∈ l, isU x
  | 0, cs, h => by simp only [List.replicate_zero, Dk.Ks] at h; subst h; exact ⟨[], rfl, rfl, by simp⟩
  | n + 1, cs, h => by
    simp only [List.replicate_succ, Dk.Ks] at h
    obtain ⟨a, r, rfl, hw, hr⟩ := h
    obtain ⟨l, h1, rfl, h2⟩ := ks_u64 n r hr
    refine ⟨a :: l, by simp [h1], rfl, fun x hx => ?_⟩
    rcases List.mem_cons.1 hx with rfl | hx
    · exact wfU hw
    · exact h2 x hx
theorem word16 {n : Int} (h : (Lit.int .u16 n).wf = true) : 0 ≤ n ∧ n ≤ 65535 := by
  simp [Lit.wf, IntKind.min, IntKind.max, IntKind.signed, IntKind.bits] at h
  omega

theorem isaApart_lifted (os : Os) (started : os.Started) (H : Type) (enc : TypeId × Value → H) :
    ReturnsInHanded {} Tryd.checked os 6 .any (fun w args => (Rows.isaApartSpec.pre enc Tryd.prog Tryd.f6 [] false w args ∧ laidMetH Tryd.prog theLaid w) ∧ sizedMet enc Tryd.prog Tryd.f6 (OpenSpec.ofChange Rows.isaApartSpec) false w args)
      (Rows.isaApartSpec.post enc Tryd.prog Tryd.f6 false true false false) := by
  refine returnsInHanded_of_change_and (C := Tryd.checked) (X := fun w _ => laidMetH Tryd.prog theLaid w) (fun _ _ _ hh h => h.of_heap hh) Tryd.own started (by kernel_rfl) Tryd.func6
    (ChangeSpec.witness_shaped (enc := enc) (C := Tryd.checked) (os := os) (X := fun w _ => laidMetH Tryd.prog theLaid w) false (World.laidAll Tryd.prog os theLaid) #[.agg #[.int .i64 0, .int .i64 0, .int .i64 0, .int .i64 0, .int .i64 0], .agg #[.int .u64 0, .int .u64 0, .int .u64 0, .int .u64 0, .int .u64 0, .int .u64 0, .int .u64 0, .int .u64 0, .int .u64 0, .int .u64 0, .int .u64 0, .int .u64 0, .int .u64 0, .int .u64 0, .int .u64 0, .int .u64 0], .agg #[.int .u16 0, .int .u16 0]] 8 (World.laidAll_os _ _ _)
      (World.shaped_of_ZipB (by kernel_rfl) (by kernel_rfl)) (by kernel_rfl) (by kernel_rfl) (by kernel_rfl)
      (by rw [MakeChecks.laidMetH_plain _ _ _ (by kernel_rfl)]; exact laidMet_laidAll _ (by kernel_rfl) (by kernel_rfl))) ?_
  intro W base args ds gs before hval0 hW hcnd _ hL _
  have hval : ∀ (j : Nat) t v, Tryd.f6.params[j]? = some t → args[j]? = some v → Value.okWide Tryd.prog W .any base t v := hval0
  have hW' := hW
  obtain ⟨p, q, hA0, hV, rfl, hfz, hnd⟩ := hW
  have hA : DataW.TrodAll enc Tryd.prog W 0 (fun _ => true) true Tryd.f6.params.toList args.toList ds p := hA0
  rw [Tryd.params6] at hA hval
  obtain ⟨v1, v2, v3, d1, d2, d3, p1, p2, p3, rfl, rfl, rfl, h1, h2, h3⟩ := trodAll_three hA
  obtain ⟨rfl, rfl⟩ := trodVars_none hV
  obtain ⟨x, rfl, rfl, hx⟩ := open_in Tryd.underlying23 (by kernel_rfl) (hval 0 23 v1 rfl rfl) h1
  obtain ⟨cs, rfl, _⟩ := okWide_array Tryd.underlying39 (hval 1 39 v2 rfl rfl)
  obtain ⟨hk, rfl, h2'⟩ := Dk.open_agg 3 (L := List.replicate 16 .u64) (by kernel_rfl) h2
  obtain ⟨l, hl, ecs, hU⟩ := ks_u64 16 _ hk
  have ecs : cs = (l.map uV).toArray := by rw [← Array.toList_inj]; exact ecs
  subst ecs
  obtain ⟨cs3, rfl, _⟩ := okWide_array Tryd.underlying41 (hval 2 41 v3 rfl rfl)
  obtain ⟨hk3, rfl, h3'⟩ := Dk.open_agg 3 (L := [.u16, .u16]) (by kernel_rfl) h3
  simp only [Dk.Ks] at hk3
  obtain ⟨a0, _, e3, w0, a1, _, rfl, w1, rfl⟩ := hk3
  have ecs3 : cs3 = #[.int .u16 a0, .int .u16 a1] := by rw [← Array.toList_inj]; exact e3
  subst ecs3
  simp only [List.append_nil] at hW'
  have hcall := apart6 x (l.take 8) (l.drop 8) a0 a1 W (sh_of_laid hL (by kernel_rfl)) (by simp; omega) (by simp; omega) (fun n hn => hU n (List.mem_of_mem_take hn)) (fun n hn => hU n (List.mem_of_mem_drop hn)) (word16 w0) (word16 w1)
  rw [List.take_append_drop] at hcall
  refine Calls.mono hcall fun e W' he => ?_
  cases e with
  | panicked ch => exact he.elim
  | outgrown => exact he.elim
  | returned v =>
    obtain ⟨rfl, hk⟩ := he
    have hb : Below W.heap.size W W' := ⟨hk.os, hk.tape, hk.output, hk.size, hk.block⟩
    exact ⟨_, rfl, post_of_below (pa := []) (pv := []) hW' (fun _ _ _ => trodAll_mk1 (shut_bool Tryd.underlying4 true))
      (fun sp hsp => trodAll_mk3 (p := []) (p' := []) (p'' := []) (hx W' 0 sp true) (h2' W' 0 sp true) (h3' W' 0 sp true))
      (fun _ _ => rfl) (by simp) hb (ok_one (by kernel_rfl) rfl (okWide_bool_mk Tryd.underlying4 true))⟩

theorem isaApart_row : Rows.IsaApartSaid :=
  OpenClaim.holds_of_wide 6 Tryd.f6 rfl rfl rfl rfl rfl rfl rfl ⟨rfl, rfl, rfl, rfl, rfl⟩ rfl rfl rfl rfl rfl (by kernel_rfl) Tryd.func6 (by kernel_rfl)
    (of_decide_eq_true (by kernel_rfl)) (by unfold Func.isWrapper; first | (rw [if_pos (by decide +kernel)]; kernel_rfl) | (rw [if_neg (by decide +kernel)]; exact ⟨rfl, rfl⟩))
    (fun os started H enc _ => isaApart_lifted os started H enc)

theorem isaApart_holds : Rows.IsaApartCardSaid :=
  Claim7.holds_tied_plain_at .later [] [.data, .data, .data, .data, .sentinel, .sentinel, .data, .pinned] true (true, "d825556907d1fed3ea2b1c0e8e86a5b5550c50a28679975e5909abf0486d2d7c") true
    isaApart_row (fun _ h => by cases h) (by kernel_rfl) (fun _ h => by cases h) isaApart_row_tie rfl ⟨rfl, rfl⟩ (by kernel_rfl) rfl
    (fun f fn hf hfn => by
      obtain rfl : f = 6 := Option.some.inj ((show Tryd.prog.funcNamed "shunt/shuntlaw10.IsaApart" = some 6 by kernel_rfl).symm.trans hf) |>.symm
      obtain rfl : fn = Tryd.f6 := (Option.some.inj (Tryd.func6.symm.trans hfn)).symm
      exact ⟨by kernel_rfl, fun j t ht => by
        rw [Tryd.params6] at ht
        have hm : t ∈ [23, 39, 41] := by simpa using Array.mem_of_getElem? ht
        have hall : ([23, 39, 41].all fun u => !Tryd.prog.wantsStandIn u) = true := by kernel_rfl
        exact (show Tryd.prog.wantsStandIn t = false by simpa using List.all_eq_true.1 hall t hm)⟩)
    (by kernel_rfl)
end Go.Proofs.YtpoopljpodkdcaaDoor
