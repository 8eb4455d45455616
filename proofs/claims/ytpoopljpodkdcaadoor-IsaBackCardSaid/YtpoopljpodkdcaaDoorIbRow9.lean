/- 'shuntlaw10.IsaBack' answers true for every list of instructions and every list of bytes: the row, and its tied card. No condition but what the row lists. -/
import Derived.Deep.Slices
import Derived.Deep.Fields
import Derived.Test.YtpoopljpodkdcaaDoorIdDoor
import Derived.Test.YtpoopljpodkdcaaDoorIbLaw9
set_option linter.unusedSimpArgs false
set_option linter.unusedVariables false
set_option linter.unnecessarySimpa false
namespace Go.Proofs.YtpoopljpodkdcaaDoor
open Go Go.ChangeShapes Go.WideShapes Go.ChangeAt Go.RowKit Go.Deep Go.Sx Go.Isa
set_option maxRecDepth 100000
theorem Tryd.laidOut : laidOutB Tryd.prog = true := by kernel_rfl
section
variable {H : Type} {enc : TypeId × Value → H} {P : Program} {w : World} {base : Nat} {spare : Nat → Bool} {held : Bool}
theorem open_slice_fields {t e : TypeId} {fs : Array Field} {fuel : Nat} {cs : List Value} {x : DataW H × List MemPlace} (ht : P.underlying t = some (.slice e)) (he : P.underlying e = some (.struct fs))
    (hone : oneCellFields P fs = true) (hC : P.cellsOf e = fs.size) (h : DataW.trod enc P w base spare held fuel t cs = some x) :
    (cs = [.slice none 0 0] ∧ x = (.nil, [])) ∨
    ∃ (a : Addr) (len cap m : Nat) (D : Nat → DataW H) (Pl : Nat → List MemPlace), cs = [.slice (some a) len cap] ∧ base ≤ a.block ∧ len ≤ cap ∧ cap ≤ maxLen ∧ m = (if spare a.block then cap else len) ∧
      x = (.slice ((List.range len).map D) ((List.range (m - len)).map fun j => D (len + j)), MemPlace.row a (m * fs.size) ++ (List.range m).flatMap Pl) ∧
      ∀ i, i < m → ∃ (ys : List (DataW H × List MemPlace)) (n : Nat), D i = .agg (ys.map (·.1)) ∧ Pl i = ys.flatMap (·.2) ∧ ys.length = fs.size ∧
        ∀ (j : Nat) (f : Field), fs[j]? = some f → ∃ (v : Value) (y : DataW H × List MemPlace), w.cell? (a.add (i * fs.size + j)) = some v ∧ ys[j]? = some y ∧ DataW.trod enc P w base spare held n f.type [v] = some y := by
  rcases open_slice ht h with h0 | ⟨a, len, cap, m, n, D, Pl, hcs, hb, hl, hm, hmm, hx, hi⟩
  · exact .inl h0
  · refine .inr ⟨a, len, cap, m, D, Pl, hcs, hb, hl, hm, hmm, by rw [hC] at hx; exact hx, fun i him => ?_⟩
    obtain ⟨cs', hc, ht'⟩ := hi i him
    rw [hC] at hc
    obtain ⟨ys, n', hn', hy, hlen, hyl, hf⟩ := DataW.trod_struct he ht'
    obtain ⟨_, hcl, hat⟩ := World.cells?_some hc
    simp only [Prod.mk.injEq] at hy
    refine ⟨ys, n', hy.1, hy.2, hyl, fun j f hj => ?_⟩
    obtain ⟨ho, hk⟩ := hone_of hone j f hj
    have hjl : j < fs.size := (Array.getElem?_eq_some_iff.1 hj).1
    have hcell := hat j hjl
    have hv : cs'[j]? = some (cs'[j]'(by omega)) := List.getElem?_eq_getElem (by omega)
    have h1 := hf j f hj
    rw [ho, hk] at h1
    have hone' : (cs'.drop j).take 1 = [cs'[j]'(by omega)] := by
      rw [List.drop_eq_getElem_cons (by omega)]
      rfl
    rw [hone'] at h1
    have hys : ys[j]? = some (ys[j]'(by omega)) := List.getElem?_eq_getElem (by omega)
    refine ⟨_, _, ?_, hys, h1.trans hys⟩
    rw [← Go.Deep.add_add, hcell, hv]
end

/-- Cells at each place of a row, from lists of them. -/
theorem rowAtI {w : World} {a : Addr} (n : Nat) (h : ∀ i, i < n → ∃ x : In, ∀ k v, x.cells[k]? = some v → w.cell? (a.add (i * 5 + k)) = some v) : ∃ l : List In, l.length = n ∧ RowAt w (some a) (cellsI l) := by
  induction n with
  | zero => exact ⟨[], rfl, fun j u hj => by simp [cellsI] at hj⟩
  | succ n ih =>
    obtain ⟨l, hl, hr⟩ := ih fun i hi => h i (by omega)
    obtain ⟨x, hx⟩ := h n (by omega)
    refine ⟨l ++ [x], by simp [hl], fun j u hj => ?_⟩
    rw [cellsI_app] at hj
    by_cases hlt : j < (cellsI l).length
    · rw [List.getElem?_append_left hlt] at hj; exact hr j u hj
    · rw [List.getElem?_append_right (by omega)] at hj
      have e : cellsI [x] = x.cells := by simp [cellsI]
      rw [e] at hj
      have hc := hx _ _ hj
      have ej : n * 5 + (j - (cellsI l).length) = j := by rw [cellsI_len, hl] at *; omega
      rw [ej] at hc
      refine ⟨a, rfl, ?_, hc⟩
      unfold World.cell? at hc
      rw [add_block] at hc
      split at hc
      · rename_i e; exact (Array.getElem?_eq_some_iff.1 e).1
      · cases hc

/-- Cells at each place of a row, from lists of them. -/
theorem rowAtB {w : World} {a : Addr} (n : Nat) (h : ∀ i, i < n → ∃ x : Int, isB x ∧ w.cell? (a.add i) = some (vb x)) : ∃ l : List Int, l.length = n ∧ RowAt w (some a) (l.map vb) ∧ ∀ x ∈ l, isB x := by
  induction n with
  | zero => exact ⟨[], rfl, fun j u hj => by simp at hj, by simp⟩
  | succ n ih =>
    obtain ⟨l, hl, hr, hb⟩ := ih fun i hi => h i (by omega)
    obtain ⟨x, hx, hc⟩ := h n (by omega)
    refine ⟨l ++ [x], by simp [hl], fun j u hj => ?_, fun y hy => ?_⟩
    · rw [List.map_append] at hj
      by_cases hlt : j < (l.map vb).length
      · rw [List.getElem?_append_left hlt] at hj; exact hr j u hj
      · rw [List.getElem?_append_right (by omega)] at hj
        have hj0 := (List.getElem?_eq_some_iff.1 hj).1
        simp at hj0 hlt
        have ej : j = n := by omega
        subst ej
        have : u = vb x := by simp [hl] at hj; exact hj.symm
        subst this
        refine ⟨a, rfl, ?_, hc⟩
        unfold World.cell? at hc
        rw [add_block] at hc
        split at hc
        · rename_i e; exact (Array.getElem?_eq_some_iff.1 e).1
        · cases hc
    · rcases List.mem_append.1 hy with hy | hy
      · exact hb y hy
      · simp at hy; subst hy; exact hx

theorem one_cell {W : World} {base : Nat} {v : Value} {A : Option Addr} {n c : Nat} {t e : TypeId} (hu : Tryd.prog.underlying t = some (.slice e)) (h : Value.okWide Tryd.prog W .any base t v) (e : v.cells.toList = [.slice A n c]) : v = .slice A n c := by
  obtain ⟨a, l, d, rfl⟩ := okWide_slice hu h
  simpa [Value.cells] using e

def theLaid : List (String × DataW Unit) := [("math/bits.deBruijn32tab", Rows.laid_math_bits_deBruijn32tab), ("math/bits.deBruijn64tab", Rows.laid_math_bits_deBruijn64tab), ("internal/strconv.uint64pow10", Rows.laid_internal_strconv_uint64pow10), ("unicode/utf8.acceptRanges", Rows.laid_unicode_utf8_acceptRanges), ("strconv.ErrRange", Rows.laid_strconv_ErrRange), ("strconv.ErrSyntax", Rows.laid_strconv_ErrSyntax), ("shunt/isa.shapes", Rows.laid_shunt_isa_shapes), ("unicode/utf8.first", Rows.laid_unicode_utf8_first)]

theorem isaBack_lifted (os : Os) (started : os.Started) (H : Type) (enc : TypeId × Value → H) :
    ReturnsInHanded {} Tryd.checked os 9 .any (fun w args => (Rows.isaBackSpec.pre enc Tryd.prog Tryd.f9 [] false w args ∧ laidMetH Tryd.prog theLaid w) ∧ sizedMet enc Tryd.prog Tryd.f9 (OpenSpec.ofChange Rows.isaBackSpec) false w args)
      (Rows.isaBackSpec.post enc Tryd.prog Tryd.f9 false true false false) := by
  refine returnsInHanded_of_change_and (C := Tryd.checked) (X := fun w _ => laidMetH Tryd.prog theLaid w) (fun _ _ _ hh h => h.of_heap hh) Tryd.own started (by kernel_rfl) Tryd.func9
    (ChangeSpec.witness_shaped (enc := enc) (C := Tryd.checked) (os := os) (X := fun w _ => laidMetH Tryd.prog theLaid w) false (World.laidAll Tryd.prog os theLaid) #[.slice none 0 0, .slice none 0 0] 8 (World.laidAll_os _ _ _)
      (World.shaped_of_ZipB (by kernel_rfl) (by kernel_rfl)) (by kernel_rfl) (by kernel_rfl) (by kernel_rfl)
      (by rw [MakeChecks.laidMetH_plain _ _ _ (by kernel_rfl)]; exact laidMet_laidAll _ (by kernel_rfl) (by kernel_rfl))) ?_
  intro W base args ds gs before hval0 hW hcnd _ hL _
  have hval : ∀ (j : Nat) t v, Tryd.f9.params[j]? = some t → args[j]? = some v → Value.okWide Tryd.prog W .any base t v := hval0
  have hW' := hW
  obtain ⟨p, q, hA0, hV, rfl, hfz, hnd⟩ := hW
  have hA : DataW.TrodAll enc Tryd.prog W 0 (fun _ => true) true Tryd.f9.params.toList args.toList ds p := hA0
  rw [Tryd.params9] at hA hval
  obtain ⟨v1, v2, d1, d2, p1, p2, rfl, rfl, rfl, h1, h2⟩ := trodAll_two hA
  obtain ⟨rfl, rfl⟩ := trodVars_none hV
  clear hA0 hval0
  simp only [List.append_nil] at hW'
  have hlt : ∀ x ∈ p1 ++ p2, x.block < W.heap.size := fun x hx => hW'.lt x hx
  have arg1 : ∃ (A : Option Addr) (c : Nat) (l : List In), v1 = .slice A l.length c ∧ RowAt W A (cellsI l) := by
    obtain ⟨n0, h1'⟩ := h1
    rcases open_slice_fields Tryd.underlying50 Tryd.underlying23 (by kernel_rfl) (by kernel_rfl) h1' with ⟨e1, _⟩ | ⟨a, len, cap, m, D, Pl, e1, _, hl, hc, hm, _, hf⟩
    · refine ⟨none, 0, [], ?_, fun j u hj => by simp [cellsI] at hj⟩
      exact one_cell Tryd.underlying50 (hval 0 50 v1 rfl rfl) e1
    · have hm : m = cap := by simpa using hm
      obtain ⟨l, hl2, hr⟩ := rowAtI (w := W) (a := a) len (fun i hi => by
        obtain ⟨ys, n, _, _, _, hj⟩ := hf i (by omega)
        have fld : ∀ (v : Value) (n : Nat) (y : DataW H × List MemPlace) (k : Nat), W.cell? (a.add (i * 5 + k)) = some v → DataW.trod enc Tryd.prog W 0 (fun _ => true) true n 3 [v] = some y → ∃ z : Int, W.cell? (a.add (i * 5 + k)) = some (.int .i64 z) := by
          intro v n y k hc ht
          obtain ⟨z, hz, _⟩ := DataW.trod_int Tryd.underlying3 ht
          simp only [List.cons.injEq, and_true] at hz
          exact ⟨z, by rw [hc, hz]⟩
        obtain ⟨v0, y0, c0, _, t0⟩ := hj 0 _ rfl
        obtain ⟨v1, y1, c1, _, t1⟩ := hj 1 _ rfl
        obtain ⟨v2, y2, c2, _, t2⟩ := hj 2 _ rfl
        obtain ⟨v3, y3, c3, _, t3⟩ := hj 3 _ rfl
        obtain ⟨v4, y4, c4, _, t4⟩ := hj 4 _ rfl
        obtain ⟨z0, g0⟩ := fld v0 n y0 0 c0 t0
        obtain ⟨z1, g1⟩ := fld v1 n y1 1 c1 t1
        obtain ⟨z2, g2⟩ := fld v2 n y2 2 c2 t2
        obtain ⟨z3, g3⟩ := fld v3 n y3 3 c3 t3
        obtain ⟨z4, g4⟩ := fld v4 n y4 4 c4 t4
        refine ⟨⟨z0, z1, z2, z3, z4⟩, fun k v hk => ?_⟩
        have hk5 : k < 5 := (List.getElem?_eq_some_iff.1 hk).1
        have : k = 0 ∨ k = 1 ∨ k = 2 ∨ k = 3 ∨ k = 4 := by omega
        rcases this with rfl | rfl | rfl | rfl | rfl <;> simp only [In.cells, List.getElem?_cons_zero, List.getElem?_cons_succ, Option.some.injEq] at hk <;> subst hk <;> assumption)
      refine ⟨some a, cap, l, ?_, hr⟩
      rw [hl2]
      exact one_cell Tryd.underlying50 (hval 0 50 v1 rfl rfl) e1
  have arg2 : ∃ (A : Option Addr) (c : Nat) (l : List Int), v2 = .slice A l.length c ∧ RowAt W A (l.map vb) ∧ (∀ x ∈ l, isB x) ∧ l.length ≤ c := by
    obtain ⟨n0, h2'⟩ := h2
    rcases open_slice1 Tryd.underlying52 (by kernel_rfl) h2' with ⟨e1, _⟩ | ⟨a, len, cap, m, n, V, D, Pl, e1, _, hl, hc, hm, _, hf⟩
    · refine ⟨none, 0, [], ?_, fun j u hj => by simp at hj, by simp, Nat.le_refl _⟩
      exact one_cell Tryd.underlying52 (hval 1 52 v2 rfl rfl) e1
    · have hm : m = cap := by simpa using hm
      obtain ⟨l, hl2, hr, hb⟩ := rowAtB (w := W) (a := a) len (fun i hi => by
        obtain ⟨hc, ht⟩ := hf i (by omega)
        obtain ⟨z, hz, _, hw⟩ := DataW.trod_int Tryd.underlying5 ht
        simp only [List.cons.injEq, and_true] at hz
        rw [hz] at hc
        refine ⟨z, ?_, hc⟩
        simp [Lit.wf, IntKind.min, IntKind.max, IntKind.bits, IntKind.signed] at hw
        simp only [isB]; omega)
      refine ⟨some a, cap, l, ?_, hr, hb, by omega⟩
      rw [hl2]
      exact one_cell Tryd.underlying52 (hval 1 52 v2 rfl rfl) e1
  obtain ⟨A, c, l, rfl, hr⟩ := arg1
  obtain ⟨B, c2, b, rfl, hr2, hb0, hlc⟩ := arg2
  refine Calls.mono (law9 A B c c2 l b W (sh_of_laid hL (by kernel_rfl)) hr hr2 hb0 hlc) fun e W' he => ?_
  cases e with
  | panicked ch => exact he.elim
  | outgrown => exact he.elim
  | returned v =>
    obtain ⟨rfl, hk⟩ := he
    have hb : Below W.heap.size W W' := ⟨hk.os, hk.tape, hk.output, hk.size, hk.block⟩
    exact ⟨_, rfl, post_of_below (pa := p1 ++ p2) (pv := []) hW' (fun _ _ _ => trodAll_mk1 (shut_bool Tryd.underlying4 true))
      (fun sp hsp => trodAll_mk2 (WideElems.Trod_stays Tryd.laidOut (by kernel_rfl) (of_decide_eq_true (by kernel_rfl)) h1 (fun x hx => hb.same (hlt x (by simp [hx]))) (fun x hx => hsp x (by simp [hx])))
        (WideElems.Trod_stays Tryd.laidOut (by kernel_rfl) (of_decide_eq_true (by kernel_rfl)) h2 (fun x hx => hb.same (hlt x (by simp [hx]))) (fun x hx => hsp x (by simp [hx]))))
      (fun _ _ => rfl) (by simp) hb (ok_one (by kernel_rfl) rfl (okWide_bool_mk Tryd.underlying4 true))⟩

theorem isaBack_row : Rows.IsaBackSaid :=
  OpenClaim.holds_of_wide 9 Tryd.f9 rfl rfl rfl rfl rfl rfl rfl ⟨rfl, rfl, rfl, rfl, rfl⟩ rfl rfl rfl rfl rfl (by kernel_rfl) Tryd.func9 (by kernel_rfl)
    (of_decide_eq_true (by kernel_rfl)) (by unfold Func.isWrapper; first | (rw [if_pos (by decide +kernel)]; kernel_rfl) | (rw [if_neg (by decide +kernel)]; exact ⟨rfl, rfl⟩))
    (fun os started H enc _ => isaBack_lifted os started H enc)

theorem isaBack_holds : Rows.IsaBackCardSaid :=
  Claim7.holds_tied_plain_at .later [] [.data, .data, .data, .data, .sentinel, .sentinel, .data, .pinned] true (true, "d825556907d1fed3ea2b1c0e8e86a5b5550c50a28679975e5909abf0486d2d7c") true
    isaBack_row (fun _ h => by cases h) (by kernel_rfl) (fun _ h => by cases h) isaBack_row_tie rfl ⟨rfl, rfl⟩ (by kernel_rfl) rfl
    (fun f fn hf hfn => by
      obtain rfl : f = 9 := Option.some.inj ((show Tryd.prog.funcNamed "shunt/shuntlaw10.IsaBack" = some 9 by kernel_rfl).symm.trans hf) |>.symm
      obtain rfl : fn = Tryd.f9 := (Option.some.inj (Tryd.func9.symm.trans hfn)).symm
      exact ⟨by kernel_rfl, fun j t ht => by
        rw [Tryd.params9] at ht
        have hm : t ∈ [50, 52] := by simpa using Array.mem_of_getElem? ht
        have hall : ([50, 52].all fun u => !Tryd.prog.wantsStandIn u) = true := by kernel_rfl
        exact (show Tryd.prog.wantsStandIn t = false by simpa using List.all_eq_true.1 hall t hm)⟩)
    (by kernel_rfl)
end Go.Proofs.YtpoopljpodkdcaaDoor
