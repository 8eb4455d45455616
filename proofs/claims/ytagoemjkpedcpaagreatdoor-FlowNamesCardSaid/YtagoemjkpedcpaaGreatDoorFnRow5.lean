/- 'shuntlaw16.FlowNames' answers true: the row, and its tied card. No condition but what the row lists (isa's table of shapes as the program's text lays it). By its run, walked by the kernel. -/
import Derived.Test.YtagoemjkpedcpaaGreatDoorRows
import Derived.Test.YtagoemjkpedcpaaGreatDoorTie
import Derived.Test.YtagoemjkpedcpaaGreatDoorCards
import Derived.ProofKit
import Derived.Below
import Derived.Carry
import Derived.ChangeSame
import Derived.Lay
import Derived.MakeChecks
import Derived.SevenTiedAt
import Derived.Test.YtagoemjkpedcpaaGreatDoorDkFlat
import Derived.Test.YtagoemjkpedcpaaGreatDoorFnKt
set_option linter.unusedSimpArgs false
set_option linter.unusedVariables false
set_option linter.unnecessarySimpa false
namespace Go.Proofs.YtagoemjkpedcpaaGreatDoor
open Go Go.ChangeShapes Go.WideShapes Go.ChangeAt Go.RowKit Go.Kx

theorem Tryz.own : ownKnob Tryz.prog.godebug = none := by kernel_rfl

section
variable {H : Type} {enc : TypeId × Value → H} {P : Program}
theorem post_of_below {f : Func} {s : ChangeSpec} {apart fresh handsOn again : Bool} {W W' : World} {args : Array Value} {v : Value} {ds gs : List (DataW H)} {before pa pv : List MemPlace}
    (hW : DataW.Whole enc P f.params.toList s.vars apart W args.toList ds gs before)
    (hres : ∀ (b : Nat) (sp : Nat → Bool) (hd : Bool), DataW.TrodAll enc P W' b sp hd f.resultTypes.toList (v.resultList f.resultTypes.size) (s.fn H (ds ++ gs)).results [])
    (hargs : ∀ sp : Nat → Bool, (∀ p ∈ before, sp p.block = true) → DataW.TrodAll enc P W' 0 sp true f.params.toList args.toList (s.fn H (ds ++ gs)).args pa)
    (hvars : ∀ sp : Nat → Bool, (∀ p ∈ before, sp p.block = true) → DataW.TrodVars enc P W' sp s.vars (s.fn H (ds ++ gs)).vars pv)
    (hps : before = pa ++ pv) (hb : Below W.heap.size W W')
    (hok : ∀ (j : Nat) (t : TypeId) (r : Value), f.resultTypes[j]? = some t → (v.resultList f.resultTypes.size)[j]? = some r → Value.okWide P W' .any 0 t r) :
    s.post enc P f apart fresh handsOn again W args v W' := by
  have hlt : ∀ p ∈ before, p.block < W.heap.size := fun p hp => hW.lt p hp
  have hold : ∀ p ∈ before, (fun b => decide (b < W.heap.size)) p.block = true := fun p hp => by simpa using hlt p hp
  refine ⟨ds, gs, before, [], pa, pv, hW, hres _ _ _, hargs _ hold, hvars _ hold, World.keptBut_mono (fun p hp => ⟨hp, ?_⟩) (hb.frame (· ∈ before)), fun _ => ?_⟩
  · rw [hps, List.mem_append] at hp
    exact Or.inr hp
  · obtain ⟨_, _, _, _, _, hz, hn⟩ := hW
    refine ⟨hok, _, _, ([] ++ pa) ++ pv, ⟨[] ++ pa, pv, trodAll_append (hargs _ (fun _ _ => rfl)) (hres _ _ _), hvars _ (fun _ _ => rfl), rfl, ?_, ?_⟩, ?_⟩
    · intro b off hp
      have hin : MemPlace.cell b off ∈ before := by rw [hps]; simpa using hp
      rw [hb.frozen (hlt _ hin)]
      exact hz b off hin
    · intro ha
      have := hn ha
      rw [hps] at this
      simpa using this
    · intro p hp _
      rw [hps]
      simpa using hp
end

/-- isa's shapes. -/
noncomputable def shG : Nat := (Tryz.prog.globalNamed "shunt/isa.shapes").getD 0
noncomputable def shT : TypeId := ((Tryz.prog.globals[shG]?).map (·.type)).getD 0
noncomputable def shC : List Value := (Dk.flatD (Rows.laid_shunt_isa_shapes : DataW Unit)).getD []
theorem shG_is : Tryz.prog.globalNamed "shunt/isa.shapes" = some shG := by kernel_rfl
theorem shT_is : (Tryz.prog.globals[shG]?).map (·.type) = some shT := by kernel_rfl
theorem shC_is : Dk.flatD (Rows.laid_shunt_isa_shapes : DataW Unit) = some shC := by kernel_rfl
def theLaid : List (String × DataW Unit) := [("math/bits.deBruijn32tab", Rows.laid_math_bits_deBruijn32tab), ("math/bits.deBruijn64tab", Rows.laid_math_bits_deBruijn64tab), ("internal/strconv.uint64pow10", Rows.laid_internal_strconv_uint64pow10), ("unicode/utf8.acceptRanges", Rows.laid_unicode_utf8_acceptRanges), ("strconv.ErrRange", Rows.laid_strconv_ErrRange), ("strconv.ErrSyntax", Rows.laid_strconv_ErrSyntax), ("shunt/isa.shapes", Rows.laid_shunt_isa_shapes), ("unicode/utf8.first", Rows.laid_unicode_utf8_first)]
theorem sh_cells {w : World} (h : laidMetH Tryz.prog theLaid w) : shG < w.heap.size ∧ ∀ j u, shC[j]? = some u → w.cell? ⟨shG, j, none⟩ = some u :=
  Dk.laid_cells (k := 5) h (n := "shunt/isa.shapes") (d := Rows.laid_shunt_isa_shapes) (by kernel_rfl) (by kernel_rfl) shG_is shT_is (by kernel_rfl) shC_is (by decide +kernel)

noncomputable def kC0 : Cfg := ⟨Kt.kT, [(shG, shC)], [], []⟩
theorem kOk0 : TabOk Tryz.prog kC0 := tabOk_of Kt.hL Kt.hT (by kernel_rfl) (fun _ h => by cases h)
def mF : Mem := ⟨11, [], [.row 52 5 5 [.int .i64 2, .int .i64 1, .int .i64 0, .int .i64 0, .int .i64 0, .int .i64 14, .int .i64 1, .int .i64 2, .int .i64 0, .int .i64 4, .int .i64 2, .int .i64 1, .int .i64 0, .int .i64 0, .int .i64 1, .int .i64 13, .int .i64 0, .int .i64 0, .int .i64 0, .int .i64 1, .int .i64 1, .int .i64 0, .int .i64 0, .int .i64 0, .int .i64 0]]⟩
theorem saidF : saidM mF.rs (callF kC0 (run kC0 1000000) mF.f (mF.args.map .v) ⟨.e, 0⟩) = true := by kernel_rfl
noncomputable def kC : Cfg := ⟨Kt.kT, [(shG, shC)], [], [mF]⟩
theorem kOk : TabOk Tryz.prog kC := tabOk_of Kt.hL Kt.hT (by kernel_rfl) (fun m h => by
  simp only [kC, List.mem_singleton] at h; subst h
  exact memo_of kOk0 rfl (by kernel_rfl) saidF)
theorem kG {W : World} (h : laidMetH Tryz.prog theLaid W) : (KE.mk W W.heap.size kC.G).Ok := by
  intro g l hg
  simp only [kC, List.mem_cons, List.mem_nil_iff, or_false, Prod.mk.injEq] at hg
  obtain ⟨rfl, rfl⟩ := hg
  exact sh_cells h
theorem said5 : said true (callF kC (run kC 1000000) 5 ([].map .v) ⟨.e, 0⟩) = true := by kernel_rfl
theorem law5 (W : World) (h : laidMetH Tryz.prog theLaid W) : Sx.CallsV Tryz.prog 5 [] W fun u w' => u = .bool true ∧ Sx.Fresh W w' := by
  obtain ⟨S', hs⟩ := said_spec said5
  exact closed_call kOk (kG h) hs

set_option maxRecDepth 100000 in
theorem flowNames_lifted (os : Os) (started : os.Started) (H : Type) (enc : TypeId × Value → H) :
    ReturnsInHanded {} Tryz.checked os 5 .any (fun w args => (Rows.flowNamesSpec.pre enc Tryz.prog Tryz.f5 [] false w args ∧ laidMetH Tryz.prog theLaid w) ∧ sizedMet enc Tryz.prog Tryz.f5 (OpenSpec.ofChange Rows.flowNamesSpec) false w args)
      (Rows.flowNamesSpec.post enc Tryz.prog Tryz.f5 false true false false) := by
  refine returnsInHanded_of_change_and (C := Tryz.checked) (X := fun w _ => laidMetH Tryz.prog theLaid w) (fun _ _ _ hh h => h.of_heap hh) Tryz.own started (by kernel_rfl) Tryz.func5
    (ChangeSpec.witness_shaped (enc := enc) (C := Tryz.checked) (os := os) (X := fun w _ => laidMetH Tryz.prog theLaid w) false (World.laidAll Tryz.prog os theLaid) #[] 8 (World.laidAll_os _ _ _)
      (World.shaped_of_ZipB (by kernel_rfl) (by kernel_rfl)) (by kernel_rfl) (by kernel_rfl) (by kernel_rfl)
      (by rw [MakeChecks.laidMetH_plain _ _ _ (by kernel_rfl)]; exact laidMet_laidAll _ (by kernel_rfl) (by kernel_rfl))) ?_
  intro W base args ds gs before hval0 hW hcnd _ hL _
  have hW' := hW
  obtain ⟨p, q, hA0, hV, rfl, hfz, hnd⟩ := hW
  have hA : DataW.TrodAll enc Tryz.prog W 0 (fun _ => true) true Tryz.f5.params.toList args.toList ds p := hA0
  rw [Tryz.params5] at hA
  obtain ⟨rfl, rfl, rfl⟩ := trodAll_none hA
  obtain ⟨rfl, rfl⟩ := trodVars_none hV
  simp only [List.append_nil] at hW'
  refine Calls.mono (law5 W hL) fun e W' he => ?_
  cases e with
  | panicked ch => exact he.elim
  | outgrown => exact he.elim
  | returned v =>
    obtain ⟨rfl, hk⟩ := he
    have hb : Below W.heap.size W W' := ⟨hk.os, hk.tape, hk.output, hk.size, hk.block⟩
    exact ⟨_, rfl, post_of_below (pa := []) (pv := []) hW' (fun _ _ _ => trodAll_mk1 (shut_bool Tryz.underlying4 true))
      (fun sp hsp => by trivial)
      (fun _ _ => rfl) (by simp) hb (ok_one (by kernel_rfl) rfl (okWide_bool_mk Tryz.underlying4 true))⟩

theorem flowNames_row : Rows.FlowNamesSaid :=
  OpenClaim.holds_of_wide 5 Tryz.f5 rfl rfl rfl rfl rfl rfl rfl ⟨rfl, rfl, rfl, rfl, rfl⟩ rfl rfl rfl rfl rfl (by kernel_rfl) Tryz.func5 (by kernel_rfl)
    (of_decide_eq_true (by kernel_rfl)) (by unfold Func.isWrapper; first | (rw [if_pos (by decide +kernel)]; kernel_rfl) | (rw [if_neg (by decide +kernel)]; exact ⟨rfl, rfl⟩))
    (fun os started H enc _ => flowNames_lifted os started H enc)

theorem flowNames_holds : Rows.FlowNamesCardSaid :=
  Claim7.holds_tied_plain_at .later [] [.data, .data, .data, .data, .sentinel, .sentinel, .data, .pinned] true (true, "196733e1548e60c9d7a85a56b7633361ec60ff7b7a20f5d712edacbc0f49e070") true
    flowNames_row (fun _ h => by cases h) (by kernel_rfl) (fun _ h => by cases h) flowNames_row_tie rfl ⟨rfl, rfl⟩ (by kernel_rfl) rfl
    (fun f fn hf hfn => by
      obtain rfl : f = 5 := Option.some.inj ((show Tryz.prog.funcNamed "shunt/shuntlaw16.FlowNames" = some 5 by kernel_rfl).symm.trans hf) |>.symm
      obtain rfl : fn = Tryz.f5 := (Option.some.inj (Tryz.func5.symm.trans hfn)).symm
      exact ⟨by kernel_rfl, fun j t ht => by
        rw [Tryz.params5] at ht
        simp at ht⟩)
    (by kernel_rfl)
end Go.Proofs.YtagoemjkpedcpaaGreatDoor
