/- shuntlaw26.ClocksTell: the walk. -/
import Derived.Test.YtnedgfkgmdoahaaClkR4
import Derived.Test.YtnedgfkgmdoahaaClkCodeT
set_option linter.unusedSimpArgs false
set_option linter.unusedVariables false
set_option linter.unnecessarySimpa false
namespace Go.Proofs.Ytnedgfkgmdoahaa
open Go Go.Sx Go.Clk
set_option maxRecDepth 100000
theorem ownsB_slice {w : World} {N sz n : Nat} {t : TypeId} {v : Value} {xs : List Value} (h : World.ownsB w N t sz v n xs) : ∃ A c, v = .slice A n c := by
 obtain ⟨_, ⟨A, h1, h2, _⟩ | ⟨g, b, cap, cur, h1, _⟩⟩ := h
 ·subst h2; exact ⟨A, 0, h1⟩
 ·exact ⟨_, _, h1⟩
def ckX (l : List Sy) : List Ck := if okLs l then clks l l.length else []
def raX (l : List Sy) : List (Nat × Nat) := if okLs l then racesL l else []
theorem clocks19x (A : Option Addr) (c : Nat) (l : List Sy) (w : World) (hA : RowAt w A (cellsS l)) :
  CallsV Try.prog 19 [.slice A l.length c] w fun v w' => ∃ (B : Option Addr) (bc : Nat), v = .tuple #[.slice B (ckX l).length bc, .int .i64 (errC l)] ∧ RowAt w' B (cellsC (ckX l)) ∧ Fresh w w' := by
 refine (clocks19 A c l w hA).mono ?_
 rintro v w' ⟨hf, ⟨ho, s, h1, h2⟩ | ⟨ho, h1⟩⟩
 ·obtain ⟨B, bc, rfl⟩ := ownsB_slice h2
  refine ⟨B, bc, ?_, ?_, hf⟩
  ·rw [h1]; unfold errC ckX; rw [if_pos ho, if_pos ho, clks_len]
  ·unfold ckX; rw [if_pos ho]; exact RowAt.of_own h2 rfl
 ·refine ⟨none, 0, ?_, ?_, hf⟩
  ·rw [h1]; unfold errC ckX; rw [if_neg ho, if_neg ho]; rfl
  ·unfold ckX; rw [if_neg ho]; exact fun j u hj => by simp [cellsC] at hj
theorem clocks20x (A : Option Addr) (c : Nat) (l : List Sy) (w : World) (hA : RowAt w A (cellsS l)) (hl : l.length ≤ 1000) :
  CallsV Try.prog 20 [.slice A l.length c] w fun v w' => ∃ (B : Option Addr) (bc : Nat), v = .tuple #[.slice B (ckX l).length bc, .int .i64 (errC l)] ∧ RowAt w' B (cellsC (ckX l)) ∧ Fresh w w' := by
 refine (refclocks20 A c l w hA hl).mono ?_
 rintro v w' ⟨hf, ⟨ho, B, bc, h1, h2⟩ | ⟨ho, h1⟩⟩
 ·refine ⟨B, bc, ?_, ?_, hf⟩
  ·rw [h1]; unfold errC ckX; rw [if_pos ho, if_pos ho, clks_len]
  ·unfold ckX; rw [if_pos ho]; exact h2
 ·refine ⟨none, 0, ?_, ?_, hf⟩
  ·rw [h1]; unfold errC ckX; rw [if_neg ho, if_neg ho]; rfl
  ·unfold ckX; rw [if_neg ho]; exact fun j u hj => by simp [cellsC] at hj
theorem races21x (A : Option Addr) (c : Nat) (l : List Sy) (w : World) (hA : RowAt w A (cellsS l)) :
  CallsV Try.prog 21 [.slice A l.length c] w fun v w' => ∃ (B : Option Addr) (bc : Nat), v = .tuple #[.slice B (raX l).length bc, .int .i64 (errC l)] ∧ RowAt w' B (cellsP (raX l)) ∧ Fresh w w' := by
 refine (races21 A c l w hA).mono ?_
 rintro v w' ⟨hf, ⟨ho, s, h1, h2⟩ | ⟨ho, h1⟩⟩
 ·obtain ⟨B, bc, rfl⟩ := ownsB_slice h2
  refine ⟨B, bc, ?_, ?_, hf⟩
  ·rw [h1]; unfold errC raX; rw [if_pos ho, if_pos ho]
  ·unfold raX; rw [if_pos ho]; exact RowAt.of_own h2 rfl
 ·refine ⟨none, 0, ?_, ?_, hf⟩
  ·rw [h1]; unfold errC raX; rw [if_neg ho, if_neg ho]; rfl
  ·unfold raX; rw [if_neg ho]; exact fun j u hj => by simp [cellsP] at hj
theorem races22x (A : Option Addr) (c : Nat) (l : List Sy) (w : World) (hA : RowAt w A (cellsS l)) (hl : l.length ≤ 1000) :
  CallsV Try.prog 22 [.slice A l.length c] w fun v w' => ∃ (B : Option Addr) (bc : Nat), v = .tuple #[.slice B (raX l).length bc, .int .i64 (errC l)] ∧ RowAt w' B (cellsP (raX l)) ∧ Fresh w w' := by
 refine (refraces22 A c l w hA hl).mono ?_
 rintro v w' ⟨hf, ⟨ho, B, bc, h1, h2⟩ | ⟨ho, h1⟩⟩
 ·refine ⟨B, bc, ?_, ?_, hf⟩
  ·rw [h1]; unfold errC raX; rw [if_pos ho, if_pos ho]
  ·unfold raX; rw [if_pos ho]; exact h2
 ·refine ⟨none, 0, ?_, ?_, hf⟩
  ·rw [h1]; unfold errC raX; rw [if_neg ho, if_neg ho]; rfl
  ·unfold raX; rw [if_neg ho]; exact fun j u hj => by simp [cellsP] at hj
theorem raX_len (l : List Sy) : (raX l).length ≤ 160000 := by
 unfold raX
 split
 ·rename_i ho
  have := racesTo_len l l.length l.length
  have h2 := Nat.mul_le_mul ho.1 ho.1
  show (racesTo l l.length l.length).length ≤ _
  omega
 ·simp
theorem ckX_len (l : List Sy) : (ckX l).length ≤ 400 := by
 unfold ckX
 split
 ·rename_i ho; rw [clks_len]; exact ho.1
 ·simp
theorem law4c (A : Option Addr) (c : Nat) (l : List Sy) (i k : Int) (w : World) (hA : RowAt w A (cellsS l)) :
  CallsV Try.prog 4 [.slice A l.length c, .int .i64 i, .int .i64 k] w fun v w' => v = .bool true ∧ Fresh w w' := by
 refine calls_go (keep := K4) (nt := 147) (svs := [.val (.slice A l.length c), .val (.int .i64 i), .val (.int .i64 k)]) Try.func4 x4 n4 (by simp) (by simp [IsL, Is]) fun R hR => ?_
 (refine Y_go 600 ?_; dsimp only [X4, numF, Nat.reduceAdd, zq9r, zq9q, Y_k, zq4u, zq8p, zq6p, YK, zq8t, zq9i, normF, zq6n, Nat.reduceBEq, zq6l, zq6k, zq6m, zq86, zq8a, zq87, zq9y, t4n15, T4n15, zq8o, zq55, zq0r, zq50, zq6q, zq04, zq92, zq9b, zq0i, zq9g, Y_gk, zq6d, YR, zq69, zq9f, zq4v, zq0b, zq6e, YS, zq6a, zq6o, zq89, zq9s, zq6f, YC, t4n0, T4n0, zq9x, zq6c, zq0c, zq6h, zq8x, zq9p, t4n14, T4n14, zq9j, zq6b])
 have done0 : ∀ s, denAll s.H s.F [6] = some [.bool true] → RetG (cxOf Try.prog Try.f4 K4 T4 R) ⟨w, w.heap.size, [], 147, []⟩ s := fun s hs =>
  ret_rule (vs := [.bool true]) r4 rfl hs fun W hW => hR _ _ ⟨rfl, hW.fresh'⟩
 have rest : l.length ≤ 500 → G (cxOf Try.prog Try.f4 K4 T4 R) ⟨w, w.heap.size, [], 147, []⟩ [.ops [{ dst := some 34, guard := none, i := .call 18 [.tmp 33] }, { dst := some 7, guard := none, i := .k (.mov (.tmp 34)) }], .code (.ref 13)]
   { F := [(33, .val (.slice A l.length c)), (0, .val (.slice A l.length c)), (1, .val (.int .i64 i)), (2, .val (.int .i64 k))], H := [] } := by
  intro hl
  refine call_base (vs := [.slice A l.length c]) rfl (R := fun W v w' => ∃ (B : Option Addr) (bc : Nat), v = .slice B (l.length + 1) bc ∧ l.length + 1 ≤ bc ∧ RowAt w' B (cellsS (tailS l)) ∧ Fresh W w') (fun W hW => twin18 A c l W (hA.keep hW.fresh') (by omega)) (fun _ _ _ hr => by obtain ⟨_, _, _, _, _, hf⟩ := hr; exact hf) fun W v W1 hW hr ov => ?_
  obtain ⟨B, bc, hv, hbc, hB1, hf⟩ := hr
  refine ⟨.val (.slice B (l.length + 1) bc), by rw [hv]; simp [Is], ?_⟩
  have f1 : Fresh w W1 := hW.fresh'.tr hf
  have hA1 := hA.keep f1
  have hP : ∀ {W : World}, RowAt W B (cellsS (tailS l)) → RowAt W B (cellsS l) := fun h j u hj => h j u (by
   unfold tailS; rw [cellsS_app, List.getElem?_append_left (List.getElem?_eq_some_iff.1 hj).1]; exact hj)
  simp only [putF]
  show G _ ⟨W1, W1.heap.size, [], 147, []⟩ _ _
  clear hv hf ov hW W
  (refine Y_go 600 ?_; dsimp only [Y_k, zq4u, zq8o, zq6n, Nat.reduceBEq, zq6k, YK, zq8t, zq9i, normF, zq6l, zq6m, zq86, zq87, zq9y, t4n13, T4n13, zq9r, zq9q, zq55, zq0r, zq5o, zq3a, zq39, zq06, zq37, zq3f, zq97, Int.reduceToNat, zq9j])
  refine ⟨⟨by omega, by omega, by omega⟩, ?_⟩
  rw [Int.toNat_natCast, Nat.sub_zero, Nat.sub_zero]
  refine call_base (vs := [.slice B l.length bc]) rfl (R := fun W v w' => ∃ (B : Option Addr) (bc : Nat), v = .tuple #[.slice B (ckX l).length bc, .int .i64 (errC l)] ∧ RowAt w' B (cellsC (ckX l)) ∧ Fresh W w') (fun W hW => clocks19x B bc l W ((hP hB1).keep hW.fresh')) (fun _ _ _ hr => by obtain ⟨_, _, _, _, hf⟩ := hr; exact hf) fun W v W2 hW hr ov => ?_
  obtain ⟨C2, cc2, hv, hC2, hf⟩ := hr
  refine ⟨.tup [.val (.slice C2 (ckX l).length cc2), .val (.int .i64 (errC l))], by rw [hv]; simp [Is, IsL], ?_⟩
  have f2 : Fresh W1 W2 := hW.fresh'.tr hf
  have hA2 := hA1.keep f2
  have hB2 := hB1.keep f2
  simp only [putF]
  show G _ ⟨W2, W2.heap.size, [], 147, []⟩ _ _
  clear hv hf ov hW W
  (refine Y_go 600 ?_; dsimp only [Y_k, zq4u, zq8o, zq6n, Nat.reduceBEq, zq6k, YK, zq8t, zq5j, zq2f, nth, zq2e, zq6l, zq9i, normF, zq6m, zq86, zq87, zq9y, t4n12, T4n12, zq9r, zq9q, zq9j])
  refine call_base (vs := [.slice A l.length c]) rfl (R := fun W v w' => ∃ (B : Option Addr) (bc : Nat), v = .tuple #[.slice B (ckX l).length bc, .int .i64 (errC l)] ∧ RowAt w' B (cellsC (ckX l)) ∧ Fresh W w') (fun W hW => clocks20x A c l W (hA2.keep hW.fresh') (by omega)) (fun _ _ _ hr => by obtain ⟨_, _, _, _, hf⟩ := hr; exact hf) fun W v W3 hW hr ov => ?_
  obtain ⟨C3, cc3, hv, hC3, hf⟩ := hr
  refine ⟨.tup [.val (.slice C3 (ckX l).length cc3), .val (.int .i64 (errC l))], by rw [hv]; simp [Is, IsL], ?_⟩
  have f3 : Fresh W2 W3 := hW.fresh'.tr hf
  have hA3 := hA2.keep f3
  have hB3 := hB2.keep f3
  have hC2_3 := hC2.keep f3
  simp only [putF]
  show G _ ⟨W3, W3.heap.size, [], 147, []⟩ _ _
  clear hv hf ov hW W
  (refine Y_go 600 ?_; dsimp only [Y_k, zq4u, zq8o, zq6n, Nat.reduceBEq, zq6k, YK, zq8t, zq5j, zq2f, nth, zq2e, zq6l, zq9i, normF, zq6m, zq86, zq87, zq9y, t4n11, T4n11, zq9r, zq9q, zq55, zq0r, zq5o, zq3a, zq39, zq06, zq37, zq3f, zq97, Int.reduceToNat, zq9j])
  refine ⟨⟨by omega, by omega, by omega⟩, ?_⟩
  rw [Int.toNat_natCast, Nat.sub_zero, Nat.sub_zero]
  refine call_base (vs := [.slice B l.length bc]) rfl (R := fun W v w' => ∃ (B : Option Addr) (bc : Nat), v = .tuple #[.slice B (raX l).length bc, .int .i64 (errC l)] ∧ RowAt w' B (cellsP (raX l)) ∧ Fresh W w') (fun W hW => races21x B bc l W ((hP hB3).keep hW.fresh')) (fun _ _ _ hr => by obtain ⟨_, _, _, _, hf⟩ := hr; exact hf) fun W v W4 hW hr ov => ?_
  obtain ⟨C4, cc4, hv, hC4, hf⟩ := hr
  refine ⟨.tup [.val (.slice C4 (raX l).length cc4), .val (.int .i64 (errC l))], by rw [hv]; simp [Is, IsL], ?_⟩
  have f4 : Fresh W3 W4 := hW.fresh'.tr hf
  have hA4 := hA3.keep f4
  have hB4 := hB3.keep f4
  have hC2_4 := hC2_3.keep f4
  have hC3_4 := hC3.keep f4
  simp only [putF]
  show G _ ⟨W4, W4.heap.size, [], 147, []⟩ _ _
  clear hv hf ov hW W
  (refine Y_go 600 ?_; dsimp only [Y_k, zq4u, zq8o, zq6n, Nat.reduceBEq, zq6k, YK, zq8t, zq5j, zq2f, nth, zq2e, zq6l, zq9i, normF, zq6m, zq86, zq87, zq9y, t4n10, T4n10, zq9r, zq9q, zq9j])
  refine call_base (vs := [.slice A l.length c]) rfl (R := fun W v w' => ∃ (B : Option Addr) (bc : Nat), v = .tuple #[.slice B (raX l).length bc, .int .i64 (errC l)] ∧ RowAt w' B (cellsP (raX l)) ∧ Fresh W w') (fun W hW => races22x A c l W (hA4.keep hW.fresh') (by omega)) (fun _ _ _ hr => by obtain ⟨_, _, _, _, hf⟩ := hr; exact hf) fun W v W5 hW hr ov => ?_
  obtain ⟨C5, cc5, hv, hC5, hf⟩ := hr
  refine ⟨.tup [.val (.slice C5 (raX l).length cc5), .val (.int .i64 (errC l))], by rw [hv]; simp [Is, IsL], ?_⟩
  have f5 : Fresh W4 W5 := hW.fresh'.tr hf
  have hA5 := hA4.keep f5
  have hB5 := hB4.keep f5
  have hC2_5 := hC2_4.keep f5
  have hC3_5 := hC3_4.keep f5
  have hC4_5 := hC4.keep f5
  simp only [putF]
  show G _ ⟨W5, W5.heap.size, [], 147, []⟩ _ _
  clear hv hf ov hW W
  (refine Y_go 600 ?_; dsimp only [Y_k, zq4u, zq8o, zq6n, Nat.reduceBEq, zq6k, YK, zq8t, zq5j, zq2f, nth, zq2e, zq6l, zq9i, normF, zq6m, zq86, zq87, zq9y, t4n9, T4n9, zq9r, zq9q, zq50, zq04, zq92, zq9b, zq0i, zq9d, Y_gk, zq6e, YS, zq6a, zq4v, zq8p, zq6o, zq0b, zq9l, zq89, zq9s, zq6f, YC, t4n1, T4n1, zq6p, zq8a, zq9x, YR, zq6c, zq0c, YG])
  refine ⟨fun q => absurd q (by simp), fun _ => ⟨fun q => absurd q (by simp), fun _ => ?_⟩⟩
  refine call_val (R := fun v => v = .bool true) (vs := [.slice C2 (ckX l).length cc2, .slice C3 (ckX l).length cc3]) rfl (fun W hW => like23 C2 C3 cc2 cc3 (ckX l) W (hC2_5.keep hW.fresh') (hC3_5.keep hW.fresh') (by have := ckX_len l; omega)) fun v hv => ⟨.bt, by rw [hv]; simp [Is], ?_⟩
  (refine Y_go 600 ?_; dsimp only [zq8t, Y_gk, zq6n, Nat.reduceBEq, zq6l, zq6k, zq6c, YR, zq53, zq8o, zq0m, YK, Y_k, zq4v, zq8p, zq6o, zq0c, zq4u, zq9l, YG])
  refine call_val (R := fun v => v = .bool true) (vs := [.slice C4 (raX l).length cc4, .slice C5 (raX l).length cc5]) rfl (fun W hW => pairs24 C4 C5 cc4 cc5 (raX l) W (hC4_5.keep hW.fresh') (hC5.keep hW.fresh') (by have := raX_len l; omega)) fun v hv => ⟨.bt, by rw [hv]; simp [Is], ?_⟩
  (refine Y_go 600 ?_; dsimp only [zq8t, Y_gk, zq6n, Nat.reduceBEq, zq6l, zq6k, zq6c, YR, zq53, zq8o, zq0m, YK, Y_k, zq4v, zq8p, zq6o, zq0c, zq9i, normF, zq6m, zq86, zq8a, zq87, zq9s, zq6g, YC, zq9p, zq9y, t4n8, T4n8, zq9r, zq9q, zq4u, zq55, zq0r, zq5o, zq3a, zq39, zq06, zq37, zq3f, zq97, Int.reduceToNat, zq9j])
  refine ⟨⟨by omega, by omega, by omega⟩, ?_⟩
  rw [Int.toNat_natCast, Nat.sub_zero, Nat.sub_zero]
  have fw : Fresh w W5 := f1.tr (f2.tr (f3.tr (f4.tr f5)))
  have sB : B.isSome = true := hB5.isSome (j := 0) (by rw [cellsS_len]; unfold tailS; simp)
  have bB : 0 ≤ (l.length : Int) ∧ (l.length : Int) < ((l.length + 1 : Nat) : Int) ∧ B.isSome = true := ⟨by omega, by omega, sB⟩
  have fin : ∀ W, Fresh W5 W → G (cxOf Try.prog Try.f4 K4 T4 R) ⟨W, W.heap.size, [], 147, []⟩ [.ops [{ dst := some 136, guard := none, i := .call 27 [.tmp 134, .tmp 135] }, { dst := some 137, guard := none, i := .k (.pick (.tmp 130) (.tmp 136) (.const (.bool false))) }, { dst := some 138, guard := none, i := .k (.mov (.tmp 137)) }, { dst := some 139, guard := some (138, true), i := .k (.mov (.tmp 7)) }, { dst := some 140, guard := some (138, true), i := .k (.mov (.tmp 0)) }, { dst := some 141, guard := some (138, true), i := .k (.lenS (.tmp 140)) }, { dst := some 142, guard := some (138, true), i := .k (.idx 3 (.tmp 139) (.tmp 141)) }, { dst := some 143, guard := some (138, true), i := .k (.fld 0 (.tmp 142)) }, { dst := some 144, guard := some (138, true), i := .k (.load [.int .i64] false (.tmp 143)) }, { dst := some 145, guard := some (138, true), i := .k (.cmp .eql .i64 (.tmp 144) (.const (.int .i64 77))) }, { dst := some 146, guard := none, i := .k (.pick (.tmp 138) (.tmp 145) (.const (.bool false))) }, { dst := some 6, guard := none, i := .k (.mov (.tmp 146)) }], .code .ret]
    { F := [(135, .val (.slice A l.length c)), (134, .val (.slice B ((l.length : Int).toNat - 0) (bc - 0))), (130, .bt), (0, .val (.slice A l.length c)), (7, .val (.slice B (l.length + 1) bc))], H := [] } := by
   intro W6 f6
   rw [Int.toNat_natCast, Nat.sub_zero, Nat.sub_zero]
   have hB6 := hB5.keep f6
   have hA6 := hA5.keep f6
   have c77 : CellAt ⟨W6, W6.heap.size, [], 147, []⟩ B ((l.length : Int).toNat * 3) (.int .i64 77) := (rowE0c hB6 147 []).cell (by
    rw [Int.toNat_natCast]; unfold tailS; rw [cellsS_app, List.getElem?_append_right (by rw [cellsS_len]; omega), cellsS_len, Nat.sub_self]; rfl)
   refine call_val (R := fun v => v = .bool true) (vs := [.slice B l.length bc, .slice A l.length c]) rfl (fun W hW => same27c B A bc c l l W ((hP hB6).keep hW.fresh') (hA6.keep hW.fresh') (by omega) rfl) fun v hv => ⟨.bt, by rw [hv]; simp [Is], ?_⟩
   (refine Y_go 600 ?_; dsimp only [zq8t, Y_k, zq4v, zq8o, zq6n, Nat.reduceBEq, zq6k, zq8p, zq6p, zq6l, zq0b, YK, zq4u, Y_gk, zq69, YR, zq55, zq0r, zq58, zq06, zq0w, zq5a, zq16, Nat.add_zero, zq5c, zq1p, zq1c, List.nil_append, zq1b, zq18, zq50, zq6q, zq04, zq92, zq9b, zq0i, zq9c, zq9i, normF, zq6m, zq86, zq87, zq9x])
   refine ⟨bB, sB, _, c77, ?_⟩
   exact ret_rule (vs := [.bool true]) r4 rfl rfl fun W hW => hR _ _ ⟨rfl, fw.tr (f6.tr hW.fresh')⟩
  by_cases hin : okLs l ∧ inL l i ∧ inL l k
  ·obtain ⟨ho, ⟨hi0, hi1⟩, hk0, hk1⟩ := hin
   have he : errC l = 0 := by unfold errC; rw [if_pos ho]
   have ha : aheadV l i k = .tuple #[.bool (ahB (clks l l.length) i k), .int .i64 0] := by unfold aheadV; rw [if_pos ⟨ho, ⟨hi0, hi1⟩, hk0, hk1⟩]
   refine call_val (R := fun v => v = .tuple #[.bool (ahB (clks l l.length) i k), .int .i64 0]) (vs := [.slice B l.length bc, .int .i64 i, .int .i64 k]) rfl (fun W hW => (ahead25 B bc l i k W ((hP hB5).keep hW.fresh')).mono fun v w' q => ⟨by rw [q.1, ha], q.2⟩) fun v hv => ⟨.tup [.val (.bool (ahB (clks l l.length) i k)), .val (.int .i64 0)], by rw [hv]; simp [Is, IsL], ?_⟩
   rw [he]
   have hab : ahB (clks l l.length) i k = hbB l i.toNat k.toNat := by
    have := ahB_eq ho (i := i.toNat) (k := k.toNat) (by omega) (by omega)
    rw [Int.toNat_of_nonneg hi0, Int.toNat_of_nonneg hk0] at this
    rw [Bool.eq_iff_iff, this]; unfold hbB; simp
   generalize ahB (clks l l.length) i k = xb at hab ⊢
   (refine Y_go 600 ?_; dsimp only [zq8t, Y_k, zq4u, zq8o, zq6n, Nat.reduceBEq, zq6k, YK, zq5j, zq2f, nth, zq2e, zq6l, zq9i, normF, zq6m, zq86, zq8a, zq87, zq9y, t4n7, T4n7, zq9r, zq9q, zq8p, zq6p, t4n6, T4n6, zq50, zq6q, zq04, zq92, zq9b, zq0i, zq9d, Y_gk, zq6e, YS, zq6a, zq4v, zq6o, zq0b, zq89, t4n4, T4n4, zq9s, zq6f, YC, t4n5, T4n5, zq51, zq8w, zq8v, zq0k, zq6d, YR, zq69, zq9c, zq55, zq0r, zq5o, zq3a, zq39, zq06, zq37, zq3f, zq97, Int.reduceToNat, zq9l, YG, zq6b, zq0c, zq9x, zq6c, zq9e, zq9h, zq6h, zq8x, t4n3, T4n3, zq9j])
   repeat' first
    | (refine ⟨fun q => ?_, fun q => ?_⟩ <;> first | (exfalso; revert q; decide) | (exfalso; have := of_decide_eq_true q; omega) | skip)
    | fail
   obtain ⟨p, rfl⟩ : ∃ p : Nat, i = p := ⟨i.toNat, by omega⟩
   obtain ⟨r, rfl⟩ : ∃ r : Nat, k = r := ⟨k.toNat, by omega⟩
   rw [Int.toNat_natCast, Int.toNat_natCast] at hab
   have hpl : p < l.length := by omega
   have hql : r < l.length := by omega
   refine call_base (vs := [.slice A l.length c]) rfl (R := fun W v w' => ∃ (gs : Nat → Nat) (B : Option Addr) (bc : Nat), v = .slice B l.length bc ∧ TabAt w' B gs (hbB l) l.length l.length ∧ Fresh W w') (fun W hW => refahead26 A c l W (hA5.keep hW.fresh') ho.1 ho.2) (fun _ _ _ hr => by obtain ⟨_, _, _, _, _, hf⟩ := hr; exact hf) fun W v W6 hW hr ov => ?_
   obtain ⟨gs, T, tc, hv, hT, hf⟩ := hr
   refine ⟨.val (.slice T l.length tc), by rw [hv]; simp [Is], ?_⟩
   have f6 : Fresh W5 W6 := hW.fresh'.tr hf
   simp only [putF]
   show G _ ⟨W6, W6.heap.size, [], 147, []⟩ _ _
   clear hv hf ov hW W
   have bT : 0 ≤ (p : Int) ∧ (p : Int) < (l.length : Int) ∧ T.isSome = true := ⟨by omega, by omega, hT.1.isSome (j := p) (by rw [tabV_len]; omega)⟩
   have bk2 : 0 ≤ (r : Int) ∧ (r : Int) < (l.length : Int) ∧ (some (⟨gs p, 0, none⟩ : Addr)).isSome = true := ⟨by omega, by omega, rfl⟩
   have ct : CellAt ⟨W6, W6.heap.size, [], 147, []⟩ T ((p : Int).toNat * 1) (.slice (some ⟨gs p, 0, none⟩) l.length l.length) := (rowE0c hT.1 147 []).cell (by rw [Int.toNat_natCast, Nat.mul_one]; exact tabV_get (by omega))
   have cb : CellAt ⟨W6, W6.heap.size, [], 147, []⟩ (some ⟨gs p, 0, none⟩) ((r : Int).toNat * 1) (.bool (hbB l p r)) := (rowE0c (hT.2 p (by omega)) 147 []).cell (by rw [Int.toNat_natCast, Nat.mul_one]; exact rwV_get _ (by omega))
   rw [← hab] at cb
   (refine Y_go 600 ?_; dsimp only [Y_k, zq4u, zq8o, zq6n, Nat.reduceBEq, zq6k, YK, zq8t, zq9i, normF, zq6l, zq6m, zq8a, zq86, zq87, zq9y, t4n2, T4n2, zq9q, zq58, zq06, zq0w, zq5c, zq1p, zq1g, List.nil_append, zq1b, zq18, zq1d, t4n5, T4n5, zq9r, zq51, zq8w, zq0k, Y_gk, zq6d, YR, zq69, zq50, zq04, zq92, zq9b, zq0i, zq9c, zq4v, zq8p, zq6p, zq0b, zq55, zq0r, zq5o, zq3a, zq39, zq37, zq3f, zq97, Int.reduceToNat, zq9l, YG, YS, zq6b, zq0c, zq9x])
   refine ⟨bT, _, _, _, ct, bk2, _, cb, ?_⟩
   repeat' first
    | (refine ⟨fun q => ?_, fun q => ?_⟩ <;> first | (exfalso; revert q; decide) | (exfalso; revert q; cases xb <;> decide) | skip)
    | (refine ⟨⟨by omega, by omega, by omega⟩, ?_⟩; exact G.le rfl (fun a W rep => rep.le (by (simp only [setn, List.nil_append, List.cons_append, leF, leH_nil, leH_cons, leF_nil, lk, scp, scpL, scpO, resF, resH, resO, resV, resVL, nth, Nat.reduceBEq, Nat.reduceLT, decide_true, decide_false, List.length, List.length_cons, List.length_nil, Nat.reduceAdd, Bool.and_self, Bool.and_true, and_true, true_and, numF] <;> try simp)) (by (simp only [setn, List.nil_append, List.cons_append, leF, leH_nil, leH_cons, leF_nil, lk, scp, scpL, scpO, resF, resH, resO, resV, resVL, nth, Nat.reduceBEq, Nat.reduceLT, decide_true, decide_false, List.length, List.length_cons, List.length_nil, Nat.reduceAdd, Bool.and_self, Bool.and_true, and_true, true_and, numF] <;> try simp))) (fin W6 f6))
    | fail
  ·have ha : aheadV l i k = .tuple #[.bool false, .int .i64 260] := by unfold aheadV; rw [if_neg hin]
   refine call_val (R := fun v => v = .tuple #[.bool false, .int .i64 260]) (vs := [.slice B l.length bc, .int .i64 i, .int .i64 k]) rfl (fun W hW => (ahead25 B bc l i k W ((hP hB5).keep hW.fresh')).mono fun v w' q => ⟨by rw [q.1, ha], q.2⟩) fun v hv => ⟨.tup [.bf, .val (.int .i64 260)], by rw [hv]; simp [Is, IsL], ?_⟩
   (refine Y_go 600 ?_; dsimp only [zq8t, Y_k, zq4u, zq8o, zq6n, Nat.reduceBEq, zq6k, YK, zq5j, zq2f, nth, zq2e, zq6l, zq9i, normF, zq6m, zq86, zq8a, zq87, zq9y, t4n7, T4n7, zq9r, zq9q, zq8p, zq6p, t4n6, T4n6, zq50, zq6q, zq04, zq92, zq9b, zq0i, zq9d, Y_gk, zq6e, YS, zq6a, zq4v, zq6o, zq0b, zq89, t4n4, T4n4, zq9s, zq6f, YC, t4n5, T4n5, zq51, zq8v, zq0k, zq6d, YR, zq69, zq9c, zq55, zq0r, zq5o, zq3a, zq39, zq06, zq37, zq3f, zq97, Int.reduceToNat, zq9l, YG, zq6b, zq0c, zq9x, zq6c, zq9e, zq9h, zq6h, zq8x, t4n3, T4n3, zq9j])
   have hin' : errC l ≠ 0 ∨ i < 0 ∨ k < 0 ∨ (l.length : Int) ≤ i ∨ (l.length : Int) ≤ k := by
    refine Decidable.byContradiction fun h => hin ?_
    have ho : okLs l := Decidable.byContradiction fun hn => h (.inl (by unfold errC; rw [if_neg hn]; decide))
    unfold inL
    exact ⟨ho, by omega, by omega⟩
   repeat' first
    | (refine ⟨fun q => ?_, fun q => ?_⟩ <;> first | (exfalso; revert q; decide) | skip)
    | (refine ⟨⟨by omega, by omega, by omega⟩, ?_⟩; exact G.le rfl (fun a W rep => rep.le (by (simp only [setn, List.nil_append, List.cons_append, leF, leH_nil, leH_cons, leF_nil, lk, scp, scpL, scpO, resF, resH, resO, resV, resVL, nth, Nat.reduceBEq, Nat.reduceLT, decide_true, decide_false, List.length, List.length_cons, List.length_nil, Nat.reduceAdd, Bool.and_self, Bool.and_true, and_true, true_and, numF] <;> try simp)) (by (simp only [setn, List.nil_append, List.cons_append, leF, leH_nil, leH_cons, leF_nil, lk, scp, scpL, scpO, resF, resH, resO, resV, resVL, nth, Nat.reduceBEq, Nat.reduceLT, decide_true, decide_false, List.length, List.length_cons, List.length_nil, Nat.reduceAdd, Bool.and_self, Bool.and_true, and_true, true_and, numF] <;> try simp))) (fin W5 (Keep.refl _ _)))
    | fail
   exfalso
   clear fin
   simp at *
   omega
 refine ⟨fun _ => ⟨fun _ => done0 _ rfl, fun _ => ⟨fun _ => done0 _ rfl, fun q => ?_⟩⟩, fun _ => ⟨fun _ => done0 _ rfl, fun q => ?_⟩⟩
 all_goals
  have := of_decide_eq_false q
  exact G.le rfl (fun a W rep => rep.le (by (simp only [setn, List.nil_append, List.cons_append, leF, leH_nil, leH_cons, leF_nil, lk, scp, scpL, scpO, resF, resH, resO, resV, resVL, nth, Nat.reduceBEq, Nat.reduceLT, decide_true, decide_false, List.length, List.length_cons, List.length_nil, Nat.reduceAdd, Bool.and_self, Bool.and_true, and_true, true_and, numF] <;> try simp)) (by (simp only [setn, List.nil_append, List.cons_append, leF, leH_nil, leH_cons, leF_nil, lk, scp, scpL, scpO, resF, resH, resO, resV, resVL, nth, Nat.reduceBEq, Nat.reduceLT, decide_true, decide_false, List.length, List.length_cons, List.length_nil, Nat.reduceAdd, Bool.and_self, Bool.and_true, and_true, true_and, numF] <;> try simp))) (rest (by omega))
end Go.Proofs.Ytnedgfkgmdoahaa
